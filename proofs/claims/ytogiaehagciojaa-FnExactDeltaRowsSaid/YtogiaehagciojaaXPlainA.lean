/- What the mirrors come to, in plain Lean: the law itself at the end. -/
import Derived.Test.YtogiaehagciojaaXW4
import Derived.Test.YtogiaehagciojaaLd
set_option linter.unusedVariables false
set_option linter.unusedSimpArgs false
set_option linter.unnecessarySimpa false
namespace Go.Proofs.Ytogiaehagciojaa
open Go.Proofs Go.Lift
abbrev V := S_impl_Value
abbrev Row := List V
abbrev Rows := List Row

def cmpI (a b : Int) : Int := if a < b then -1 else if b < a then 1 else 0
def cmpS (a b : ByteArray) : Int := if sLt a b then -1 else if sLt a b || sEq a b then 0 else 1
def orI (l : List Int) : Int := (l.find? (· != 0)).getD 0
def lower (l : List UInt8) : Bool := l.all fun b => decide (97 ≤ b.toNat) && decide (b.toNat ≤ 122)
/-- A value is one. -/
def vOk (v : V) : Bool :=
  if v.Kind = 0 then decide (v = ⟨0, 0, ⟨#[]⟩⟩)
  else if v.Kind = 1 then decide (v.S = ⟨#[]⟩) && (decide (-9999 ≤ v.N) && decide (v.N ≤ 9999))
  else if v.Kind = 2 then decide (v.N = 0) && decide (v.S.size ≤ 6) && lower v.S.data.toList
  else if v.Kind = 3 then decide (v.S = ⟨#[]⟩) && (decide (0 ≤ v.N) && decide (v.N ≤ 1))
  else false
def vOrd (v w : V) : Int := orI [cmpI v.Kind w.Kind, cmpI v.N w.N, cmpS v.S w.S]
def rowMany (rs : Rows) (r : Row) : Nat := rs.countP fun x => decide (x = r)
def rowOk (l : Row) : Bool := decide (l.length ≤ 4) && l.all vOk
/-- As memory holds it with ease. -/
def vSm (v : V) : Prop := v.S.size ≤ 1100000
def rSm (l : Row) : Prop := l.length ≤ 1100000 ∧ ∀ v ∈ l, vSm v
def rsSm (l : Rows) : Prop := l.length ≤ 400000000 ∧ ∀ r ∈ l, rSm r
def cmpL {α : Type} (p : α → α → Int) : List α → List α → Int
  | [], [] => 0
  | [], _ :: _ => -1
  | _ :: _, [] => 1
  | a :: x, b :: y => if p a b = 0 then cmpL p x y else p a b
def vvOrd (a b : V) : Int := if vOk a && vOk b then vOrd a b else 0
def rOrd (a b : Row) : Int := orI [cmpL vOrd a b, cmpI a.length b.length]
def rrOrd (a b : Row) : Int := if rowOk a && rowOk b then rOrd a b else 0

theorem E_l3Same {a b : Row} (ha : a.length ≤ 900000000) : m_spec_l3Same a b = some (decide (a = b)) := by
  unfold m_spec_l3Same
  by_cases h : a.length = b.length
  · have hc : ((a.length : Int) != (b.length : Int)) = false := by simp [h]
    rw [hc, cond_false, ← all2_eq h]
    refine scan2 a b h (fun n k => m_spec_l3Same_l1 n a b k) (fun n k x y hx hy => ?_) (fun n => ?_) _ (by omega)
    · have := lt_of_at hx
      simp only [m_spec_l3Same_l1, dlt this, at_of hx, at_of hy, ck1 (show k < 1000000000000 by omega), Option.bind_some, cond_true]
      cases decide (x = y) <;> rfl
    · simp only [m_spec_l3Same_l1, dnlt]; rfl
  · have hc : ((a.length : Int) != (b.length : Int)) = true := by simp; omega
    rw [hc, cond_true]
    have : a ≠ b := fun e => h (by rw [e])
    simp [this]
theorem E_spec_RowMany {rs : Rows} {r : Row} (h : rs.length ≤ 900000000) (hr : ∀ x ∈ rs, x.length ≤ 900000000) : m_spec_RowMany rs r = some (rowMany rs r : Int) := by
  unfold m_spec_RowMany rowMany
  refine scanN (p := fun x => decide (x = r)) (J := fun s => some s) rs (fun n k s => m_spec_RowMany_l1 n rs r s k) (fun n k x s hx h0 h1 => ?_) (fun n s => ?_) _ (by omega)
  · have := lt_of_at hx
    rw [m_spec_RowMany_l1, dlt this, cond_true, at_of hx, Option.bind_some, E_l3Same (hr x (List.mem_of_getElem? hx)), Option.bind_some]
    simp only [m_spec_RowMany_j1]
    rw [ckI_of (by omega) (by omega), ck1 (show k < 1000000000000 by omega)]
    cases decide (x = r) <;> rfl
  · simp only [m_spec_RowMany_l1, dnlt]; rfl
theorem E_IndexFunc_V {l : Row} {p : V → Option Bool} {q : V → Bool} (hl : l.length ≤ 900000000) (hp : ∀ v ∈ l, p v = some (q v)) : m_slices_ContainsFunc_Limpl_Value_impl_Value l p = some (l.any q) := by
  unfold m_slices_ContainsFunc_Limpl_Value_impl_Value m_slices_IndexFunc_Limpl_Value_impl_Value
  have key : ∀ (ys : Row) (k n : Nat), l.drop k = ys → k ≤ l.length → ys.length < n → ∃ i : Int, m_slices_IndexFunc_Limpl_Value_impl_Value_l1 p n l (l.length : Int) (k : Int) = some i ∧ decide (i ≥ 0) = ys.any q := by
    intro ys
    induction ys with
    | nil =>
      intro k n hd hk hn
      have : k = l.length := by
        have := congrArg List.length hd
        simp at this; omega
      subst this
      obtain ⟨m, rfl⟩ : ∃ m, n = m + 1 := ⟨n - 1, by simp at hn; omega⟩
      exact ⟨-1, by simp only [m_slices_IndexFunc_Limpl_Value_impl_Value_l1, dnlt]; rfl, rfl⟩
    | cons y ys ih =>
      intro k n hd hk hn
      have hlt : k < l.length := by
        have := congrArg List.length hd
        simp at this; omega
      have hc := List.drop_eq_getElem_cons hlt
      rw [hd] at hc
      simp only [List.cons.injEq] at hc
      have hx : l[k]? = some y := by rw [List.getElem?_eq_getElem hlt, hc.1]
      obtain ⟨m, rfl⟩ : ∃ m, n = m + 1 := ⟨n - 1, by simp at hn; omega⟩
      simp only [m_slices_IndexFunc_Limpl_Value_impl_Value_l1, dlt hlt, at_of hx, hp y (List.mem_of_getElem? hx), ck1 (show k < 1000000000000 by omega), Option.bind_some, cond_true]
      cases hq : q y
      · obtain ⟨i, h1, h2⟩ := ih (k + 1) m hc.2.symm (by omega) (by simp at hn; omega)
        exact ⟨i, by simpa using h1, by rw [h2]; simp [hq]⟩
      · exact ⟨(k : Int), rfl, by simp [hq]⟩
  obtain ⟨i, h1, h2⟩ := key l 0 _ rfl (by omega) (show l.length < (((l.length : Int) - 0).toNat + 1) by omega)
  rw [show ((0 : Nat) : Int) = 0 from rfl] at h1
  rw [h1]
  simp only [Option.bind_some, h2]
theorem E_between (a b c : Int) : m_impl_between a b c = some (decide (b ≤ a) && decide (a ≤ c)) := by
  unfold m_impl_between m_impl_between_j1
  by_cases h : a ≥ b <;> simp [h]
theorem E_l1In (a b c : Int) : m_spec_l1In a b c = some (decide (b ≤ a) && decide (a ≤ c)) := by
  unfold m_spec_l1In m_spec_l1In_j1
  by_cases h : a ≥ b <;> simp [h]
theorem lower_any (l : List UInt8) : lower l = !(l.any fun b => !(decide (97 ≤ (b.toNat : Int)) && decide ((b.toNat : Int) ≤ 122))) := by
  unfold lower
  rw [List.all_eq_not_any_not]
  congr 2
  funext b
  congr 1
  have h1 : decide (97 ≤ b.toNat) = decide (97 ≤ (b.toNat : Int)) := by rw [decide_eq_decide]; omega
  have h2 : decide (b.toNat ≤ 122) = decide ((b.toNat : Int) ≤ 122) := by rw [decide_eq_decide]; omega
  rw [h1, h2]
theorem E_letters {s : ByteArray} (h : s.size ≤ 900000000) : m_impl_letters s = some (lower s.data.toList) := by
  unfold m_impl_letters sBytes?
  rw [if_pos (by omega)]
  simp only [Option.bind_some]
  have hl : s.data.toList.length ≤ 900000000 := h
  have := scanA (p := fun b : UInt8 => !(decide (97 ≤ (b.toNat : Int)) && decide ((b.toNat : Int) ≤ 122))) (r0 := false) (r1 := true) s.data.toList (fun n k => m_impl_letters_l1 n s.data.toList (s.data.toList.length : Int) k) (fun n k x hx => by
    have := lt_of_at hx
    simp only [m_impl_letters_l1, dlt this, at_of hx, E_between, ck1 (show k < 1000000000000 by omega), Option.bind_some, cond_true]) (fun n => by simp only [m_impl_letters_l1, dnlt]; rfl) _ fuel0
  rw [this, lower_any]
  cases s.data.toList.any fun b => !(decide (97 ≤ (b.toNat : Int)) && decide ((b.toNat : Int) ≤ 122)) <;> rfl
theorem sAt_of {s : ByteArray} {k : Nat} {x : UInt8} (h : s.data.toList[k]? = some x) : sAt? s (k : Int) = some x := by
  unfold sAt?
  rw [if_pos (by omega)]
  obtain ⟨h1, h2⟩ := List.getElem?_eq_some_iff.1 h
  have hs : k < s.size := by have := h1; rwa [Array.length_toList] at this
  have : s[k]? = some (s[k]'hs) := by simp [hs]
  rw [Int.toNat_natCast, this]
  congr 1
theorem E_l1Text {s : ByteArray} (h : s.size ≤ 900000000) : m_spec_l1Text s = some (lower s.data.toList && decide (s.size ≤ 6)) := by
  unfold m_spec_l1Text
  have hl : s.data.toList.length = s.size := rfl
  rw [← hl]
  have := scanA (p := fun b : UInt8 => !(decide (97 ≤ (b.toNat : Int)) && decide ((b.toNat : Int) ≤ 122))) (r0 := false) (r1 := decide ((s.size : Int) ≤ 6)) s.data.toList (fun n k => m_spec_l1Text_l1 n s k) (fun n k x hx => by
    have := lt_of_at hx
    have hd : decide ((k : Int) < (s.size : Int)) = true := by rw [← hl]; exact dlt this
    simp only [m_spec_l1Text_l1, m_spec_l1Text_j1, hd, sAt_of hx, ck1 (show k < 1000000000000 by omega), Option.bind_some, cond_true]
    have e1 : ((97 : UInt8).toNat : Int) = 97 := rfl
    have e2 : ((122 : UInt8).toNat : Int) = 122 := rfl
    rw [e1, e2]
    by_cases h1 : (x.toNat : Int) < 97
    · have : ¬ (97 ≤ (x.toNat : Int)) := by omega
      simp [h1, this]
    · have h1' : 97 ≤ (x.toNat : Int) := by omega
      by_cases h2 : (x.toNat : Int) > 122
      · have : ¬ ((x.toNat : Int) ≤ 122) := by omega
        simp [h1, h2, this]
      · have : (x.toNat : Int) ≤ 122 := by omega
        simp [h1, h2, this, h1']) (fun n => by simp only [m_spec_l1Text_l1, hl, dnlt]; rfl) _ fuel0
  rw [this, lower_any]
  have e : decide ((s.size : Int) ≤ 6) = decide (s.size ≤ 6) := by rw [decide_eq_decide]; omega
  rw [e]
  cases s.data.toList.any fun b => !(decide (97 ≤ (b.toNat : Int)) && decide ((b.toNat : Int) ≤ 122)) <;> simp
theorem E_Value_ok {v : V} (h : v.S.size ≤ 900000000) : m_impl_Value_ok v = some (vOk v) := by
  unfold m_impl_Value_ok m_impl_Value_ok_j1 m_impl_Value_ok_j2 m_impl_Value_ok_j3 vOk
  simp only [E_between, E_letters h, Option.bind_some, sEq_eq]
  by_cases h0 : v.Kind = 0
  · simp [h0]
  · by_cases h1 : v.Kind = 1
    · by_cases hs : v.S = ⟨#[]⟩ <;> simp [beqF h0, h0, h1, hs]
    · by_cases h2 : v.Kind = 2
      · by_cases hn : v.N = 0
        · by_cases hs : v.S.size ≤ 6
          · have : (v.S.size : Int) ≤ 6 := by omega
            simp [beqF h0, beqF h1, h0, h1, h2, hn, hs, this]
          · have : ¬ (v.S.size : Int) ≤ 6 := by omega
            simp [beqF h0, beqF h1, h0, h1, h2, hn, hs, this]
        · simp [beqF h0, beqF h1, h0, h1, h2, beqF hn, hn]
      · by_cases h3 : v.Kind = 3
        · by_cases hs : v.S = ⟨#[]⟩ <;> simp [beqF h0, beqF h1, beqF h2, h0, h1, h2, h3, hs]
        · simp [beqF h0, beqF h1, beqF h2, beqF h3, h0, h1, h2, h3]
theorem E_spec_ValueOk {v : V} (h : v.S.size ≤ 900000000) : m_spec_ValueOk v = some (vOk v) := by
  unfold m_spec_ValueOk m_spec_ValueOk_j1 m_spec_ValueOk_j2 m_spec_ValueOk_j3 m_spec_ValueOk_j4 vOk
  simp only [E_l1In, E_l1Text h, Option.bind_some, sEq_eq]
  obtain ⟨k, n, s⟩ := v
  simp only [S_impl_Value.mk.injEq]
  by_cases h0 : k = 0
  · by_cases hn : n = 0
    · simp [h0, hn]
    · simp [h0, hn, beqF hn]
  · by_cases h1 : k = 1
    · by_cases hs : s = ⟨#[]⟩ <;> by_cases ha : -9999 ≤ n <;> by_cases hb : n ≤ 9999 <;> simp [beqF h0, h0, h1, hs, ha, hb]
    · by_cases h2 : k = 2
      · by_cases hn : n = 0
        · simp [beqF h0, beqF h1, h0, h1, h2, hn, Bool.and_comm]
        · simp [beqF h0, beqF h1, h0, h1, h2, beqF hn, hn]
      · by_cases h3 : k = 3
        · by_cases hs : s = ⟨#[]⟩ <;> by_cases ha : 0 ≤ n <;> by_cases hb : n ≤ 1 <;> simp [beqF h0, beqF h1, beqF h2, h0, h1, h2, h3, hs, ha, hb]
        · simp [beqF h0, beqF h1, beqF h2, beqF h3, h0, h1, h2, h3]
theorem E_impl_RowOk {l : Row} (h : rSm l) : m_impl_RowOk l = some (rowOk l) := by
  unfold m_impl_RowOk m_impl_RowOk_j1 rowOk
  obtain ⟨h1, h2⟩ := h
  rw [E_IndexFunc_V (q := fun v => !(vOk v)) (by omega) (fun v hv => by unfold m_impl_RowOk_1; rw [E_Value_ok (by have := h2 v hv; unfold vSm at this; omega)]; rfl)]
  simp only [Option.bind_some]
  rw [List.all_eq_not_any_not]
  by_cases h : l.length ≤ 4
  · have : (l.length : Int) ≤ 4 := by omega
    simp [h, this]
  · have : ¬ (l.length : Int) ≤ 4 := by omega
    simp [h, this]
theorem E_spec_RowOk {l : Row} (h : rSm l) : m_spec_RowOk l = some (rowOk l) := by
  unfold m_spec_RowOk rowOk
  obtain ⟨h1, h2⟩ := h
  have := scanA (p := fun v => !(vOk v)) (r0 := false) (r1 := decide ((l.length : Int) ≤ 4)) l (fun n k => m_spec_RowOk_l1 n l k) (fun n k x hx => by
    have := lt_of_at hx
    have hsm := h2 x (List.mem_of_getElem? hx)
    unfold vSm at hsm
    simp only [m_spec_RowOk_l1, dlt this, at_of hx, E_spec_ValueOk (show x.S.size ≤ 900000000 by omega), ck1 (show k < 1000000000000 by omega), Option.bind_some, cond_true]) (fun n => by simp only [m_spec_RowOk_l1, dnlt]; rfl) _ fuel0
  rw [this, List.all_eq_not_any_not]
  have e : decide ((l.length : Int) ≤ 4) = decide (l.length ≤ 4) := by rw [decide_eq_decide]; omega
  rw [e]
  cases l.any fun v => !(vOk v) <;> simp
theorem E_CompareI (a b : Int) : m_cmp_Compare_int a b = some (cmpI a b) := by
  unfold m_cmp_Compare_int m_cmp_isNaN_int cmpI
  have e : ∀ x : Int, (x != x) = false := fun x => by simp
  simp only [e, Option.bind_some, cond_false]
  by_cases h : a < b
  · simp [h]
  · by_cases h2 : a > b
    · simp [h, h2]
    · simp [h, h2]
theorem E_CompareS (a b : ByteArray) : m_cmp_Compare_string a b = some (cmpS a b) := by
  unfold m_cmp_Compare_string m_cmp_isNaN_string cmpS
  have e : ∀ x : ByteArray, (!(sEq x x)) = false := fun x => by simp [sEq_eq]
  simp only [e, Option.bind_some, cond_false]
  cases h1 : sLt a b <;> cases h2 : sEq a b <;> simp
theorem E_l1Cmp (a b : ByteArray) : m_spec_l1Cmp a b = some (cmpS a b) := by
  unfold m_spec_l1Cmp cmpS
  cases h1 : sLt a b <;> cases h2 : sEq a b <;> simp
theorem E_Or {l : List Int} (h : l.length ≤ 900000000) : m_cmp_Or_int l = some (orI l) := by
  unfold m_cmp_Or_int
  rw [scanC l (fun n k (_ : Unit) => m_cmp_Or_int_l1 n 0 l (l.length : Int) k) (fun x s k => bif (x != 0) then some x else k s) (fun _ => some 0) (fun n k x s hx => by
    have := lt_of_at hx
    rw [m_cmp_Or_int_l1, dlt this, cond_true, at_of hx, Option.bind_some, ck1 (show k < 1000000000000 by omega), Option.bind_some]) (fun n s => by rw [m_cmp_Or_int_l1, dnlt]; rfl) _ fuel0 ()]
  clear h
  unfold orI
  induction l with
  | nil => rfl
  | cons x l ih =>
    simp only [foldC, List.find?_cons]
    cases hx : (x != 0)
    · simpa using ih
    · rfl
theorem E_order (v w : V) : m_impl_Value_order v w = some (vOrd v w) := by
  unfold m_impl_Value_order vOrd
  rw [E_CompareI, Option.bind_some, E_CompareI, Option.bind_some, E_CompareS, Option.bind_some, E_Or (by simp)]
  rfl
theorem E_CompareFunc {a b : Row} {p : V → V → Option Int} {q : V → V → Int} (ha : a.length ≤ 900000000) (hp : ∀ v w, p v w = some (q v w)) : m_slices_CompareFunc_Limpl_Value_Limpl_Value_impl_Value_impl_Value a b p = some (cmpL q a b) := by
  unfold m_slices_CompareFunc_Limpl_Value_Limpl_Value_impl_Value_impl_Value
  have key : ∀ (ys : Row) (k n : Nat), a.drop k = ys → k ≤ a.length → k ≤ b.length → ys.length < n → m_slices_CompareFunc_Limpl_Value_Limpl_Value_impl_Value_impl_Value_l1 p n a b a (a.length : Int) (k : Int) = some (cmpL q ys (b.drop k)) := by
    intro ys
    induction ys with
    | nil =>
      intro k n hd hk hk2 hn
      have : k = a.length := by
        have := congrArg List.length hd
        simp at this; omega
      subst this
      obtain ⟨m, rfl⟩ : ∃ m, n = m + 1 := ⟨n - 1, by simp at hn; omega⟩
      rw [m_slices_CompareFunc_Limpl_Value_Limpl_Value_impl_Value_impl_Value_l1, dnlt, cond_false]
      unfold m_slices_CompareFunc_Limpl_Value_Limpl_Value_impl_Value_impl_Value_j1
      by_cases h : a.length < b.length
      · rw [List.drop_eq_getElem_cons h]
        have : (a.length : Int) < (b.length : Int) := by omega
        simp [this, cmpL]
      · rw [List.drop_eq_nil_of_le (by omega)]
        have : ¬ (a.length : Int) < (b.length : Int) := by omega
        simp [this, cmpL]
    | cons y ys ih =>
      intro k n hd hk hk2 hn
      have hlt : k < a.length := by
        have := congrArg List.length hd
        simp at this; omega
      have hc := List.drop_eq_getElem_cons hlt
      rw [hd] at hc
      simp only [List.cons.injEq] at hc
      have hx : a[k]? = some y := by rw [List.getElem?_eq_getElem hlt, hc.1]
      obtain ⟨m, rfl⟩ : ∃ m, n = m + 1 := ⟨n - 1, by simp at hn; omega⟩
      rw [m_slices_CompareFunc_Limpl_Value_Limpl_Value_impl_Value_impl_Value_l1, dlt hlt, cond_true, at_of hx, Option.bind_some]
      show (bif decide ((k : Int) ≥ (b.length : Int)) then _ else _) = _
      by_cases h : k < b.length
      · have hd2 : decide ((k : Int) ≥ (b.length : Int)) = false := by simp; omega
        have hb : b[k]? = some b[k] := by simp [h]
        rw [hd2, cond_false, at_of hb, Option.bind_some]
        show ((p y b[k]).bind _) = _
        rw [hp, Option.bind_some, ck1 (show k < 1000000000000 by omega), Option.bind_some, List.drop_eq_getElem_cons h]
        simp only [cmpL]
        have := ih (k + 1) m hc.2.symm (by omega) (by omega) (by simp at hn; omega)
        by_cases hq : q y b[k] = 0
        · rw [if_pos hq]
          have hq' : (q y b[k] != 0) = false := by simp [hq]
          rw [hq', cond_false]
          exact this
        · rw [if_neg hq, beqF' hq, cond_true]
      · have hd2 : decide ((k : Int) ≥ (b.length : Int)) = true := by simp; omega
        rw [hd2, cond_true, List.drop_eq_nil_of_le (by omega)]
        rfl
  have := key a 0 _ rfl (by omega) (by omega) (show a.length < (((a.length : Int) - 0).toNat + 1) by omega)
  simpa using this
theorem E_rowOrder {a b : Row} (ha : a.length ≤ 900000000) : m_impl_rowOrder a b = some (rOrd a b) := by
  unfold m_impl_rowOrder rOrd
  rw [E_CompareFunc ha (fun v w => E_order v w), Option.bind_some, E_CompareI, Option.bind_some, E_Or (by simp)]
  rfl
theorem E_impl_RowOrder {a b : Row} (ha : rSm a) (hb : rSm b) : m_impl_RowOrder a b = some (rrOrd a b) := by
  unfold m_impl_RowOrder m_impl_RowOrder_j1 rrOrd
  rw [E_impl_RowOk ha, Option.bind_some, E_impl_RowOk hb, Option.bind_some, E_rowOrder (by have := ha.1; omega)]
  cases rowOk a <;> cases rowOk b <;> rfl
def lessI (a b : Int) : Int := if a < b then 1 else 0
theorem E_Less (a b : Int) : m_spec_l1Less a b = some (lessI a b) := by
  unfold m_spec_l1Less lessI
  by_cases h : a < b <;> simp [h]
theorem less_b (a b : Int) : 0 ≤ lessI a b ∧ lessI a b ≤ 1 := by unfold lessI; split <;> omega
theorem orI_1 {x : Int} {l : List Int} (h : x ≠ 0) : orI (x :: l) = x := by simp [orI, h]
theorem orI_0 {l : List Int} : orI (0 :: l) = orI l := by simp [orI]
theorem cmpI_0 {a b : Int} : cmpI a b = 0 ↔ a = b := by unfold cmpI; split <;> (try split) <;> omega
theorem less_cmp {a b : Int} (h : a ≠ b) : 2 * lessI b a - 1 = cmpI a b := by unfold lessI cmpI; split <;> split <;> (try split) <;> omega
theorem E_ValueOrder {a b : V} (ha : vSm a) (hb : vSm b) : m_spec_ValueOrder a b = some (vvOrd a b) := by
  unfold m_spec_ValueOrder m_spec_ValueOrder_j1 vvOrd vOrd
  unfold vSm at ha hb
  rw [E_spec_ValueOk (by omega), Option.bind_some, E_spec_ValueOk (by omega), Option.bind_some]
  cases vOk a
  · rfl
  cases vOk b
  · rfl
  simp only [Bool.not_true, cond_false, Bool.and_self, if_true, E_Less, E_l1Cmp, Option.bind_some]
  by_cases h1 : a.Kind = b.Kind
  · have : (a.Kind != b.Kind) = false := by simp [h1]
    rw [this, cond_false, cmpI_0.2 h1, orI_0]
    by_cases h2 : a.N = b.N
    · have : (a.N != b.N) = false := by simp [h2]
      rw [this, cond_false, cmpI_0.2 h2, orI_0]
      by_cases h3 : cmpS a.S b.S = 0
      · rw [h3, orI_0]; rfl
      · rw [orI_1 h3]
    · rw [beqF' h2, cond_true, orI_1 (by rw [ne_eq, cmpI_0]; exact h2), ← less_cmp h2]
      have := less_b b.N a.N
      rw [ckI_of (by omega) (by omega), Option.bind_some, ckI_of (by omega) (by omega), Option.bind_some]
  · rw [beqF' h1, cond_true, orI_1 (by rw [ne_eq, cmpI_0]; exact h1), ← less_cmp h1]
    have := less_b b.Kind a.Kind
    rw [ckI_of (by omega) (by omega), Option.bind_some, ckI_of (by omega) (by omega), Option.bind_some]
theorem cmpL_0 {α : Type} {p : α → α → Int} : ∀ {a b : List α}, cmpL p a b = 0 → a.length = b.length
  | [], [], _ => rfl
  | [], _ :: _, h => by simp [cmpL] at h
  | _ :: _, [], h => by simp [cmpL] at h
  | x :: a, y :: b, h => by
    simp only [cmpL] at h
    split at h
    · simpa using cmpL_0 h
    · exact absurd h (by assumption)
theorem rOrd_cmpL (a b : Row) : rOrd a b = cmpL vOrd a b := by
  unfold rOrd
  by_cases h : cmpL vOrd a b = 0
  · have := cmpL_0 h
    simp [orI, h, cmpI, this]
  · simp [orI, h]
theorem E_spec_RowOrder {a b : Row} (ha : rSm a) (hb : rSm b) : m_spec_RowOrder a b = some (rrOrd a b) := by
  unfold m_spec_RowOrder m_spec_RowOrder_j1 rrOrd
  rw [E_spec_RowOk ha, Option.bind_some, E_spec_RowOk hb, Option.bind_some]
  cases hoa : rowOk a
  · rfl
  cases hob : rowOk b
  · rfl
  simp only [Bool.not_true, cond_false, Bool.and_self, if_true]
  obtain ⟨ha1, ha2⟩ := ha
  obtain ⟨hb1, hb2⟩ := hb
  unfold rowOk at hoa hob
  simp only [Bool.and_eq_true, List.all_eq_true] at hoa hob
  rw [rOrd_cmpL]
  have key : ∀ (ys : Row) (k n : Nat), a.drop k = ys → k ≤ a.length → k ≤ b.length → ys.length < n → m_spec_RowOrder_l1 n a b (k : Int) = some (cmpL vOrd ys (b.drop k)) := by
    intro ys
    induction ys with
    | nil =>
      intro k n hd hk hk2 hn
      have : k = a.length := by
        have := congrArg List.length hd
        simp at this; omega
      subst this
      obtain ⟨m, rfl⟩ : ∃ m, n = m + 1 := ⟨n - 1, by simp at hn; omega⟩
      rw [m_spec_RowOrder_l1, dnlt, cond_false]
      unfold m_spec_RowOrder_j2 m_spec_RowOrder_j3
      rw [cond_false, E_Less, Option.bind_some, E_Less, Option.bind_some]
      have := less_b b.length a.length
      have := less_b a.length b.length
      rw [ckI_of (by omega) (by omega), Option.bind_some]
      congr 1
      by_cases h : a.length < b.length
      · rw [List.drop_eq_getElem_cons h]
        unfold lessI
        rw [if_neg (by omega), if_pos (by omega)]; rfl
      · rw [List.drop_eq_nil_of_le (by omega)]
        unfold lessI
        rw [if_neg (by omega), if_neg (by omega)]; rfl
    | cons y ys ih =>
      intro k n hd hk hk2 hn
      have hlt : k < a.length := by
        have := congrArg List.length hd
        simp at this; omega
      have hc := List.drop_eq_getElem_cons hlt
      rw [hd] at hc
      simp only [List.cons.injEq] at hc
      have hx : a[k]? = some y := by rw [List.getElem?_eq_getElem hlt, hc.1]
      obtain ⟨m, rfl⟩ : ∃ m, n = m + 1 := ⟨n - 1, by simp at hn; omega⟩
      rw [m_spec_RowOrder_l1, dlt hlt, cond_true]
      unfold m_spec_RowOrder_j2
      by_cases h : k < b.length
      · have hb : b[k]? = some b[k] := by simp [h]
        rw [dlt h, cond_true, at_of hx, Option.bind_some, at_of hb, Option.bind_some, E_ValueOrder (ha2 y (List.mem_of_getElem? hx)) (hb2 _ (List.getElem_mem h)), Option.bind_some, ck1 (show k < 1000000000000 by omega), Option.bind_some, List.drop_eq_getElem_cons h]
        have hv : vvOrd y b[k] = vOrd y b[k] := by
          unfold vvOrd
          rw [hoa.2 y (List.mem_of_getElem? hx), hob.2 _ (List.getElem_mem h)]; rfl
        rw [hv]
        simp only [cmpL]
        have := ih (k + 1) m hc.2.symm (by omega) (by omega) (by simp at hn; omega)
        by_cases hq : vOrd y b[k] = 0
        · rw [if_pos hq]
          have hq' : (vOrd y b[k] != 0) = false := by simp [hq]
          rw [hq', cond_false]
          exact this
        · rw [if_neg hq, beqF' hq, cond_true]
      · have hd2 : decide ((k : Int) < (b.length : Int)) = false := by simp; omega
        have hkb : k = b.length := by omega
        unfold m_spec_RowOrder_j3
        rw [hd2, cond_false, E_Less, Option.bind_some, E_Less, Option.bind_some]
        have := less_b b.length a.length
        have := less_b a.length b.length
        rw [ckI_of (by omega) (by omega), Option.bind_some]
        congr 1
        rw [List.drop_eq_nil_of_le (by omega)]
        unfold lessI
        rw [if_pos (by omega), if_neg (by omega)]; rfl
  have := key a 0 1000000000 rfl (by omega) (by omega) (by omega)
  simpa using this
theorem E_clone {l : Row} (h : l.length ≤ 900000000) : m_impl_clone_impl_Value l = some l := by
  unfold m_impl_clone_impl_Value appN?
  cases l with
  | nil => rfl
  | cons x l =>
    have e : (((x :: l).length : Int) == 0) = false := by simp; omega
    rw [e, cond_false, if_pos ⟨by simp, by omega⟩, Option.bind_some]; rfl
theorem foldl_snoc {α : Type} : ∀ (l a : List α), l.foldl (fun s x => s ++ [x]) a = a ++ l
  | [], a => by simp
  | x :: l, a => by rw [List.foldl_cons, foldl_snoc l]; simp
theorem E_rowsCopy {l : Rows} (h : l.length ≤ 900000000) (hr : ∀ r ∈ l, r.length ≤ 900000000) : m_impl_rowsCopy l = some l := by
  unfold m_impl_rowsCopy
  have := (scanF (f := fun (s : Rows) x => s ++ [x]) (J := fun s => some s) (fun k s => s.length = k) l (fun n k s => m_impl_rowsCopy_l1 n l (l.length : Int) k s) (fun n k x s hx hI => by
    have := lt_of_at hx
    rw [m_impl_rowsCopy_l1, dlt this, cond_true, at_of hx, Option.bind_some, E_clone (hr x (List.mem_of_getElem? hx)), Option.bind_some, app_of (by simp; omega), Option.bind_some, ck1 (show k < 1000000000000 by omega), Option.bind_some]
    exact ⟨rfl, by simp [hI]⟩) (fun n s _ => by
      rw [m_impl_rowsCopy_l1, dnlt, cond_false]
      unfold m_impl_rowsCopy_j1
      rfl) _ fuel0 [] rfl).1
  rw [this, foldl_snoc]; rfl
theorem E_l3Own {l : Row} (h : l.length ≤ 900000000) : m_spec_l3Own l = some l := by
  unfold m_spec_l3Own
  rw [app_of (by simp; omega)]; rfl

/-- Where a row goes, looked for from the end. -/
def posN (out : Rows) (r : Row) : Nat → Nat
  | 0 => 0
  | n + 1 => if rrOrd (out.getD n []) r > 0 then posN out r n else n + 1
def insR (out : Rows) (r : Row) : Rows := out.take (posN out r out.length) ++ r :: out.drop (posN out r out.length)
/-- Rows put in order, one after the other. -/
def sortR (rs : Rows) : Rows := rs.foldl insR []
theorem posN_le (out : Rows) (r : Row) : ∀ n, posN out r n ≤ n
  | 0 => Nat.le_refl _
  | n + 1 => by
    simp only [posN]
    split
    · exact Nat.le_succ_of_le (posN_le out r n)
    · exact Nat.le_refl _
theorem insR_len (out : Rows) (r : Row) : (insR out r).length = out.length + 1 := by
  have := posN_le out r out.length
  unfold insR
  simp; omega
theorem insR_mem (out : Rows) (r x : Row) : x ∈ insR out r ↔ x = r ∨ x ∈ out := by
  unfold insR
  rw [List.mem_append, List.mem_cons]
  conv => rhs; rw [← List.take_append_drop (posN out r out.length) out, List.mem_append]
  constructor
  · rintro (h | h | h) <;> simp [h]
  · rintro (h | h | h) <;> simp [h]
theorem rsSm_insR {out : Rows} {r : Row} (h : ∀ x ∈ out, rSm x) (hr : rSm r) : ∀ x ∈ insR out r, rSm x := by
  intro x hx
  rcases (insR_mem _ _ _).1 hx with rfl | hx
  · exact hr
  · exact h x hx
theorem getD_at {out : Rows} {j : Nat} (h : j < out.length) : out[j]? = some (out.getD j []) := by simp [h]
theorem ckd {j : Nat} (h : j + 1 < 1000000000000) : ckI (((j + 1 : Nat) : Int) - 1) = some (j : Int) := by
  rw [ckI_of (by omega) (by omega)]; congr 1; omega

theorem impl_inner {k1 : Rows → Int → Int → Rows → Option Rows} {r : Row} {t7 : Rows} {t8 t9 : Int} {o : Rows} (hr : rSm r) (ho : ∀ x ∈ o, rSm x) (hl : o.length ≤ 900000000) : ∀ (j n : Nat), j ≤ o.length → j < n →
    m_impl_RowsSorted_l2 k1 n r (j : Int) t7 t8 t9 o = m_impl_RowsSorted_j2 k1 r (posN o r j : Int) t7 t8 t9 o := by
  intro j
  induction j with
  | zero =>
    intro n _ hn
    obtain ⟨m, rfl⟩ : ∃ m, n = m + 1 := ⟨n - 1, by omega⟩
    rw [m_impl_RowsSorted_l2, show decide (((0 : Nat) : Int) > 0) = false from rfl, cond_false]
    unfold m_impl_RowsSorted_j1
    rfl
  | succ j ih =>
    intro n hj hn
    obtain ⟨m, rfl⟩ : ∃ m, n = m + 1 := ⟨n - 1, by omega⟩
    have hd : decide (((j + 1 : Nat) : Int) > 0) = true := by rw [decide_eq_true_eq]; omega
    rw [m_impl_RowsSorted_l2, hd, cond_true, ckd (by omega), Option.bind_some, at_of (getD_at (by omega)), Option.bind_some, Option.bind_some,
      E_impl_RowOrder (ho _ (by rw [List.getD_eq_getElem?_getD, List.getElem?_eq_getElem (by omega)]; exact List.getElem_mem _)) hr, Option.bind_some]
    unfold m_impl_RowsSorted_j1
    simp only [posN]
    by_cases h : rrOrd (o.getD j []) r > 0
    · rw [if_pos h, decide_eq_true h, cond_true, ckd (by omega), Option.bind_some]
      exact ih m (by omega) (by omega)
    · rw [if_neg h, decide_eq_false h, cond_false]
theorem E_impl_RowsSorted {rs : Rows} (h : rsSm rs) : m_impl_RowsSorted rs = some (sortR rs) := by
  unfold m_impl_RowsSorted
  obtain ⟨h1, h2⟩ := h
  have hh := scanF (f := insR) (J := fun s => m_impl_RowsSorted_j4 s) (fun k s => s.length = k ∧ ∀ x ∈ s, rSm x) rs (fun n k s => m_impl_RowsSorted_l1 n rs (rs.length : Int) k s) (fun n k x s hx hI => by
    have hlt := lt_of_at hx
    obtain ⟨hI1, hI2⟩ := hI
    have hxs := h2 x (List.mem_of_getElem? hx)
    refine ⟨?_, by rw [insR_len, hI1], rsSm_insR hI2 hxs⟩
    have hp := posN_le s x s.length
    rw [m_impl_RowsSorted_l1, dlt hlt, cond_true, at_of hx, Option.bind_some, impl_inner hxs hI2 (by omega) s.length _ (Nat.le_refl _) (by omega)]
    unfold m_impl_RowsSorted_j2 m_slices_Insert_LLimpl_Value_Limpl_Value
    simp only
    rw [if_pos (by omega), Option.bind_some]
    unfold m_impl_RowsSorted_j3
    rw [ck1 (show k < 1000000000000 by omega), Option.bind_some, Int.toNat_natCast]
    rfl) (fun n s _ => by rw [m_impl_RowsSorted_l1, dnlt, cond_false]) _ fuel0 [] ⟨rfl, by simp⟩
  rw [hh.1]
  unfold m_impl_RowsSorted_j4
  have hi := hh.2
  rw [E_rowsCopy (by omega) (fun r hr => by have := (hi.2 r hr).1; omega)]
  rfl
theorem spec_inner {k1 : Rows → Int → Rows → Option Rows} {t0 : Rows} {t : Nat} {r : Row} {o : Rows} (ht : t0[t]? = some r) (hr : rSm r) (ho : ∀ x ∈ o, rSm x) (hl : o.length ≤ 900000000) : ∀ (j n : Nat), j ≤ o.length → j < n →
    m_spec_RowsSorted_l2 k1 n t0 (t : Int) (j : Int) o = m_spec_RowsSorted_j2 k1 t0 (t : Int) (posN o r j : Int) o := by
  intro j
  induction j with
  | zero =>
    intro n _ hn
    obtain ⟨m, rfl⟩ : ∃ m, n = m + 1 := ⟨n - 1, by omega⟩
    rw [m_spec_RowsSorted_l2, show decide (((0 : Nat) : Int) > 0) = false from rfl, cond_false]
    unfold m_spec_RowsSorted_j1
    rfl
  | succ j ih =>
    intro n hj hn
    obtain ⟨m, rfl⟩ : ∃ m, n = m + 1 := ⟨n - 1, by omega⟩
    have hd : decide (((j + 1 : Nat) : Int) > 0) = true := by rw [decide_eq_true_eq]; omega
    rw [m_spec_RowsSorted_l2, hd, cond_true, ckd (by omega), Option.bind_some, at_of (getD_at (by omega)), Option.bind_some, Option.bind_some, at_of ht, Option.bind_some,
      E_spec_RowOrder (ho _ (by rw [List.getD_eq_getElem?_getD, List.getElem?_eq_getElem (by omega)]; exact List.getElem_mem _)) hr, Option.bind_some]
    unfold m_spec_RowsSorted_j1
    simp only [posN]
    by_cases h : rrOrd (o.getD j []) r > 0
    · rw [if_pos h, decide_eq_true h, cond_true, ckd (by omega), Option.bind_some]
      exact ih m (by omega) (by omega)
    · rw [if_neg h, decide_eq_false h, cond_false]
theorem cut_of {α : Type} {l : List α} {lo hi : Nat} (h : lo ≤ hi) (h2 : hi ≤ l.length) : cut? l (lo : Int) (hi : Int) = some ((l.take hi).drop lo) := by
  unfold cut?
  rw [if_pos (by omega)]
  simp
theorem E_spec_RowsSorted {rs : Rows} (h : rsSm rs) : m_spec_RowsSorted rs = some (sortR rs) ∧ (sortR rs).length = rs.length ∧ ∀ r ∈ sortR rs, rSm r := by
  unfold m_spec_RowsSorted
  obtain ⟨h1, h2⟩ := h
  have hh := scanF (f := insR) (J := fun s => some s) (fun k s => s.length = k ∧ ∀ x ∈ s, rSm x) rs (fun n k s => m_spec_RowsSorted_l1 n rs k s) (fun n k x s hx hI => by
    have hlt := lt_of_at hx
    obtain ⟨hI1, hI2⟩ := hI
    have hxs := h2 x (List.mem_of_getElem? hx)
    refine ⟨?_, by rw [insR_len, hI1], rsSm_insR hI2 hxs⟩
    have hp := posN_le s x s.length
    rw [m_spec_RowsSorted_l1, dlt hlt, cond_true, spec_inner hx hxs hI2 (by omega) s.length _ (Nat.le_refl _) (by omega)]
    unfold m_spec_RowsSorted_j2
    have hxl := hxs.1
    rw [show (0 : Int) = ((0 : Nat) : Int) from rfl, cut_of (Nat.zero_le _) hp, Option.bind_some, app_of (by simp; omega), Option.bind_some, at_of hx, Option.bind_some, E_l3Own (by omega), Option.bind_some, app_of (by simp; omega), Option.bind_some,
      cut_of hp (Nat.le_refl _), Option.bind_some, app_of (by simp; omega), Option.bind_some]
    unfold m_spec_RowsSorted_j3
    rw [ck1 (show k < 1000000000000 by omega), Option.bind_some]
    congr 1
    unfold insR
    simp) (fun n s _ => by rw [m_spec_RowsSorted_l1, dnlt, cond_false]; rfl) _ fuel0 [] ⟨rfl, by simp⟩
  exact ⟨hh.1, hh.2⟩
abbrev Rd := S_spec_l20Rd
def Rd.ok (o : Rd) : Prop := 0 ≤ o.p ∧ o.p ≤ 1000000000
theorem insR_perm (out : Rows) (r : Row) : (insR out r).Perm (r :: out) := by
  unfold insR
  have := List.perm_middle (a := r) (l₁ := out.take (posN out r out.length)) (l₂ := out.drop (posN out r out.length))
  rwa [List.take_append_drop] at this
theorem sortR_perm (rs : Rows) : (sortR rs).Perm rs := by
  have key : ∀ (rs out : Rows), (rs.foldl insR out).Perm (out ++ rs) := by
    intro rs
    induction rs with
    | nil => intro out; simp
    | cons r rs ih =>
      intro out
      rw [List.foldl_cons]
      refine (ih _).trans ((insR_perm out r).append_right rs |>.trans ?_)
      have := List.perm_middle (a := r) (l₁ := out) (l₂ := rs)
      exact this.symm
  have := key rs []
  simpa [sortR] using this
theorem L_slices_IndexFunc_LLimpl_Value_Limpl_Value {l : List (List S_impl_Value)} {p : (List S_impl_Value) → Option Bool} {q : (List S_impl_Value) → Bool} (hl : l.length ≤ 900000000) (hp : ∀ v ∈ l, p v = some (q v)) : m_slices_IndexFunc_LLimpl_Value_Limpl_Value l p = some (idxI q l) := by
  unfold m_slices_IndexFunc_LLimpl_Value_Limpl_Value
  exact scanI (q := q) (g := fun i => some i) l (fun n k => m_slices_IndexFunc_LLimpl_Value_Limpl_Value_l1 p n l (l.length : Int) k) (fun n k x hx => by
    have := lt_of_at hx
    rw [m_slices_IndexFunc_LLimpl_Value_Limpl_Value_l1, dlt this, cond_true]
    simp only [at_of hx, Option.bind_some, hp x (List.mem_of_getElem? hx), ck1 (show k < 1000000000000 by omega)]) (fun n => by rw [m_slices_IndexFunc_LLimpl_Value_Limpl_Value_l1, dnlt]; rfl) _ fuel0
theorem L_slices_ContainsFunc_LLimpl_Value_Limpl_Value {l : List (List S_impl_Value)} {p : (List S_impl_Value) → Option Bool} {q : (List S_impl_Value) → Bool} (hl : l.length ≤ 900000000) (hp : ∀ v ∈ l, p v = some (q v)) : m_slices_ContainsFunc_LLimpl_Value_Limpl_Value l p = some (l.any q) := by
  unfold m_slices_ContainsFunc_LLimpl_Value_Limpl_Value
  rw [L_slices_IndexFunc_LLimpl_Value_Limpl_Value hl hp, Option.bind_some, (idxI_ge q l).2.2]
theorem L_slices_IndexFunc_Limpl_Delta_impl_Delta {l : List S_impl_Delta} {p : S_impl_Delta → Option Bool} {q : S_impl_Delta → Bool} (hl : l.length ≤ 900000000) (hp : ∀ v ∈ l, p v = some (q v)) : m_slices_IndexFunc_Limpl_Delta_impl_Delta l p = some (idxI q l) := by
  unfold m_slices_IndexFunc_Limpl_Delta_impl_Delta
  exact scanI (q := q) (g := fun i => some i) l (fun n k => m_slices_IndexFunc_Limpl_Delta_impl_Delta_l1 p n l (l.length : Int) k) (fun n k x hx => by
    have := lt_of_at hx
    rw [m_slices_IndexFunc_Limpl_Delta_impl_Delta_l1, dlt this, cond_true]
    simp only [at_of hx, Option.bind_some, hp x (List.mem_of_getElem? hx), ck1 (show k < 1000000000000 by omega)]) (fun n => by rw [m_slices_IndexFunc_Limpl_Delta_impl_Delta_l1, dnlt]; rfl) _ fuel0
theorem L_slices_ContainsFunc_Limpl_Delta_impl_Delta {l : List S_impl_Delta} {p : S_impl_Delta → Option Bool} {q : S_impl_Delta → Bool} (hl : l.length ≤ 900000000) (hp : ∀ v ∈ l, p v = some (q v)) : m_slices_ContainsFunc_Limpl_Delta_impl_Delta l p = some (l.any q) := by
  unfold m_slices_ContainsFunc_Limpl_Delta_impl_Delta
  rw [L_slices_IndexFunc_Limpl_Delta_impl_Delta hl hp, Option.bind_some, (idxI_ge q l).2.2]
theorem L_slices_Clone_LLimpl_Value_Limpl_Value {l : List (List S_impl_Value)} (hl : l.length ≤ 900000000) : m_slices_Clone_LLimpl_Value_Limpl_Value l = some l := by
  unfold m_slices_Clone_LLimpl_Value_Limpl_Value
  cases l with
  | nil => rfl
  | cons x l =>
    simp only [nilM, cond_false]
    rw [app_of (by simp at hl ⊢; omega), Option.bind_some, List.nil_append]
theorem L_slices_Equal_Limpl_Value_impl_Value {a b : List S_impl_Value} (ha : a.length ≤ 900000000) : m_slices_Equal_Limpl_Value_impl_Value a b = some (decide (a = b)) := by
  unfold m_slices_Equal_Limpl_Value_impl_Value
  by_cases hl : a.length = b.length
  · have : ((a.length : Int) != (b.length : Int)) = false := by simp [hl]
    rw [this, cond_false]
    rw [← all2_eq hl]
    exact scan2 (q := fun x y => decide (x = y)) a b hl (fun n k => m_slices_Equal_Limpl_Value_impl_Value_l1 n a b (a.length : Int) k) (fun n k x y hx hy => by
      have := lt_of_at hx
      rw [m_slices_Equal_Limpl_Value_impl_Value_l1, dlt this, cond_true]
      simp only [at_of hx, at_of hy, ck1 (show k < 1000000000000 by omega), Option.bind_some]
      cases decide (x = y) <;> rfl) (fun n => by rw [m_slices_Equal_Limpl_Value_impl_Value_l1, dnlt]; rfl) _ fuel0
  · have : ((a.length : Int) != (b.length : Int)) = true := by simp; omega
    rw [this, cond_true]
    congr 1
    symm
    rw [decide_eq_false_iff_not]
    exact fun h => hl (congrArg _ h)
theorem ltE {α β : Type} {x : α} {f : α → β} : lt x f = f x := rfl
theorem bneD {a b : Int} : (a != b) = !decide (a = b) := by by_cases h : a = b <;> simp [h]
def wt_laws_Value (v : S_laws_Value) : Nat := v.S.size
theorem sz_laws_Value {a : S_laws_Value} {left : Int} (hB : B_laws_Value a) (h0 : 0 ≤ left) (h1 : left ≤ 1048576) : m_laws_szValue a left = some (szR left (wt_laws_Value a)) := by
  unfold m_laws_szValue wt_laws_Value
  unfold B_laws_Value at hB
  rw [ckSz' h0 h1 hB.2.2]
  exact szE h0
def wt_Llaws_Value (l : (List S_laws_Value)) : Nat := l.length + (l.map fun x => wt_laws_Value x).sum
theorem wt_Llaws_Value_len {l : (List S_laws_Value)} : l.length ≤ wt_Llaws_Value l := by unfold wt_Llaws_Value; omega
theorem wt_Llaws_Value_mem {l : (List S_laws_Value)} {x : S_laws_Value} (h : x ∈ l) : wt_laws_Value x ≤ wt_Llaws_Value l := by have := sum_mem (wt := fun x : S_laws_Value => wt_laws_Value x) h; unfold wt_Llaws_Value; omega
theorem sz_Llaws_Value {a : (List S_laws_Value)} {left : Int} (hB : (B_list B_laws_Value) a) (h0 : 0 ≤ left) (h1 : left ≤ 1048576) : m_laws_szValueS a left = some (szR left (wt_Llaws_Value a)) := by
  unfold m_laws_szValueS wt_Llaws_Value
  rw [ckSz' h0 h1 hB.1]
  refine szC (k := fun z => m_laws_szValueS_l1 (((a.length : Int) - (0 : Int)).toNat + 1) a z 0) h0 (fun e => ?_)
  refine szLoop0 (fun x => wt_laws_Value x) a (fun f z k => m_laws_szValueS_l1 f a z k) (fun f k z x hx hk h2 h3 => ?_) (fun f z => by rw [m_laws_szValueS_l1, dnlt]; rfl) (by omega) _ (szR_0 e) (szR_le h1)
  rw [m_laws_szValueS_l1, dlt (lt_of_at hx), cond_true, at_of hx, Option.bind_some, sz_laws_Value (hB.2 x (List.mem_of_getElem? hx)) h2 h3, Option.bind_some]
  rw [ck1 (by omega)]
  rfl
def wt_LLlaws_Value (l : (List (List S_laws_Value))) : Nat := l.length + (l.map fun x => wt_Llaws_Value x).sum
theorem wt_LLlaws_Value_len {l : (List (List S_laws_Value))} : l.length ≤ wt_LLlaws_Value l := by unfold wt_LLlaws_Value; omega
theorem wt_LLlaws_Value_mem {l : (List (List S_laws_Value))} {x : (List S_laws_Value)} (h : x ∈ l) : wt_Llaws_Value x ≤ wt_LLlaws_Value l := by have := sum_mem (wt := fun x : (List S_laws_Value) => wt_Llaws_Value x) h; unfold wt_LLlaws_Value; omega
theorem sz_LLlaws_Value {a : (List (List S_laws_Value))} {left : Int} (hB : (B_list (B_list B_laws_Value)) a) (h0 : 0 ≤ left) (h1 : left ≤ 1048576) : m_laws_szValueSS a left = some (szR left (wt_LLlaws_Value a)) := by
  unfold m_laws_szValueSS wt_LLlaws_Value
  rw [ckSz' h0 h1 hB.1]
  refine szC (k := fun z => m_laws_szValueSS_l1 (((a.length : Int) - (0 : Int)).toNat + 1) a z 0) h0 (fun e => ?_)
  refine szLoop0 (fun x => wt_Llaws_Value x) a (fun f z k => m_laws_szValueSS_l1 f a z k) (fun f k z x hx hk h2 h3 => ?_) (fun f z => by rw [m_laws_szValueSS_l1, dnlt]; rfl) (by omega) _ (szR_0 e) (szR_le h1)
  rw [m_laws_szValueSS_l1, dlt (lt_of_at hx), cond_true, at_of hx, Option.bind_some, sz_Llaws_Value (hB.2 x (List.mem_of_getElem? hx)) h2 h3, Option.bind_some]
  rw [ck1 (by omega)]
  rfl
def wt_laws_Delta (v : S_laws_Delta) : Nat := wt_Llaws_Value v.Row
theorem sz_laws_Delta {a : S_laws_Delta} {left : Int} (hB : B_laws_Delta a) (h0 : 0 ≤ left) (h1 : left ≤ 1048576) : m_laws_szDelta a left = some (szR left (wt_laws_Delta a)) := by
  unfold m_laws_szDelta wt_laws_Delta
  unfold B_laws_Delta at hB
  rw [sz_Llaws_Value hB.1 h0 h1, Option.bind_some]
  exact szE h0
def wt_Llaws_Delta (l : (List S_laws_Delta)) : Nat := l.length + (l.map fun x => wt_laws_Delta x).sum
theorem wt_Llaws_Delta_len {l : (List S_laws_Delta)} : l.length ≤ wt_Llaws_Delta l := by unfold wt_Llaws_Delta; omega
theorem wt_Llaws_Delta_mem {l : (List S_laws_Delta)} {x : S_laws_Delta} (h : x ∈ l) : wt_laws_Delta x ≤ wt_Llaws_Delta l := by have := sum_mem (wt := fun x : S_laws_Delta => wt_laws_Delta x) h; unfold wt_Llaws_Delta; omega
theorem sz_Llaws_Delta {a : (List S_laws_Delta)} {left : Int} (hB : (B_list B_laws_Delta) a) (h0 : 0 ≤ left) (h1 : left ≤ 1048576) : m_laws_szDeltaS a left = some (szR left (wt_Llaws_Delta a)) := by
  unfold m_laws_szDeltaS wt_Llaws_Delta
  rw [ckSz' h0 h1 hB.1]
  refine szC (k := fun z => m_laws_szDeltaS_l1 (((a.length : Int) - (0 : Int)).toNat + 1) a z 0) h0 (fun e => ?_)
  refine szLoop0 (fun x => wt_laws_Delta x) a (fun f z k => m_laws_szDeltaS_l1 f a z k) (fun f k z x hx hk h2 h3 => ?_) (fun f z => by rw [m_laws_szDeltaS_l1, dnlt]; rfl) (by omega) _ (szR_0 e) (szR_le h1)
  rw [m_laws_szDeltaS_l1, dlt (lt_of_at hx), cond_true, at_of hx, Option.bind_some, sz_laws_Delta (hB.2 x (List.mem_of_getElem? hx)) h2 h3, Option.bind_some]
  rw [ck1 (by omega)]
  rfl
def cv_laws_Value (v : S_laws_Value) : S_impl_Value := ⟨v.Kind, v.N, v.S⟩
theorem to_laws_Value {a : S_laws_Value} (h : wt_laws_Value a ≤ 100000000000) : m_laws_toValue a = some (cv_laws_Value a) := by
  unfold wt_laws_Value at h
  unfold m_laws_toValue cv_laws_Value
  all_goals rfl
def wt_impl_Value (v : S_impl_Value) : Nat := v.S.size
theorem wc_laws_Value {v : S_laws_Value} : wt_impl_Value (cv_laws_Value v) = wt_laws_Value v := rfl
def cv_Llaws_Value (l : (List S_laws_Value)) : (List S_impl_Value) := l.map cv_laws_Value
theorem to_Llaws_Value {a : (List S_laws_Value)} (h : wt_Llaws_Value a ≤ 100000000000) : m_laws_toValueS a = some (cv_Llaws_Value a) := by
  have hl : a.length ≤ 100000000000 := by have := wt_Llaws_Value_len (l := a); omega
  unfold m_laws_toValueS cv_Llaws_Value
  refine toLoop0 cv_laws_Value a _ (fun f k o => m_laws_toValueS_l1 f a k o) (fun f k o x hx hk ho => ?_) (fun f o => by rw [m_laws_toValueS_l1, dnlt]; rfl) (by omega)
  have hy := at_some (l := o) (k := k) (by have := lt_of_at hx; omega)
  rw [m_laws_toValueS_l1, dlt (lt_of_at hx), cond_true, at_of hx, Option.bind_some, to_laws_Value (by have := wt_Llaws_Value_mem (List.mem_of_getElem? hx); omega), Option.bind_some, hy, Option.bind_some, Option.bind_some]
  try rw [ltE]
  rw [ck1 (by omega), Option.bind_some, Int.toNat_natCast]
  rfl
def wt_Limpl_Value (l : (List S_impl_Value)) : Nat := l.length + (l.map fun x => wt_impl_Value x).sum
theorem wt_Limpl_Value_len {l : (List S_impl_Value)} : l.length ≤ wt_Limpl_Value l := by unfold wt_Limpl_Value; omega
theorem wt_Limpl_Value_mem {l : (List S_impl_Value)} {x : S_impl_Value} (h : x ∈ l) : wt_impl_Value x ≤ wt_Limpl_Value l := by have := sum_mem (wt := fun x : S_impl_Value => wt_impl_Value x) h; unfold wt_Limpl_Value; omega
theorem wc_Llaws_Value {l : (List S_laws_Value)} : wt_Limpl_Value (cv_Llaws_Value l) = wt_Llaws_Value l := by
  unfold wt_Limpl_Value cv_Llaws_Value wt_Llaws_Value
  rw [List.length_map, List.map_map]
  first | done | (congr 2; exact List.map_congr_left fun x _ => wc_laws_Value) | rfl
def cv_LLlaws_Value (l : (List (List S_laws_Value))) : (List (List S_impl_Value)) := l.map cv_Llaws_Value
theorem to_LLlaws_Value {a : (List (List S_laws_Value))} (h : wt_LLlaws_Value a ≤ 100000000000) : m_laws_toValueSS a = some (cv_LLlaws_Value a) := by
  have hl : a.length ≤ 100000000000 := by have := wt_LLlaws_Value_len (l := a); omega
  unfold m_laws_toValueSS cv_LLlaws_Value
  refine toLoop0 cv_Llaws_Value a _ (fun f k o => m_laws_toValueSS_l1 f a k o) (fun f k o x hx hk ho => ?_) (fun f o => by rw [m_laws_toValueSS_l1, dnlt]; rfl) (by omega)
  have hy := at_some (l := o) (k := k) (by have := lt_of_at hx; omega)
  rw [m_laws_toValueSS_l1, dlt (lt_of_at hx), cond_true, at_of hx, Option.bind_some, to_Llaws_Value (by have := wt_LLlaws_Value_mem (List.mem_of_getElem? hx); omega), Option.bind_some, hy, Option.bind_some, Option.bind_some]
  try rw [ltE]
  rw [ck1 (by omega), Option.bind_some, Int.toNat_natCast]
  rfl
def wt_LLimpl_Value (l : (List (List S_impl_Value))) : Nat := l.length + (l.map fun x => wt_Limpl_Value x).sum
theorem wt_LLimpl_Value_len {l : (List (List S_impl_Value))} : l.length ≤ wt_LLimpl_Value l := by unfold wt_LLimpl_Value; omega
theorem wt_LLimpl_Value_mem {l : (List (List S_impl_Value))} {x : (List S_impl_Value)} (h : x ∈ l) : wt_Limpl_Value x ≤ wt_LLimpl_Value l := by have := sum_mem (wt := fun x : (List S_impl_Value) => wt_Limpl_Value x) h; unfold wt_LLimpl_Value; omega
theorem wc_LLlaws_Value {l : (List (List S_laws_Value))} : wt_LLimpl_Value (cv_LLlaws_Value l) = wt_LLlaws_Value l := by
  unfold wt_LLimpl_Value cv_LLlaws_Value wt_LLlaws_Value
  rw [List.length_map, List.map_map]
  first | done | (congr 2; exact List.map_congr_left fun x _ => wc_Llaws_Value) | rfl
def cv_laws_Delta (v : S_laws_Delta) : S_impl_Delta := ⟨cv_Llaws_Value v.Row, v.Many⟩
theorem to_laws_Delta {a : S_laws_Delta} (h : wt_laws_Delta a ≤ 100000000000) : m_laws_toDelta a = some (cv_laws_Delta a) := by
  unfold wt_laws_Delta at h
  unfold m_laws_toDelta cv_laws_Delta
  try simp only [ltE]
  rw [to_Llaws_Value (by omega), Option.bind_some]
  all_goals rfl
def wt_impl_Delta (v : S_impl_Delta) : Nat := wt_Limpl_Value v.Row
theorem wc_laws_Delta {v : S_laws_Delta} : wt_impl_Delta (cv_laws_Delta v) = wt_laws_Delta v := by
  unfold wt_impl_Delta cv_laws_Delta wt_laws_Delta
  simp only [wc_Llaws_Value]
def cv_Llaws_Delta (l : (List S_laws_Delta)) : (List S_impl_Delta) := l.map cv_laws_Delta
theorem to_Llaws_Delta {a : (List S_laws_Delta)} (h : wt_Llaws_Delta a ≤ 100000000000) : m_laws_toDeltaS a = some (cv_Llaws_Delta a) := by
  have hl : a.length ≤ 100000000000 := by have := wt_Llaws_Delta_len (l := a); omega
  unfold m_laws_toDeltaS cv_Llaws_Delta
  refine toLoop0 cv_laws_Delta a _ (fun f k o => m_laws_toDeltaS_l1 f a k o) (fun f k o x hx hk ho => ?_) (fun f o => by rw [m_laws_toDeltaS_l1, dnlt]; rfl) (by omega)
  have hy := at_some (l := o) (k := k) (by have := lt_of_at hx; omega)
  rw [m_laws_toDeltaS_l1, dlt (lt_of_at hx), cond_true, at_of hx, Option.bind_some, to_laws_Delta (by have := wt_Llaws_Delta_mem (List.mem_of_getElem? hx); omega), Option.bind_some, hy, Option.bind_some, Option.bind_some]
  try rw [ltE]
  rw [ck1 (by omega), Option.bind_some, Int.toNat_natCast]
  rfl
def wt_Limpl_Delta (l : (List S_impl_Delta)) : Nat := l.length + (l.map fun x => wt_impl_Delta x).sum
theorem wt_Limpl_Delta_len {l : (List S_impl_Delta)} : l.length ≤ wt_Limpl_Delta l := by unfold wt_Limpl_Delta; omega
theorem wt_Limpl_Delta_mem {l : (List S_impl_Delta)} {x : S_impl_Delta} (h : x ∈ l) : wt_impl_Delta x ≤ wt_Limpl_Delta l := by have := sum_mem (wt := fun x : S_impl_Delta => wt_impl_Delta x) h; unfold wt_Limpl_Delta; omega
theorem wc_Llaws_Delta {l : (List S_laws_Delta)} : wt_Limpl_Delta (cv_Llaws_Delta l) = wt_Llaws_Delta l := by
  unfold wt_Limpl_Delta cv_Llaws_Delta wt_Llaws_Delta
  rw [List.length_map, List.map_map]
  first | done | (congr 2; exact List.map_congr_left fun x _ => wc_laws_Delta) | rfl
theorem eq_impl_Value {a b : S_impl_Value} (h : wt_impl_Value a ≤ 100000000000) : m_laws_eqValue a b = some (decide (a = b)) := by
  unfold wt_impl_Value at h
  unfold m_laws_eqValue
  rw [bneD]
  by_cases g0 : a.Kind = b.Kind
  case neg => rw [decide_eq_false g0, Bool.not_false, cond_true, decide_eq_false (fun e => g0 (by rw [e]))]
  rw [decide_eq_true g0, Bool.not_true, cond_false]
  rw [bneD]
  by_cases g1 : a.N = b.N
  case neg => rw [decide_eq_false g1, Bool.not_false, cond_true, decide_eq_false (fun e => g1 (by rw [e]))]
  rw [decide_eq_true g1, Bool.not_true, cond_false]
  rw [sEq_eq]
  by_cases g2 : a.S = b.S
  case neg => rw [decide_eq_false g2, Bool.not_false, cond_true, decide_eq_false (fun e => g2 (by rw [e]))]
  rw [decide_eq_true g2, Bool.not_true, cond_false]
  rw [decide_eq_true (show a = b by cases a; cases b; simp only at g0 g1 g2; subst g0 g1 g2; rfl)]
theorem eq_Limpl_Value {a b : (List S_impl_Value)} (h : wt_Limpl_Value a ≤ 100000000000) : m_laws_eqValueS a b = some (decide (a = b)) := by
  have hl : a.length ≤ 100000000000 := by have := wt_Limpl_Value_len (l := a); omega
  unfold m_laws_eqValueS
  refine eqLoop a b (fun f k => m_laws_eqValueS_l1 f a b k) (fun f k x y hx hy hk => ?_) (fun f => by rw [m_laws_eqValueS_l1, dnlt]; rfl) (by omega)
  rw [m_laws_eqValueS_l1, dlt (lt_of_at hx), cond_true, at_of hx, Option.bind_some, at_of hy, Option.bind_some, eq_impl_Value (by have := wt_Limpl_Value_mem (List.mem_of_getElem? hx); omega), Option.bind_some, ck1 (by omega), Option.bind_some]
  rfl
theorem eq_LLimpl_Value {a b : (List (List S_impl_Value))} (h : wt_LLimpl_Value a ≤ 100000000000) : m_laws_eqValueSS a b = some (decide (a = b)) := by
  have hl : a.length ≤ 100000000000 := by have := wt_LLimpl_Value_len (l := a); omega
  unfold m_laws_eqValueSS
  refine eqLoop a b (fun f k => m_laws_eqValueSS_l1 f a b k) (fun f k x y hx hy hk => ?_) (fun f => by rw [m_laws_eqValueSS_l1, dnlt]; rfl) (by omega)
  rw [m_laws_eqValueSS_l1, dlt (lt_of_at hx), cond_true, at_of hx, Option.bind_some, at_of hy, Option.bind_some, eq_Limpl_Value (by have := wt_LLimpl_Value_mem (List.mem_of_getElem? hx); omega), Option.bind_some, ck1 (by omega), Option.bind_some]
  rfl
theorem eq_impl_Delta {a b : S_impl_Delta} (h : wt_impl_Delta a ≤ 100000000000) : m_laws_eqDelta a b = some (decide (a = b)) := by
  unfold wt_impl_Delta at h
  unfold m_laws_eqDelta
  rw [eq_Limpl_Value (by omega), Option.bind_some]
  by_cases g0 : a.Row = b.Row
  case neg => rw [decide_eq_false g0, Bool.not_false, cond_true, decide_eq_false (fun e => g0 (by rw [e]))]
  rw [decide_eq_true g0, Bool.not_true, cond_false]
  rw [bneD]
  by_cases g1 : a.Many = b.Many
  case neg => rw [decide_eq_false g1, Bool.not_false, cond_true, decide_eq_false (fun e => g1 (by rw [e]))]
  rw [decide_eq_true g1, Bool.not_true, cond_false]
  rw [decide_eq_true (show a = b by cases a; cases b; simp only at g0 g1; subst g0 g1; rfl)]
theorem eq_Limpl_Delta {a b : (List S_impl_Delta)} (h : wt_Limpl_Delta a ≤ 100000000000) : m_laws_eqDeltaS a b = some (decide (a = b)) := by
  have hl : a.length ≤ 100000000000 := by have := wt_Limpl_Delta_len (l := a); omega
  unfold m_laws_eqDeltaS
  refine eqLoop a b (fun f k => m_laws_eqDeltaS_l1 f a b k) (fun f k x y hx hy hk => ?_) (fun f => by rw [m_laws_eqDeltaS_l1, dnlt]; rfl) (by omega)
  rw [m_laws_eqDeltaS_l1, dlt (lt_of_at hx), cond_true, at_of hx, Option.bind_some, at_of hy, Option.bind_some, eq_impl_Delta (by have := wt_Limpl_Delta_mem (List.mem_of_getElem? hx); omega), Option.bind_some, ck1 (by omega), Option.bind_some]
  rfl
theorem E_allOk {rs : Rows} (h : rsSm rs) : m_impl_allOk rs = some (rs.all rowOk) := by
  unfold m_impl_allOk
  rw [L_slices_ContainsFunc_LLimpl_Value_Limpl_Value (q := fun r => !(rowOk r)) (by have := h.1; omega) (fun r hr => by unfold m_impl_allOk_1; rw [E_impl_RowOk (h.2 r hr)]; rfl), Option.bind_some, List.all_eq_not_any_not]
def markM {α : Type} (mk : Int → α → α) (w : α → Int) : Int → List α → List α
  | _, [] => []
  | c, x :: r => mk c x :: markM mk w (c + w x) r
def endM {α : Type} (w : α → Int) : Int → List α → Int
  | c, [] => c
  | c, x :: r => endM w (c + w x) r
theorem markM_len {α : Type} {mk : Int → α → α} {w : α → Int} : ∀ (c : Int) (l : List α), (markM mk w c l).length = l.length
  | _, [] => rfl
  | c, x :: l => by rw [markM, List.length_cons, List.length_cons, markM_len]
theorem endM_ge {α : Type} {w : α → Int} (hw : ∀ x, 0 ≤ w x) : ∀ (c : Int) (l : List α), c ≤ endM w c l
  | c, [] => Int.le_refl _
  | c, x :: l => by
    have := endM_ge hw (c + w x) l
    have := hw x
    rw [endM]; omega
theorem endM_sum {α : Type} {w : α → Int} {m : α → Nat} (hm : ∀ x, w x ≤ 3 * (m x : Int)) : ∀ (c : Int) (l : List α), endM w c l ≤ c + 3 * ((l.map m).sum : Int)
  | c, [] => by simp [endM]
  | c, x :: l => by
    have h1 := endM_sum hm (c + w x) l
    have h2 := hm x
    rw [endM, List.map_cons, List.sum_cons]
    push_cast
    omega
theorem markLoop {α : Type} {mk : Int → α → α} {w : α → Int} {B : Int} {ok : α → Prop} (hw : ∀ x, 0 ≤ w x) (L : Nat → Int → Int → List α → Option (Int × List α))
    (hs : ∀ (f : Nat) (d : List α) (x : α) (r : List α) (c : Int), d.length < 1000000000000 → 0 ≤ c → c + w x ≤ B → ok x → L (f + 1) c (d.length : Int) (d ++ x :: r) = L f (c + w x) ((d.length + 1 : Nat) : Int) (d ++ mk c x :: r))
    (he : ∀ (f : Nat) (c : Int) (o : List α), L (f + 1) c (o.length : Int) o = some (c, o)) :
    ∀ (r d : List α) (c : Int) (f : Nat), r.length < f → (∀ x ∈ r, ok x) → 0 ≤ c → endM w c r ≤ B → d.length + r.length ≤ 900000000000 → L f c (d.length : Int) (d ++ r) = some (endM w c r, d ++ markM mk w c r)
  | [], d, c, f, hf, _, _, _, _ => by
    obtain ⟨f, rfl⟩ : ∃ q, f = q + 1 := ⟨f - 1, by omega⟩
    rw [List.append_nil, he]; simp [markM, endM]
  | x :: r, d, c, f, hf, hok, hc, hB, hl => by
    obtain ⟨f, rfl⟩ : ∃ q, f = q + 1 := ⟨f - 1, by omega⟩
    rw [endM] at hB ⊢
    have h1 := endM_ge hw (c + w x) r
    have h2 := hw x
    rw [List.length_cons] at hf hl
    rw [hs f d x r c (by omega) hc (by omega) (hok x (by simp))]
    have ih := markLoop hw L hs he r (d ++ [mk c x]) (c + w x) f (by omega) (fun y hy => hok y (by simp [hy])) (by omega) hB (by rw [List.length_append, List.length_singleton]; omega)
    rw [List.append_assoc, List.singleton_append, List.length_append, List.length_singleton] at ih
    rw [ih, markM, List.append_assoc, List.singleton_append]
theorem heldLoop {α : Type} {mk : Int → α → α} {w : α → Int} {B : Int} {ok : α → Prop} (hw : ∀ x, 0 ≤ w x) (t0 : List α) (L : Nat → Int → Int → Option Int)
    (hs : ∀ (f k : Nat) (c : Int) (x : α), t0[k]? = some (mk c x) → k < 1000000000000 → 0 ≤ c → c + w x ≤ B → ok x → L (f + 1) c (k : Int) = L f (c + w x) ((k + 1 : Nat) : Int))
    (he : ∀ (f : Nat) (c : Int), L (f + 1) c (t0.length : Int) = some c) :
    ∀ (r d : List α) (c : Int) (f : Nat), t0 = d ++ markM mk w c r → r.length < f → (∀ x ∈ r, ok x) → 0 ≤ c → endM w c r ≤ B → d.length + r.length ≤ 900000000000 → L f c (d.length : Int) = some (endM w c r)
  | [], d, c, f, ht, hf, _, _, _, _ => by
    obtain ⟨f, rfl⟩ : ∃ q, f = q + 1 := ⟨f - 1, by omega⟩
    rw [markM, List.append_nil] at ht
    rw [← ht, he]; rfl
  | x :: r, d, c, f, ht, hf, hok, hc, hB, hl => by
    obtain ⟨f, rfl⟩ : ∃ q, f = q + 1 := ⟨f - 1, by omega⟩
    rw [endM] at hB ⊢
    have h1 := endM_ge hw (c + w x) r
    have h2 := hw x
    rw [List.length_cons] at hf hl
    rw [markM] at ht
    have hx : t0[d.length]? = some (mk c x) := by rw [ht]; simp
    rw [hs f d.length c x hx (by omega) hc (by omega) (hok x (by simp))]
    have ih := heldLoop hw t0 L hs he r (d ++ [mk c x]) (c + w x) f (by rw [ht, List.append_assoc, List.singleton_append]) (by omega) (fun y hy => hok y (by simp [hy])) (by omega) hB (by rw [List.length_append, List.length_singleton]; omega)
    rw [List.length_append, List.length_singleton] at ih
    exact ih
theorem T_markText {k : Int} (hk : k ≤ 1000000000000) : Tot (m_laws_markText k) fun _ => True := by
  unfold m_laws_markText
  refine Tot.bif (fun _ => Tot.ret trivial) (fun h0 => ?_)
  have hk0 : 0 < k := by simpa using h0
  have key : ∀ (n : Nat) (t : Int) (a : ByteArray) (f : Nat), t ≤ n → 0 ≤ t → n < f → (a.size : Int) + t ≤ 2000000000000 → Tot (m_laws_markText_l1 f t a) fun _ => True := by
    intro n
    induction n with
    | zero =>
      intro t a f h1 h2 h3 h4
      obtain ⟨f, rfl⟩ : ∃ q, f = q + 1 := ⟨f - 1, by omega⟩
      rw [m_laws_markText_l1, decide_eq_false (by omega), cond_false]
      unfold m_laws_markText_j1
      exact Tot.cat (by rw [show ByteArray.size ⟨#[109]⟩ = 1 from rfl]; omega) (Tot.ret trivial)
    | succ n ih =>
      intro t a f h1 h2 h3 h4
      obtain ⟨f, rfl⟩ : ∃ q, f = q + 1 := ⟨f - 1, by omega⟩
      rw [m_laws_markText_l1]
      refine Tot.bif (fun ht => ?_) (fun _ => ?_)
      · have ht' : 0 < t := by simpa using ht
        have e1 : t.tmod 10 = t % 10 := Int.tmod_eq_emod_of_nonneg (by omega)
        have e2 : t.tdiv 10 = t / 10 := Int.tdiv_eq_ediv_of_nonneg (by omega)
        refine Tot.rem (by omega) (Tot.ck (by omega) (by omega) (Tot.cat ?_ (Tot.quo (by omega) (by omega) (by omega) ?_)))
        · have : ∀ b : UInt8, (bStr [b]).size = 1 := fun b => rfl
          rw [this]; omega
        · refine ih _ _ f (by omega) (by omega) (by omega) ?_
          have : ∀ b : UInt8, (bStr [b]).size = 1 := fun b => rfl
          rw [ByteArray.size_append, this]
          push_cast
          omega
      · unfold m_laws_markText_j1
        exact Tot.cat (by rw [show ByteArray.size ⟨#[109]⟩ = 1 from rfl]; omega) (Tot.ret trivial)
  exact key k.toNat k ⟨#[]⟩ _ (by omega) (by omega) (by omega) (by rw [show ByteArray.size ⟨#[]⟩ = 0 from rfl]; omega)
def mtx (k : Int) : ByteArray := (m_laws_markText k).getD ⟨#[]⟩
theorem E_markText {k : Int} (hk : k ≤ 1000000000000) : m_laws_markText k = some (mtx k) := by
  obtain ⟨t, ht, _⟩ := T_markText hk
  unfold mtx; rw [ht]; rfl
def mkV (c : Int) (_ : V) : V := ⟨c, c + 1, mtx (c + 2)⟩
abbrev markV (c : Int) (l : Row) : Row := markM mkV (fun _ => 3) c l
theorem endVl (c : Int) : ∀ l : Row, endM (fun _ : V => 3) c l = c + 3 * l.length
  | [] => by simp [endM]
  | x :: l => by rw [endM, endVl (c + 3) l, List.length_cons]; push_cast; omega
theorem set_at {α : Type} {d r : List α} {x y : α} : (d ++ x :: r).set d.length y = d ++ y :: r := by rw [List.set_append_right _ _ (Nat.le_refl _)]; simp
theorem at_at {α : Type} {d r : List α} {x : α} : at? (d ++ x :: r) (d.length : Int) = some x := at_of (by simp)
theorem lt_at {α : Type} {d r : List α} {x : α} : decide ((d.length : Int) < ((d ++ x :: r).length : Int)) = true := decide_eq_true (by rw [List.length_append, List.length_cons]; omega)
theorem E_markV {l : Row} {k : Int} (hk : 0 ≤ k) (hB : k + 3 * l.length ≤ 1000000000000) : m_laws_markValueS l k = some (k + 3 * l.length, markV k l) := by
  unfold m_laws_markValueS
  have := markLoop (mk := mkV) (w := fun _ => 3) (B := 1000000000000) (ok := fun _ => True) (fun _ => by decide) (fun f c i o => m_laws_markValueS_l1 f c i o) (fun f d x r c hd hc hB _ => by
    rw [m_laws_markValueS_l1, lt_at, cond_true, at_at, Option.bind_some, Option.bind_some, ltE, ckI_of (by omega) (by omega), Option.bind_some, Int.toNat_natCast, set_at, at_at, Option.bind_some, Option.bind_some, ltE, ckI_of (by omega) (by omega), Option.bind_some, E_markText (by omega), Option.bind_some, set_at, at_at, Option.bind_some, Option.bind_some, ltE, ckI_of (by omega) (by omega), Option.bind_some, ckI_of (by omega) (by omega), Option.bind_some, set_at]
    unfold mkV
    rw [show c + 1 + 1 + 1 = c + 3 by omega, show c + 1 + 1 = c + 2 by omega, show ((d.length : Int) + 1) = ((d.length + 1 : Nat) : Int) by omega]) (fun f c o => by rw [m_laws_markValueS_l1, dnlt]; rfl) l [] k _ fuel0 (fun _ _ => trivial) hk (by rw [endVl]; exact hB) (by simp only [List.length_nil]; omega)
  rw [endVl] at this
  exact this
theorem E_heldV {l : Row} {k : Int} (hk : 0 ≤ k) (hB : k + 3 * l.length ≤ 1000000000000) : m_laws_heldValueS (markV k l) k = some (k + 3 * l.length) := by
  unfold m_laws_heldValueS
  have := heldLoop (mk := mkV) (w := fun _ => 3) (B := 1000000000000) (ok := fun _ => True) (fun _ => by decide) (markV k l) (fun f c i => m_laws_heldValueS_l1 f (markV k l) c i) (fun f i c x hx hi hc hB _ => by
    rw [m_laws_heldValueS_l1, dlt (lt_of_at hx), cond_true, at_of hx, Option.bind_some]
    unfold mkV
    simp only [bne_self_eq_false, cond_false, Option.bind_some]
    rw [ckI_of (by omega) (by omega), Option.bind_some]
    simp only [bne_self_eq_false, cond_false, Option.bind_some]
    rw [ckI_of (by omega) (by omega), Option.bind_some, E_markText (by omega), Option.bind_some, show c + 1 + 1 = c + 2 by omega]
    rw [show sEq (mtx (c + 2)) (mtx (c + 2)) = true by rw [sEq_eq]; exact decide_eq_true rfl, Bool.not_true, cond_false, ckI_of (by omega) (by omega), Option.bind_some, ck1 (by omega), Option.bind_some, show c + 2 + 1 = c + 3 by omega]
    rfl) (fun f c => by rw [m_laws_heldValueS_l1, dnlt]; rfl) l [] k (((markV k l).length : Int) - 0).toNat.succ rfl (by rw [markM_len]; omega) (fun _ _ => trivial) hk (by rw [endVl]; exact hB) (by simp only [List.length_nil]; omega)
  rw [endVl] at this
  exact this
def wR (r : Row) : Int := 3 * r.length
def mkR (c : Int) (r : Row) : Row := markV c r
theorem E_markR {l : Rows} {k : Int} (hk : 0 ≤ k) (hB : endM wR k l ≤ 1000000000000) (hl : l.length ≤ 900000000000) : m_laws_markValueSS l k = some (endM wR k l, markM mkR wR k l) := by
  unfold m_laws_markValueSS
  exact markLoop (mk := mkR) (w := wR) (B := 1000000000000) (ok := fun _ => True) (fun x => by unfold wR; omega) (fun f c i o => m_laws_markValueSS_l1 f c i o) (fun f d x r c hd hc hB _ => by
    have hB' : c + 3 * (x.length : Int) ≤ 1000000000000 := hB
    rw [m_laws_markValueSS_l1, lt_at, cond_true, at_at, Option.bind_some, Option.bind_some, E_markV hc hB', Option.bind_some, lenQ_ok (markM_len _ _), Option.bind_some, ltE, ckI_of (by omega) (by omega), Option.bind_some, Int.toNat_natCast, set_at]
    rfl) (fun f c o => by rw [m_laws_markValueSS_l1, dnlt]; rfl) l [] k _ fuel0 (fun _ _ => trivial) hk hB (by simp only [List.length_nil]; omega)
theorem vokE_b {v : V} (h : vOk v = true) : v.S.size ≤ 6 ∧ -9999 ≤ v.N ∧ v.N ≤ 9999 := by
  have e0 : (⟨#[]⟩ : ByteArray).size = 0 := rfl
  unfold vOk at h
  by_cases h0 : v.Kind = 0
  · rw [if_pos h0, decide_eq_true_eq] at h
    rw [h]
    exact ⟨by show (0 : Nat) ≤ 6; omega, by show (-9999 : Int) ≤ 0; omega, by show (0 : Int) ≤ 9999; omega⟩
  rw [if_neg h0] at h
  by_cases h1 : v.Kind = 1
  · rw [if_pos h1, Bool.and_eq_true, Bool.and_eq_true, decide_eq_true_eq, decide_eq_true_eq, decide_eq_true_eq] at h
    refine ⟨by rw [h.1, e0]; omega, h.2.1, h.2.2⟩
  rw [if_neg h1] at h
  by_cases h2 : v.Kind = 2
  · rw [if_pos h2, Bool.and_eq_true, Bool.and_eq_true, decide_eq_true_eq, decide_eq_true_eq] at h
    exact ⟨h.1.2, by omega, by omega⟩
  rw [if_neg h2] at h
  by_cases h3 : v.Kind = 3
  · rw [if_pos h3, Bool.and_eq_true, Bool.and_eq_true, decide_eq_true_eq, decide_eq_true_eq, decide_eq_true_eq] at h
    exact ⟨by rw [h.1, e0]; omega, by omega, by omega⟩
  rw [if_neg h3] at h
  cases h
theorem rowOkE_b {r : Row} (h : rowOk r = true) : r.length ≤ 4 ∧ ∀ v ∈ r, vOk v = true := by
  unfold rowOk at h
  rw [Bool.and_eq_true, decide_eq_true_eq, List.all_eq_true] at h
  exact h
theorem smE_Value {v : S_laws_Value} (h : wt_laws_Value v ≤ 1048576) : vSm (cv_laws_Value v) := by unfold wt_laws_Value at h; unfold vSm cv_laws_Value; simp only; omega
theorem smE_row {l : List S_laws_Value} (h : wt_Llaws_Value l ≤ 1048576) : rSm (cv_Llaws_Value l) := by
  refine ⟨?_, ?_⟩
  · have := wt_Llaws_Value_len (l := l); unfold cv_Llaws_Value; rw [List.length_map]; omega
  · intro v hv
    obtain ⟨x, hx, rfl⟩ := List.mem_map.1 hv
    exact smE_Value (by have := wt_Llaws_Value_mem hx; omega)
theorem smE_rows {l : List (List S_laws_Value)} (h : wt_LLlaws_Value l ≤ 1048576) : rsSm (cv_LLlaws_Value l) := by
  refine ⟨?_, ?_⟩
  · have := wt_LLlaws_Value_len (l := l); unfold cv_LLlaws_Value; rw [List.length_map]; omega
  · intro v hv
    obtain ⟨x, hx, rfl⟩ := List.mem_map.1 hv
    exact smE_row (by have := wt_LLlaws_Value_mem hx; omega)
abbrev DeE := S_impl_Delta
def rm (r : Row) : Rows → Rows
  | [] => []
  | x :: t => if x = r then t else x :: rm r t
theorem rm_mem {r x : Row} : ∀ {l : Rows}, x ∈ rm r l → x ∈ l
  | [], h => by simp [rm] at h
  | y :: t, h => by
    rw [rm] at h
    split at h
    · exact List.mem_cons_of_mem _ h
    · rcases List.mem_cons.1 h with rfl | h
      · exact List.mem_cons_self ..
      · exact List.mem_cons_of_mem _ (rm_mem h)
theorem rm_len (r : Row) : ∀ l : Rows, (rm r l).length ≤ l.length
  | [] => Nat.le_refl _
  | y :: t => by
    have := rm_len r t
    rw [rm]
    split
    · simp
    · simp; omega
theorem rowMany_cons (x r : Row) (l : Rows) : rowMany (x :: l) r = rowMany l r + (if x = r then 1 else 0) := by
  unfold rowMany
  rw [List.countP_cons]
  by_cases h : x = r
  · rw [if_pos (decide_eq_true h), if_pos h]
  · rw [if_neg (by simpa using h), if_neg h]
theorem rm_many {r : Row} : ∀ {l : Rows}, rowMany (rm r l) r = rowMany l r - 1
  | [] => rfl
  | y :: t => by
    have := rm_many (r := r) (l := t)
    rw [rm]
    split
    · rename_i h; rw [rowMany_cons, if_pos h]; omega
    · rename_i h; rw [rowMany_cons, rowMany_cons, if_neg h, this]; omega
def rmN : Nat → Row → Rows → Option Rows
  | 0, _, l => some l
  | n + 1, r, l => if rowMany l r = 0 then none else rmN n r (rm r l)
theorem rmN_none : ∀ (n : Nat) (r : Row) (l : Rows), rowMany l r < n → rmN n r l = none
  | 0, _, _, h => by omega
  | n + 1, r, l, h => by
    rw [rmN]
    split
    · rfl
    · exact rmN_none n r _ (by rw [rm_many]; omega)
def stepD (o : Rows) (d : DeE) : Option Rows := if 0 < d.Many then some (o ++ List.replicate d.Many.toNat d.Row) else rmN (-d.Many).toNat d.Row o
def runD : Rows → List DeE → Option Rows
  | o, [] => some o
  | o, d :: ds => (stepD o d).bind fun o' => runD o' ds
def finD : Option Rows → Rows × Bool
  | none => ([], false)
  | some o => (sortR o, true)
def dOkE (d : DeE) : Bool := rowOk d.Row && (decide (-100 ≤ d.Many) && decide (d.Many ≤ 100))
/-- What all rows keep to. -/
def rsB (n : Nat) (l : Rows) : Prop := l.length ≤ n ∧ ∀ r ∈ l, rSm r
theorem rmN_b {n : Nat} {r : Row} : ∀ (k : Nat) {l o : Rows}, rsB n l → rmN k r l = some o → rsB n o
  | 0, l, o, h, e => by rw [rmN] at e; cases e; exact h
  | k + 1, l, o, h, e => by
    rw [rmN] at e
    split at e
    · cases e
    · exact rmN_b k (l := rm r l) ⟨by have := rm_len r l; have := h.1; omega, fun x hx => h.2 x (rm_mem hx)⟩ e
theorem stepD_b {n : Nat} {l o : Rows} {d : DeE} (h : rsB n l) (hd : d.Many ≤ 100) (hr : rSm d.Row) (e : stepD l d = some o) : rsB (n + 100) o := by
  unfold stepD at e
  split at e
  · cases e
    refine ⟨?_, fun x hx => ?_⟩
    · have := h.1
      rw [List.length_append, List.length_replicate]; omega
    · rcases List.mem_append.1 hx with hx | hx
      · exact h.2 x hx
      · rw [List.eq_of_mem_replicate hx]; exact hr
  · have := rmN_b _ h e
    exact ⟨by have := this.1; omega, this.2⟩
def eqR (r x : Row) : Bool := decide (x = r)
theorem idx_rm {r : Row} : ∀ {l : Rows}, (idxI (eqR r) l < 0 ↔ rowMany l r = 0) ∧ (0 ≤ idxI (eqR r) l → l.take (idxI (eqR r) l).toNat ++ l.drop ((idxI (eqR r) l).toNat + 1) = rm r l)
  | [] => ⟨by simp [idxI, rowMany], by simp [idxI]⟩
  | x :: l => by
    obtain ⟨h1, h2⟩ := idx_rm (r := r) (l := l)
    rw [rowMany_cons, rm]
    by_cases e : x = r
    · rw [idxI_pos (q := eqR r) (decide_eq_true e), if_pos e, if_pos e]
      exact ⟨by omega, fun _ => by simp⟩
    · rw [idxI_neg (q := eqR r) (decide_eq_false e), if_neg e, if_neg e]
      by_cases hn : idxI (eqR r) l < 0
      · rw [if_pos hn]
        have := h1.1 hn
        exact ⟨by omega, by omega⟩
      · rw [if_neg hn]
        have h3 : ¬ rowMany l r = 0 := fun h => hn (h1.2 h)
        refine ⟨by omega, fun _ => ?_⟩
        rw [← h2 (by omega)]
        have : (idxI (eqR r) l + 1).toNat = (idxI (eqR r) l).toNat + 1 := by omega
        rw [this, List.take_succ_cons, List.drop_succ_cons, List.cons_append]
theorem E_after1 {x : Row} {d : DeE} (h : x.length ≤ 900000000) : m_impl_afterDeltas_1 x d = some (decide (x = d.Row)) := by
  unfold m_impl_afterDeltas_1
  rw [L_slices_Equal_Limpl_Value_impl_Value h, Option.bind_some]
theorem impl_del {k1 : List DeE → Int → Int → Rows → Option (Rows × Bool)} {D : List DeE} {ld i : Int} {d : DeE} : ∀ (n f : Nat) (o : Rows), n < f → n ≤ 1000 → rsB 400000000 o →
    m_impl_afterDeltas_l3 k1 f (-(n : Int)) D ld i d o = (match rmN n d.Row o with | none => some ([], false) | some o' => m_impl_afterDeltas_j2 k1 D ld i o') := by
  intro n
  induction n with
  | zero =>
    intro f o hf _ _
    obtain ⟨f, rfl⟩ : ∃ q, f = q + 1 := ⟨f - 1, by omega⟩
    rw [m_impl_afterDeltas_l3, show decide (-((0 : Nat) : Int) < 0) = false from rfl, cond_false, rmN]
  | succ n ih =>
    intro f o hf hn ho
    obtain ⟨f, rfl⟩ : ∃ q, f = q + 1 := ⟨f - 1, by omega⟩
    have hol := ho.1
    obtain ⟨h1, h2⟩ := idx_rm (r := d.Row) (l := o)
    have h3 := idxI_ge (eqR d.Row) o
    rw [m_impl_afterDeltas_l3, decide_eq_true (by omega), cond_true, L_slices_IndexFunc_LLimpl_Value_Limpl_Value (q := eqR d.Row) (by omega) (fun v hv => E_after1 (by have := (ho.2 v hv).1; omega)), Option.bind_some, rmN]
    by_cases hz : rowMany o d.Row = 0
    · rw [decide_eq_true (h1.2 hz), cond_true, if_pos hz]
    · have hge : ¬ idxI (eqR d.Row) o < 0 := fun h => hz (h1.1 h)
      rw [decide_eq_false hge, cond_false, if_neg hz, ckI_of (by omega) (by omega), Option.bind_some]
      unfold m_slices_Delete_LLimpl_Value_Limpl_Value
      rw [if_pos ⟨by omega, by omega, by omega, by omega⟩, Option.bind_some, show (idxI (eqR d.Row) o + 1).toNat = (idxI (eqR d.Row) o).toNat + 1 by omega, h2 (by omega), ckI_of (by omega) (by omega), Option.bind_some, show -((n + 1 : Nat) : Int) + 1 = -(n : Int) by omega]
      exact ih f (rm d.Row o) (by omega) (by omega) ⟨by have := rm_len d.Row o; omega, fun x hx => ho.2 x (rm_mem hx)⟩
theorem impl_add {k1 : List DeE → Int → Int → Rows → Option (Rows × Bool)} {D : List DeE} {ld i M : Int} {d : DeE} : ∀ (n j f : Nat) (o : Rows), (j : Int) + n = M → n < f → M ≤ 1000 → o.length + n ≤ 400000000 →
    m_impl_afterDeltas_l2 k1 f D ld i M (j : Int) d o = m_impl_afterDeltas_j1 k1 D ld i d (o ++ List.replicate n d.Row) := by
  intro n
  induction n with
  | zero =>
    intro j f o hj hf _ _
    obtain ⟨f, rfl⟩ : ∃ q, f = q + 1 := ⟨f - 1, by omega⟩
    rw [m_impl_afterDeltas_l2, decide_eq_false (by omega), cond_false, List.replicate_zero, List.append_nil]
  | succ n ih =>
    intro j f o hj hf hM ho
    obtain ⟨f, rfl⟩ : ∃ q, f = q + 1 := ⟨f - 1, by omega⟩
    rw [m_impl_afterDeltas_l2, decide_eq_true (by omega), cond_true, app_of (by simp; omega), Option.bind_some, ckI_of (by omega) (by omega), Option.bind_some, show ((j : Int) + 1) = ((j + 1 : Nat) : Int) by omega]
    rw [ih (j + 1) f _ (by omega) (by omega) hM (by simp; omega), List.append_assoc, List.replicate_succ, List.singleton_append]
theorem impl_step {k1 : List DeE → Int → Int → Rows → Option (Rows × Bool)} {D : List DeE} {ld i : Int} {d : DeE} {o : Rows} (ho : rsB 300000000 o) (hd : dOkE d = true) :
    m_impl_afterDeltas_l2 k1 ((d.Many - 0).toNat + 1) D ld i d.Many 0 d o = (match stepD o d with | none => some ([], false) | some o' => m_impl_afterDeltas_j2 k1 D ld i o') := by
  unfold dOkE at hd
  simp only [Bool.and_eq_true, decide_eq_true_eq] at hd
  have hl := ho.1
  unfold stepD
  by_cases hp : 0 < d.Many
  · rw [if_pos hp]
    have := impl_add (k1 := k1) (D := D) (ld := ld) (i := i) (M := d.Many) (d := d) d.Many.toNat 0 ((d.Many - 0).toNat + 1) o (by omega) (by omega) (by omega) (by omega)
    refine Eq.trans this ?_
    unfold m_impl_afterDeltas_j1
    rw [show ((0 : Int) - d.Many).toNat + 1 = 0 + 1 by omega, m_impl_afterDeltas_l3, decide_eq_false (by omega), cond_false]
  · rw [if_neg hp]
    rw [show (d.Many - 0).toNat + 1 = 0 + 1 by omega, m_impl_afterDeltas_l2, decide_eq_false (by omega), cond_false]
    unfold m_impl_afterDeltas_j1
    have := impl_del (k1 := k1) (D := D) (ld := ld) (i := i) (d := d) (-d.Many).toNat (((0 : Int) - d.Many).toNat + 1) o (by omega) (by omega) ⟨by omega, ho.2⟩
    rw [show -(((-d.Many).toNat : Nat) : Int) = d.Many by omega] at this
    exact this
theorem impl_run {D : List DeE} (hD : ∀ d ∈ D, dOkE d = true ∧ rSm d.Row) (hl : D.length ≤ 1100000) : ∀ (n k f : Nat) (o : Rows), k + n = D.length → n < f → rsB (100000000 + 100 * k) o → m_impl_afterDeltas_l1 f D (D.length : Int) (k : Int) o = some (finD (runD o (D.drop k))) := by
  intro n
  induction n with
  | zero =>
    intro k f o hk hf ho
    obtain ⟨f, rfl⟩ : ∃ q, f = q + 1 := ⟨f - 1, by omega⟩
    obtain rfl : k = D.length := by omega
    rw [m_impl_afterDeltas_l1, dnlt, cond_false, List.drop_length]
    unfold m_impl_afterDeltas_j3
    rw [E_impl_RowsSorted ⟨by have := ho.1; omega, ho.2⟩, Option.bind_some]
    rfl
  | succ n ih =>
    intro k f o hk hf ho
    obtain ⟨f, rfl⟩ : ∃ q, f = q + 1 := ⟨f - 1, by omega⟩
    have hx : D[k]? = some D[k] := List.getElem?_eq_getElem (by omega)
    obtain ⟨g1, g2⟩ := hD D[k] (List.getElem_mem (by omega))
    have hM : D[k].Many ≤ 100 := by unfold dOkE at g1; simp only [Bool.and_eq_true, decide_eq_true_eq] at g1; omega
    have hs := impl_step (k1 := m_impl_afterDeltas_l1 f) (D := D) (ld := (D.length : Int)) (i := (k : Int)) (d := D[k]) (o := o) ⟨by have := ho.1; omega, ho.2⟩ g1
    rw [m_impl_afterDeltas_l1, dlt (by omega), cond_true, at_of hx, Option.bind_some]
    refine Eq.trans hs ?_
    have ed : D.drop k = D[k] :: D.drop (k + 1) := List.drop_eq_getElem_cons (by omega)
    rw [ed, runD]
    cases hst : stepD o D[k] with
    | none => rfl
    | some o' =>
      simp only [Option.bind_some]
      unfold m_impl_afterDeltas_j2
      rw [ck1 (by omega), Option.bind_some, show ((k : Int) + 1) = ((k + 1 : Nat) : Int) by omega]
      refine ih (k + 1) f o' (by omega) (by omega) ?_
      have := stepD_b ho hM g2 hst
      exact ⟨by have := this.1; omega, this.2⟩
/-- What both sides come to. -/
def deltaR (rs : Rows) (ds : List DeE) : Rows × Bool := if rs.all rowOk = true ∧ ds.all dOkE = true then finD (runD rs ds) else ([], false)
theorem E_delta1 {d : DeE} (h : rSm d.Row) : m_impl_DeltaRows_1 d = some (!dOkE d) := by
  unfold m_impl_DeltaRows_1 m_impl_DeltaRows_1_j1 dOkE
  rw [E_impl_RowOk h, Option.bind_some]
  cases rowOk d.Row with
  | false => rfl
  | true => rw [Bool.not_true, cond_false, E_between, Option.bind_some, Bool.true_and]
theorem E_impl_DeltaRows {rs : Rows} {ds : List DeE} (h : rsB 1100000 rs) (hl : ds.length ≤ 1100000) (hd : ∀ d ∈ ds, rSm d.Row) : m_impl_DeltaRows rs ds = some (deltaR rs ds) := by
  unfold m_impl_DeltaRows m_impl_DeltaRows_j1 deltaR
  have h1 := h.1
  rw [E_allOk ⟨by omega, h.2⟩, Option.bind_some]
  cases hr : rs.all rowOk with
  | false => rw [Bool.not_false, cond_true, cond_true, if_neg (by simp)]
  | true =>
    rw [Bool.not_true, cond_false, L_slices_ContainsFunc_Limpl_Delta_impl_Delta (q := fun d => !dOkE d) (by omega) (fun d hd' => E_delta1 (hd d hd')), Option.bind_some]
    cases ha : ds.all dOkE with
    | false =>
      have : (ds.any fun d => !dOkE d) = true := by rw [List.all_eq_not_any_not] at ha; simpa using ha
      rw [this, cond_true, if_neg (by simp)]
    | true =>
      have : (ds.any fun d => !dOkE d) = false := by rw [List.all_eq_not_any_not] at ha; simpa using ha
      rw [this, cond_false, if_pos ⟨rfl, rfl⟩]
      unfold m_impl_afterDeltas
      rw [L_slices_Clone_LLimpl_Value_Limpl_Value (by omega), Option.bind_some]
      have := impl_run (D := ds) (fun d hd' => ⟨List.all_eq_true.1 ha d hd', hd d hd'⟩) hl ds.length 0 _ rs (Nat.zero_add _) fuel0 ⟨by omega, h.2⟩
      have e0 : ((0 : Nat) : Int) = 0 := rfl
      rw [e0, List.drop_zero] at this
      rw [this, Option.bind_some]
theorem one_many (r x : Row) : rowMany [r] x = if r = x then 1 else 0 := by
  rw [rowMany_cons]
  show 0 + _ = _
  rw [Nat.zero_add]
theorem less_l1 {o : Rows} {r : Row} (ho : rsB 400000000 o) (hr : rSm r) : ∀ (n k f : Nat) (out : Rows), k + n = o.length → n < f → out.length + n ≤ 900000000 →
    m_spec_RowsLess_l1 f o [r] (k : Int) out [r] = some (out ++ o.drop k) ∧ m_spec_RowsLess_l1 f o [r] (k : Int) out [] = some (out ++ rm r (o.drop k)) := by
  have hl := ho.1
  have hr1 := hr.1
  intro n
  induction n with
  | zero =>
    intro k f out hk hf hout
    obtain ⟨f, rfl⟩ : ∃ q, f = q + 1 := ⟨f - 1, by omega⟩
    obtain rfl : k = o.length := by omega
    rw [m_spec_RowsLess_l1, dnlt, cond_false, m_spec_RowsLess_l1, dnlt, cond_false, List.drop_length]
    unfold m_spec_RowsLess_j2
    simp [rm]
  | succ n ih =>
    intro k f out hk hf hout
    obtain ⟨f, rfl⟩ : ∃ q, f = q + 1 := ⟨f - 1, by omega⟩
    have hx : o[k]? = some o[k] := List.getElem?_eq_getElem (by omega)
    have hxr := ho.2 o[k] (List.getElem_mem (by omega))
    have hx1 := hxr.1
    have ek : ((k : Int) + 1) = ((k + 1 : Nat) : Int) := by omega
    have ed : o.drop k = o[k] :: o.drop (k + 1) := List.drop_eq_getElem_cons (by omega)
    have m1 : m_spec_RowMany [r] o[k] = some (rowMany [r] o[k] : Int) := E_spec_RowMany (by simp) (by simp; omega)
    have m0 : m_spec_RowMany [] o[k] = some (rowMany [] o[k] : Int) := E_spec_RowMany (by simp) (by simp)
    have hcopy : ∀ t : Rows, ((at? o (k : Int)).bind fun x20 => (m_spec_l3Own x20).bind fun x21 => (app? out [x21]).bind fun x22 => m_spec_RowsLess_j1 (m_spec_RowsLess_l1 f) o [r] (k : Int) x22 t) = m_spec_RowsLess_l1 f o [r] ((k + 1 : Nat) : Int) (out ++ [o[k]]) t := fun t => by
      rw [at_of hx, Option.bind_some, E_l3Own (by omega), Option.bind_some, app_of (by simp; omega), Option.bind_some]
      unfold m_spec_RowsLess_j1
      rw [ck1 (by omega), Option.bind_some, ek]
    obtain ⟨i1, i2⟩ := ih (k + 1) f (out ++ [o[k]]) (by omega) (by omega) (by simp; omega)
    constructor
    · rw [m_spec_RowsLess_l1, dlt (by omega), cond_true, at_of hx, Option.bind_some, m1, Option.bind_some, Option.bind_some, m1, Option.bind_some, decide_eq_false (by omega), cond_false, ← at_of hx, hcopy, i1, ed, List.append_assoc, List.singleton_append]
    · rw [m_spec_RowsLess_l1, dlt (by omega), cond_true, at_of hx, Option.bind_some, m0, Option.bind_some, Option.bind_some, m1, Option.bind_some, one_many, ed, rm]
      by_cases e : o[k] = r
      · rw [if_pos e.symm, if_pos e, decide_eq_true (show ((rowMany [] o[k] : Nat) : Int) < ((1 : Nat) : Int) from (show ((0 : Nat) : Int) < ((1 : Nat) : Int) by decide)), cond_true, Option.bind_some, app_of (by simp), Option.bind_some, List.nil_append, e]
        unfold m_spec_RowsLess_j1
        rw [ck1 (by omega), Option.bind_some, ek]
        exact (ih (k + 1) f out (by omega) (by omega) (by omega)).1
      · rw [if_neg (fun h => e h.symm), if_neg e, decide_eq_false (show ¬ ((rowMany [] o[k] : Nat) : Int) < ((0 : Nat) : Int) by omega), cond_false, ← at_of hx, hcopy, i2, List.append_assoc, List.singleton_append]
theorem E_less1 {o : Rows} {r : Row} (ho : rsB 400000000 o) (hr : rSm r) : m_spec_RowsLess o [r] = some (rm r o) := by
  unfold m_spec_RowsLess
  have := (less_l1 ho hr o.length 0 _ [] (Nat.zero_add _) fuel0 (by have := ho.1; simp only [List.length_nil]; omega)).2
  exact this
theorem spec_del {k2 : List DeE → Int → Rows → Option (Rows × Bool)} {D : List DeE} {i : Int} {d : DeE} (hr : rSm d.Row) : ∀ (n f : Nat) (o : Rows), n < f → n ≤ 1000 → rsB 400000000 o → n ≤ rowMany o d.Row →
    m_spec_DeltaRows_l4 k2 f D i (-(n : Int)) d o = (match rmN n d.Row o with | none => some ([], false) | some o' => m_spec_DeltaRows_j4 k2 D i o') := by
  intro n
  induction n with
  | zero =>
    intro f o hf _ _ _
    obtain ⟨f, rfl⟩ : ∃ q, f = q + 1 := ⟨f - 1, by omega⟩
    rw [m_spec_DeltaRows_l4, show decide (-((0 : Nat) : Int) < 0) = false from rfl, cond_false, rmN]
  | succ n ih =>
    intro f o hf hn ho hm
    obtain ⟨f, rfl⟩ : ∃ q, f = q + 1 := ⟨f - 1, by omega⟩
    rw [m_spec_DeltaRows_l4, decide_eq_true (by omega), cond_true, E_less1 ho hr, Option.bind_some, rmN, if_neg (by omega), ckI_of (by omega) (by omega), Option.bind_some, show -((n + 1 : Nat) : Int) + 1 = -(n : Int) by omega]
    exact ih f (rm d.Row o) (by omega) (by omega) ⟨by have := rm_len d.Row o; have := ho.1; omega, fun x hx => ho.2 x (rm_mem hx)⟩ (by rw [rm_many]; omega)
theorem spec_add {k2 : List DeE → Int → Rows → Option (Rows × Bool)} {D : List DeE} {i : Int} {d : DeE} (hr : rSm d.Row) : ∀ (n f : Nat) (o : Rows), n < f → n ≤ 1000 → o.length + n ≤ 400000000 →
    m_spec_DeltaRows_l3 k2 f D i (n : Int) d o = m_spec_DeltaRows_j3 k2 D i d (o ++ List.replicate n d.Row) := by
  have hr1 := hr.1
  intro n
  induction n with
  | zero =>
    intro f o hf _ _
    obtain ⟨f, rfl⟩ : ∃ q, f = q + 1 := ⟨f - 1, by omega⟩
    rw [m_spec_DeltaRows_l3, show decide (((0 : Nat) : Int) > 0) = false from rfl, cond_false, List.replicate_zero, List.append_nil]
  | succ n ih =>
    intro f o hf hn ho
    obtain ⟨f, rfl⟩ : ∃ q, f = q + 1 := ⟨f - 1, by omega⟩
    rw [m_spec_DeltaRows_l3, decide_eq_true (by omega), cond_true, E_l3Own (by omega), Option.bind_some, app_of (by simp; omega), Option.bind_some, ckI_of (by omega) (by omega), Option.bind_some, show ((n + 1 : Nat) : Int) - 1 = (n : Int) by omega, ih f _ (by omega) (by omega) (by simp; omega), List.append_assoc, List.replicate_succ, List.singleton_append]
theorem spec_step {k2 : List DeE → Int → Rows → Option (Rows × Bool)} {D : List DeE} {i : Int} {d : DeE} {o : Rows} (ho : rsB 300000000 o) (hd : dOkE d = true) (hr : rSm d.Row) :
    m_spec_DeltaRows_j2 k2 D i (decide ((rowMany o d.Row : Int) + d.Many < 0)) d o = (match stepD o d with | none => some ([], false) | some o' => m_spec_DeltaRows_j4 k2 D i o') := by
  unfold dOkE at hd
  simp only [Bool.and_eq_true, decide_eq_true_eq] at hd
  have hl := ho.1
  unfold stepD m_spec_DeltaRows_j2
  by_cases hp : 0 < d.Many
  · rw [if_pos hp, decide_eq_false (by omega), cond_false]
    have := spec_add (k2 := k2) (D := D) (i := i) hr d.Many.toNat ((d.Many - 0).toNat + 1) o (by omega) (by omega) (by omega)
    rw [show ((d.Many.toNat : Nat) : Int) = d.Many by omega] at this
    refine Eq.trans this ?_
    unfold m_spec_DeltaRows_j3
    rw [show ((0 : Int) - d.Many).toNat + 1 = 0 + 1 by omega, m_spec_DeltaRows_l4, decide_eq_false (by omega), cond_false]
  · rw [if_neg hp]
    by_cases hm : (rowMany o d.Row : Int) + d.Many < 0
    · rw [decide_eq_true hm, cond_true, rmN_none _ _ _ (by omega)]
    · rw [decide_eq_false hm, cond_false, show (d.Many - 0).toNat + 1 = 0 + 1 by omega, m_spec_DeltaRows_l3, decide_eq_false (by omega), cond_false]
      unfold m_spec_DeltaRows_j3
      have := spec_del (k2 := k2) (D := D) (i := i) hr (-d.Many).toNat (((0 : Int) - d.Many).toNat + 1) o (by omega) (by omega) ⟨by omega, ho.2⟩ (by omega)
      rw [show -(((-d.Many).toNat : Nat) : Int) = d.Many by omega] at this
      exact this
theorem spec_run {D : List DeE} (hD : ∀ d ∈ D, rSm d.Row) (hl : D.length ≤ 1100000) : ∀ (n k f : Nat) (o : Rows), k + n = D.length → n < f → rsB (100000000 + 100 * k) o → m_spec_DeltaRows_l2 f D (k : Int) o = some (if (D.drop k).all dOkE = true then finD (runD o (D.drop k)) else ([], false)) := by
  intro n
  induction n with
  | zero =>
    intro k f o hk hf ho
    obtain ⟨f, rfl⟩ : ∃ q, f = q + 1 := ⟨f - 1, by omega⟩
    obtain rfl : k = D.length := by omega
    rw [m_spec_DeltaRows_l2, dnlt, cond_false, List.drop_length]
    unfold m_spec_DeltaRows_j5
    rw [(E_spec_RowsSorted ⟨by have := ho.1; omega, ho.2⟩).1, Option.bind_some]
    rfl
  | succ n ih =>
    intro k f o hk hf ho
    obtain ⟨f, rfl⟩ : ∃ q, f = q + 1 := ⟨f - 1, by omega⟩
    have hx : D[k]? = some D[k] := List.getElem?_eq_getElem (by omega)
    have g2 := hD D[k] (List.getElem_mem (by omega))
    have ed : D.drop k = D[k] :: D.drop (k + 1) := List.drop_eq_getElem_cons (by omega)
    have hol := ho.1
    rw [m_spec_DeltaRows_l2, dlt (by omega), cond_true, at_of hx, Option.bind_some, ltE, E_spec_RowOk g2, Option.bind_some, ed, List.all_cons]
    have stop : ∀ b : Bool, dOkE D[k] = false → m_spec_DeltaRows_j2 (m_spec_DeltaRows_l2 f) D (k : Int) true D[k] o = some (if (dOkE D[k] && b) = true then finD (runD o (D[k] :: D.drop (k + 1))) else ([], false)) := fun b h => by
      unfold m_spec_DeltaRows_j2
      rw [cond_true, h, Bool.false_and, if_neg (by simp)]
    cases hrow : rowOk D[k].Row with
    | false =>
      rw [Bool.not_false, cond_true]
      exact stop _ (by unfold dOkE; rw [hrow, Bool.false_and])
    | true =>
      rw [Bool.not_true, cond_false, E_l1In, Option.bind_some]
      cases hin : decide (-100 ≤ D[k].Many) && decide (D[k].Many ≤ 100) with
      | false =>
        rw [Bool.not_false, cond_true]
        exact stop _ (by unfold dOkE; rw [hrow, Bool.true_and]; exact hin)
      | true =>
        have hok : dOkE D[k] = true := by unfold dOkE; rw [hrow, Bool.true_and]; exact hin
        have hM : -100 ≤ D[k].Many ∧ D[k].Many ≤ 100 := by simpa only [Bool.and_eq_true, decide_eq_true_eq] using hin
        have hcnt : rowMany o D[k].Row ≤ o.length := List.countP_le_length
        have hs := spec_step (k2 := m_spec_DeltaRows_l2 f) (D := D) (i := (k : Int)) (d := D[k]) (o := o) ⟨by omega, ho.2⟩ hok g2
        rw [Bool.not_true, cond_false, E_spec_RowMany (by omega) (fun x hx => by have := (ho.2 x hx).1; omega), Option.bind_some, ckI_of (by omega) (by omega), Option.bind_some]
        refine Eq.trans hs ?_
        rw [hok, Bool.true_and, runD]
        cases hst : stepD o D[k] with
        | none =>
          simp only [Option.bind_none]
          show some _ = some (if _ then ([], false) else ([], false))
          rw [ite_self]
        | some o' =>
          simp only [Option.bind_some]
          unfold m_spec_DeltaRows_j4
          rw [ck1 (by omega), Option.bind_some, show ((k : Int) + 1) = ((k + 1 : Nat) : Int) by omega]
          refine ih (k + 1) f o' (by omega) (by omega) ?_
          have := stepD_b ho hM.2 g2 hst
          exact ⟨by have := this.1; omega, this.2⟩
theorem E_spec_DeltaRows {rs : Rows} {ds : List DeE} (h : rsB 1100000 rs) (hl : ds.length ≤ 1100000) (hd : ∀ d ∈ ds, rSm d.Row) : m_spec_DeltaRows rs ds = some (deltaR rs ds) := by
  unfold m_spec_DeltaRows deltaR
  have h1 := h.1
  have key : ∀ (n k f : Nat), k + n = rs.length → n < f → m_spec_DeltaRows_l1 f rs ds (k : Int) (rs.take k) = (if (rs.drop k).all rowOk = true then m_spec_DeltaRows_j1 ds rs else some ([], false)) := by
    intro n
    induction n with
    | zero =>
      intro k f hk hf
      obtain ⟨f, rfl⟩ : ∃ q, f = q + 1 := ⟨f - 1, by omega⟩
      obtain rfl : k = rs.length := by omega
      rw [m_spec_DeltaRows_l1, dnlt, cond_false, List.drop_length, List.take_length]
      rfl
    | succ n ih =>
      intro k f hk hf
      obtain ⟨f, rfl⟩ : ∃ q, f = q + 1 := ⟨f - 1, by omega⟩
      have hx : rs[k]? = some rs[k] := List.getElem?_eq_getElem (by omega)
      have hxr := h.2 rs[k] (List.getElem_mem (by omega))
      have hx1 := hxr.1
      have ed : rs.drop k = rs[k] :: rs.drop (k + 1) := List.drop_eq_getElem_cons (by omega)
      have et : rs.take k ++ [rs[k]] = rs.take (k + 1) := (List.take_succ_eq_append_getElem (by omega)).symm
      rw [m_spec_DeltaRows_l1, dlt (by omega), cond_true, at_of hx, Option.bind_some, E_spec_RowOk hxr, Option.bind_some, ed, List.all_cons]
      cases rowOk rs[k] with
      | false => rw [Bool.not_false, cond_true, Bool.false_and, if_neg (by simp)]
      | true => rw [Bool.not_true, cond_false, Option.bind_some, E_l3Own (by omega), Option.bind_some, app_of (by simp; omega), Option.bind_some, ck1 (by omega), Option.bind_some, Bool.true_and, et, show ((k : Int) + 1) = ((k + 1 : Nat) : Int) by omega]; exact ih (k + 1) f (by omega) (by omega)
  have := key rs.length 0 _ (Nat.zero_add _) fuel0
  rw [List.take_zero, List.drop_zero] at this
  refine Eq.trans this ?_
  cases hr : rs.all rowOk with
  | false => rw [if_neg (by simp), if_neg (by simp)]
  | true =>
    rw [if_pos rfl]
    unfold m_spec_DeltaRows_j1
    have h2 := spec_run (D := ds) hd hl ds.length 0 _ rs (Nat.zero_add _) fuel0 ⟨by omega, h.2⟩
    rw [List.drop_zero] at h2
    refine Eq.trans h2 ?_
    by_cases ha : ds.all dOkE = true
    · rw [if_pos ha, if_pos ⟨rfl, ha⟩]
    · rw [if_neg ha, if_neg (fun h => ha h.2)]
theorem E_heldR {l : Rows} {k : Int} (hk : 0 ≤ k) (hB : endM wR k l ≤ 1000000000000) (hl : l.length ≤ 900000000000) : m_laws_heldValueSS (markM mkR wR k l) k = some (endM wR k l) := by
  unfold m_laws_heldValueSS
  exact heldLoop (mk := mkR) (w := wR) (B := 1000000000000) (ok := fun _ => True) (fun x => by unfold wR; omega) (markM mkR wR k l) (fun f c i => m_laws_heldValueSS_l1 f (markM mkR wR k l) c i) (fun f i c x hx hi hc hB _ => by
    have hB' : c + 3 * (x.length : Int) ≤ 1000000000000 := hB
    rw [m_laws_heldValueSS_l1, dlt (lt_of_at hx), cond_true, at_of hx, Option.bind_some]
    unfold mkR
    rw [E_heldV hc hB', Option.bind_some, decide_eq_false (by omega), cond_false, ck1 (by omega), Option.bind_some]
    rfl) (fun f c => by rw [m_laws_heldValueSS_l1, dnlt]; rfl) l [] k (((markM mkR wR k l).length : Int) - 0).toNat.succ rfl (by rw [markM_len]; omega) (fun _ _ => trivial) hk hB (by simp only [List.length_nil]; omega)
def wDe (d : DeE) : Int := 3 * d.Row.length + 1
def mkDe (c : Int) (d : DeE) : DeE := ⟨markV c d.Row, c + 3 * d.Row.length⟩
theorem E_markDe {l : List DeE} {k : Int} (hk : 0 ≤ k) (hB : endM wDe k l ≤ 1000000000000) (hl : l.length ≤ 900000000000) : m_laws_markDeltaS l k = some (endM wDe k l, markM mkDe wDe k l) := by
  unfold m_laws_markDeltaS
  exact markLoop (mk := mkDe) (w := wDe) (B := 1000000000000) (ok := fun _ => True) (fun x => by unfold wDe; omega) (fun f c i o => m_laws_markDeltaS_l1 f c i o) (fun f d x r c hd hc hB _ => by
    have hB' : c + (3 * (x.Row.length : Int) + 1) ≤ 1000000000000 := hB
    rw [m_laws_markDeltaS_l1, lt_at, cond_true, at_at, Option.bind_some, Option.bind_some, E_markV hc (by omega), Option.bind_some, lenQ_ok (markM_len _ _), Option.bind_some, ltE]
    simp only []
    rw [Int.toNat_natCast, set_at, at_at, Option.bind_some, Option.bind_some, ckI_of (by omega) (by omega), Option.bind_some, ckI_of (by omega) (by omega), Option.bind_some, set_at]
    unfold mkDe wDe
    rw [show c + 3 * (x.Row.length : Int) + 1 = c + (3 * (x.Row.length : Int) + 1) by omega, show ((d.length : Int) + 1) = ((d.length + 1 : Nat) : Int) by omega]) (fun f c o => by rw [m_laws_markDeltaS_l1, dnlt]; rfl) l [] k _ fuel0 (fun _ _ => trivial) hk hB (by simp only [List.length_nil]; omega)
theorem sumL5 {α : Type} {f g : α → Nat} : ∀ {l : List α}, (∀ x ∈ l, f x ≤ g x) → (l.map f).sum ≤ (l.map g).sum
  | [], _ => Nat.le_refl _
  | x :: l, h => by
    rw [List.map_cons, List.sum_cons, List.map_cons, List.sum_cons]
    have := sumL5 (f := f) (g := g) (l := l) fun y hy => h y (by simp [hy])
    have := h x (by simp)
    omega
theorem sumB5 {α : Type} {f : α → Nat} {B : Nat} : ∀ {l : List α}, (∀ x ∈ l, f x ≤ B) → (l.map f).sum ≤ l.length * B
  | [], _ => Nat.zero_le _
  | x :: l, h => by
    rw [List.map_cons, List.sum_cons, List.length_cons, Nat.succ_mul]
    have := sumB5 (f := f) (B := B) (l := l) fun y hy => h y (by simp [hy])
    have := h x (by simp)
    omega
theorem sum_succ5 {α : Type} {f : α → Nat} : ∀ l : List α, (l.map fun x => f x + 1).sum = (l.map f).sum + l.length
  | [] => rfl
  | x :: l => by rw [List.map_cons, List.sum_cons, List.map_cons, List.sum_cons, sum_succ5 l, List.length_cons]; omega
theorem endR_w (c : Int) (l : Rows) : endM wR c l ≤ c + 3 * (wt_LLimpl_Value l : Int) := by
  have h1 := endM_sum (w := wR) (m := fun r => r.length) (fun x => by unfold wR; omega) c l
  have h2 : (l.map fun r : Row => r.length).sum ≤ (l.map fun x => wt_Limpl_Value x).sum := sumL5 fun x _ => wt_Limpl_Value_len
  unfold wt_LLimpl_Value
  push_cast
  omega
theorem endDe_w (c : Int) (l : List DeE) : endM wDe c l ≤ c + 3 * (wt_Limpl_Delta l : Int) := by
  have h1 := endM_sum (w := wDe) (m := fun w => w.Row.length + 1) (fun x => by unfold wDe; push_cast; omega) c l
  have h2 : (l.map fun w : DeE => w.Row.length).sum ≤ (l.map fun x => wt_impl_Delta x).sum := sumL5 fun x _ => wt_Limpl_Value_len
  have h3 := sum_succ5 (f := fun w : DeE => w.Row.length) l
  unfold wt_Limpl_Delta
  push_cast
  omega
theorem wt_row5 {r : Row} (h : rowOk r = true) : wt_Limpl_Value r ≤ 28 := by
  obtain ⟨h1, h2⟩ := rowOkE_b h
  have h3 : (r.map fun v => wt_impl_Value v).sum ≤ r.length * 6 := sumB5 fun v hv => (vokE_b (h2 v hv)).1
  unfold wt_Limpl_Value
  omega
theorem runD_b : ∀ (ds : List DeE) (n : Nat) {o p : Rows}, (o.length ≤ n ∧ ∀ r ∈ o, rowOk r = true) → (∀ d ∈ ds, dOkE d = true) → runD o ds = some p → p.length ≤ n + 100 * ds.length ∧ ∀ r ∈ p, rowOk r = true
  | [], n, o, p, h, _, e => by rw [runD] at e; cases e; exact ⟨by simpa using h.1, h.2⟩
  | d :: ds, n, o, p, h, hd, e => by
    have hok := hd d (by simp)
    unfold dOkE at hok
    simp only [Bool.and_eq_true, decide_eq_true_eq] at hok
    rw [runD] at e
    cases hs : stepD o d with
    | none => rw [hs] at e; cases e
    | some o' =>
      rw [hs, Option.bind_some] at e
      have h' : o'.length ≤ n + 100 ∧ ∀ r ∈ o', rowOk r = true := by
        unfold stepD at hs
        split at hs
        · cases hs
          refine ⟨by have := h.1; rw [List.length_append, List.length_replicate]; omega, fun r hr => ?_⟩
          rcases List.mem_append.1 hr with hr | hr
          · exact h.2 r hr
          · rw [List.eq_of_mem_replicate hr]; exact hok.1
        · have key : ∀ (k : Nat) {l q : Rows}, (l.length ≤ n ∧ ∀ r ∈ l, rowOk r = true) → rmN k d.Row l = some q → q.length ≤ n ∧ ∀ r ∈ q, rowOk r = true := by
            intro k
            induction k with
            | zero => intro l q hl e; rw [rmN] at e; cases e; exact hl
            | succ k ih =>
              intro l q hl e
              rw [rmN] at e
              split at e
              · cases e
              · exact ih (l := rm d.Row l) ⟨by have := rm_len d.Row l; have := hl.1; omega, fun x hx => hl.2 x (rm_mem hx)⟩ e
          have := key _ h hs
          exact ⟨by omega, this.2⟩
      have := runD_b ds (n + 100) h' (fun x hx => hd x (by simp [hx])) e
      exact ⟨by rw [List.length_cons]; omega, this.2⟩
theorem deltaR_b {rs : Rows} {ds : List DeE} (h : rs.length ≤ 1100000) (hl : ds.length ≤ 1100000) : (deltaR rs ds).1.length ≤ 200000000 ∧ ∀ r ∈ (deltaR rs ds).1, rowOk r = true := by
  unfold deltaR
  split
  · rename_i hc
    cases hr : runD rs ds with
    | none => exact ⟨by simp [finD], by simp [finD]⟩
    | some o =>
      have := runD_b ds 1100000 ⟨h, fun r hr => List.all_eq_true.1 hc.1 r hr⟩ (fun d hd => List.all_eq_true.1 hc.2 d hd) hr
      have hp := sortR_perm o
      refine ⟨?_, fun r hr' => this.2 r (hp.mem_iff.1 hr')⟩
      show (sortR o).length ≤ _
      rw [hp.length_eq]; omega
  · exact ⟨by simp, by simp⟩
theorem wt_rows5 {l : Rows} (hl : l.length ≤ 200000000) (h : ∀ r ∈ l, rowOk r = true) : wt_LLimpl_Value l ≤ 10000000000 := by
  have h3 : (l.map fun t => wt_Limpl_Value t).sum ≤ l.length * 28 := sumB5 fun t ht => wt_row5 (h t ht)
  unfold wt_LLimpl_Value
  omega
theorem smE_deltas {l : List S_laws_Delta} (h : wt_Llaws_Delta l ≤ 1048576) : (cv_Llaws_Delta l).length ≤ 1100000 ∧ ∀ d ∈ cv_Llaws_Delta l, rSm d.Row := by
  refine ⟨?_, fun w hw => ?_⟩
  · have := wt_Llaws_Delta_len (l := l)
    unfold cv_Llaws_Delta; rw [List.length_map]; omega
  · unfold cv_Llaws_Delta at hw
    obtain ⟨x, hx, rfl⟩ := List.mem_map.1 hw
    exact smE_row (l := x.Row) (by have := wt_Llaws_Delta_mem hx; unfold wt_laws_Delta at this; omega)
theorem bneBs (b : Bool) : (b != b) = false := by cases b <;> rfl
theorem pure_FnExactDeltaRows (a0 : List (List S_laws_Value)) (a1 : List S_laws_Delta) (b0 : B_list (B_list B_laws_Value) a0) (b1 : B_list B_laws_Delta a1) : m_laws_FnExactDeltaRows a0 a1 = some true := by
  unfold m_laws_FnExactDeltaRows
  rw [sz_LLlaws_Value b0 (by decide) (by decide), Option.bind_some]
  by_cases h0 : (wt_LLlaws_Value a0 : Int) ≤ 1048576
  case neg => rw [szR_lt' h0, cond_true]
  rw [szR_lt h0, cond_false, szR_pos h0, sz_Llaws_Delta b1 (by omega) (by omega), Option.bind_some]
  by_cases h1 : (wt_Llaws_Delta a1 : Int) ≤ 1048576 - (wt_LLlaws_Value a0 : Int)
  case neg => rw [szR_lt' h1, cond_true]
  have hsm := smE_rows (l := a0) (by omega)
  have hsl : (cv_LLlaws_Value a0).length ≤ 1100000 := by have := wt_LLlaws_Value_len (l := a0); unfold cv_LLlaws_Value; rw [List.length_map]; omega
  obtain ⟨hdl, hdr⟩ := smE_deltas (l := a1) (by omega)
  have hto := to_LLlaws_Value (a := a0) (by omega)
  have hto1 := to_Llaws_Delta (a := a1) (by omega)
  have hwt : wt_LLimpl_Value (cv_LLlaws_Value a0) ≤ 1048576 := by rw [wc_LLlaws_Value]; omega
  have hwt1 : wt_Limpl_Delta (cv_Llaws_Delta a1) ≤ 1048576 := by rw [wc_Llaws_Delta]; omega
  rw [szR_lt h1, cond_false, hto, Option.bind_some, hto1, Option.bind_some]
  generalize cv_LLlaws_Value a0 = R at hsm hto hwt hsl
  generalize cv_Llaws_Delta a1 = D at hdl hdr hto1 hwt1
  obtain ⟨hC, hCk⟩ := deltaR_b (rs := R) (ds := D) hsl hdl
  have eC := E_impl_DeltaRows (rs := R) (ds := D) ⟨hsl, hsm.2⟩ hdl hdr
  have eS := E_spec_DeltaRows (rs := R) (ds := D) ⟨hsl, hsm.2⟩ hdl hdr
  generalize deltaR R D = CC at hC hCk eC eS
  obtain ⟨C, ok⟩ := CC
  simp only at hC hCk
  have hw := wt_rows5 hC hCk
  have hB := endR_w 1 C
  have hB2 := endR_w 1 R
  have hB3 := endDe_w (endM wR 1 R) D
  have hge := endM_ge (w := wR) (fun x => by unfold wR; omega) 1 C
  have hge2 := endM_ge (w := wR) (fun x => by unfold wR; omega) 1 R
  have hge3 := endM_ge (w := wDe) (fun x => by unfold wDe; omega) (endM wR 1 R) D
  have eqC : m_laws_eqValueSS C C = some true := by rw [eq_LLimpl_Value (by omega)]; exact congrArg some (decide_eq_true rfl)
  have eqR : m_laws_eqValueSS R R = some true := by rw [eq_LLimpl_Value (by omega)]; exact congrArg some (decide_eq_true rfl)
  have eqD : m_laws_eqDeltaS D D = some true := by rw [eq_Limpl_Delta (by omega)]; exact congrArg some (decide_eq_true rfl)
  rw [eS, Option.bind_some, Option.bind_some, Option.bind_some, eC, Option.bind_some]
  simp only []
  rw [eqC, Option.bind_some, Bool.not_true, cond_false, bneBs]
  unfold m_laws_FnExactDeltaRows_j1
  rw [cond_false, hto, Option.bind_some, eqR, Option.bind_some, Bool.not_true, cond_false, hto1, Option.bind_some, eqD, Option.bind_some, Bool.not_true, cond_false, E_markR (by omega) (by omega) (by omega), Option.bind_some, lenQ_ok (markM_len _ _), Option.bind_some]
  simp only []
  rw [E_markDe (by omega) (by omega) (by omega), Option.bind_some, lenQ_ok (markM_len _ _), Option.bind_some]
  simp only []
  rw [decide_eq_false (by omega), cond_false, eqC, Option.bind_some, Bool.not_true, cond_false, bneBs]
  unfold m_laws_FnExactDeltaRows_j2
  rw [cond_false, E_markR (by omega) (by omega) (by omega), Option.bind_some, lenQ_ok (markM_len _ _), Option.bind_some]
  simp only []
  rw [E_heldR (by omega) (by omega) (by omega), Option.bind_some, decide_eq_false (by omega), cond_false, bne_self_eq_false, cond_false, hto, Option.bind_some, hto1, Option.bind_some, eC, Option.bind_some]
  simp only []
  rw [eqC, Option.bind_some, Bool.not_true, cond_false, bneBs]
  unfold m_laws_FnExactDeltaRows_j3
  rw [cond_false, E_heldR (by omega) (by omega) (by omega), Option.bind_some, decide_eq_false (by omega), cond_false, bne_self_eq_false, cond_false]
end Go.Proofs.Ytogiaehagciojaa
