/- What the mirrors come to, in plain Lean: the law itself at the end. -/
import Derived.Test.YtijihchddhikhaaXW5
import Derived.Test.YtijihchddhikhaaLd
set_option linter.unusedVariables false
set_option linter.unusedSimpArgs false
set_option linter.unnecessarySimpa false
namespace Go.Proofs.Ytijihchddhikhaa
open Go.Proofs Go.Lift
abbrev V := S_impl_Value
abbrev Row := List V
abbrev Rows := List Row

def cmpI (a b : Int) : Int := if a < b then -1 else if b < a then 1 else 0
def cmpS (a b : ByteArray) : Int := if sLt a b then -1 else if sLt a b || sEq a b then 0 else 1
def orI (l : List Int) : Int := (l.find? (· != 0)).getD 0
def lower (l : List UInt8) : Bool := l.all fun b => decide (97 ≤ b.toNat) && decide (b.toNat ≤ 122)
/-- A value is one. -/
def vOk (v : V) : Bool :=
  if v.Kind = 0 then decide (v = ⟨0, 0, ⟨#[]⟩⟩)
  else if v.Kind = 1 then decide (v.S = ⟨#[]⟩) && (decide (-9999 ≤ v.N) && decide (v.N ≤ 9999))
  else if v.Kind = 2 then decide (v.N = 0) && decide (v.S.size ≤ 6) && lower v.S.data.toList
  else if v.Kind = 3 then decide (v.S = ⟨#[]⟩) && (decide (0 ≤ v.N) && decide (v.N ≤ 1))
  else false
def vOrd (v w : V) : Int := orI [cmpI v.Kind w.Kind, cmpI v.N w.N, cmpS v.S w.S]
def rowMany (rs : Rows) (r : Row) : Nat := rs.countP fun x => decide (x = r)
def rowOk (l : Row) : Bool := decide (l.length ≤ 4) && l.all vOk
/-- As memory holds it with ease. -/
def vSm (v : V) : Prop := v.S.size ≤ 1000
def rSm (l : Row) : Prop := l.length ≤ 1000 ∧ ∀ v ∈ l, vSm v
def rsSm (l : Rows) : Prop := l.length ≤ 100000 ∧ ∀ r ∈ l, rSm r
def cmpL {α : Type} (p : α → α → Int) : List α → List α → Int
  | [], [] => 0
  | [], _ :: _ => -1
  | _ :: _, [] => 1
  | a :: x, b :: y => if p a b = 0 then cmpL p x y else p a b
def vvOrd (a b : V) : Int := if vOk a && vOk b then vOrd a b else 0
def rOrd (a b : Row) : Int := orI [cmpL vOrd a b, cmpI a.length b.length]
def rrOrd (a b : Row) : Int := if rowOk a && rowOk b then rOrd a b else 0

theorem E_l3Same {a b : Row} (ha : a.length ≤ 1000000) : m_spec_l3Same a b = some (decide (a = b)) := by
  unfold m_spec_l3Same
  by_cases h : a.length = b.length
  · have hc : ((a.length : Int) != (b.length : Int)) = false := by simp [h]
    rw [hc, cond_false, ← all2_eq h]
    refine scan2 a b h (fun n k => m_spec_l3Same_l1 n a b k) (fun n k x y hx hy => ?_) (fun n => ?_) _ (by omega)
    · have := lt_of_at hx
      simp only [m_spec_l3Same_l1, dlt this, at_of hx, at_of hy, ck1 (show k < 1000000000000 by omega), Option.bind_some, cond_true]
      cases decide (x = y) <;> rfl
    · simp only [m_spec_l3Same_l1, dnlt]; rfl
  · have hc : ((a.length : Int) != (b.length : Int)) = true := by simp; omega
    rw [hc, cond_true]
    have : a ≠ b := fun e => h (by rw [e])
    simp [this]
theorem E_sameRow {a b : Row} (ha : a.length ≤ 1000000) : m_laws_sameRow a b = some (decide (a = b)) := by
  unfold m_laws_sameRow
  by_cases h : a.length = b.length
  · have hc : ((a.length : Int) != (b.length : Int)) = false := by simp [h]
    rw [hc, cond_false, ← all2_eq h]
    refine scan2 a b h (fun n k => m_laws_sameRow_l1 n a b k) (fun n k x y hx hy => ?_) (fun n => ?_) _ (by omega)
    · have := lt_of_at hx
      simp only [m_laws_sameRow_l1, dlt this, at_of hx, at_of hy, ck1 (show k < 1000000000000 by omega), Option.bind_some, cond_true]
      cases decide (x = y) <;> rfl
    · simp only [m_laws_sameRow_l1, dnlt]; rfl
  · have hc : ((a.length : Int) != (b.length : Int)) = true := by simp; omega
    rw [hc, cond_true]
    have : a ≠ b := fun e => h (by rw [e])
    simp [this]
theorem E_spec_RowMany {rs : Rows} {r : Row} (h : rs.length ≤ 1000000) (hr : ∀ x ∈ rs, x.length ≤ 1000000) : m_spec_RowMany rs r = some (rowMany rs r : Int) := by
  unfold m_spec_RowMany rowMany
  refine scanN (p := fun x => decide (x = r)) (J := fun s => some s) rs (fun n k s => m_spec_RowMany_l1 n rs r s k) (fun n k x s hx h0 h1 => ?_) (fun n s => ?_) _ (by omega)
  · have := lt_of_at hx
    rw [m_spec_RowMany_l1, dlt this, cond_true, at_of hx, Option.bind_some, E_l3Same (hr x (List.mem_of_getElem? hx)), Option.bind_some]
    simp only [m_spec_RowMany_j1]
    rw [ckI_of (by omega) (by omega), ck1 (show k < 1000000000000 by omega)]
    cases decide (x = r) <;> rfl
  · simp only [m_spec_RowMany_l1, dnlt]; rfl
theorem E_IndexFunc_V {l : Row} {p : V → Option Bool} {q : V → Bool} (hl : l.length ≤ 1000000) (hp : ∀ v ∈ l, p v = some (q v)) : m_slices_ContainsFunc_Limpl_Value_impl_Value l p = some (l.any q) := by
  unfold m_slices_ContainsFunc_Limpl_Value_impl_Value m_slices_IndexFunc_Limpl_Value_impl_Value
  have key : ∀ (ys : Row) (k n : Nat), l.drop k = ys → k ≤ l.length → ys.length < n → ∃ i : Int, m_slices_IndexFunc_Limpl_Value_impl_Value_l1 p n l (l.length : Int) (k : Int) = some i ∧ decide (i ≥ 0) = ys.any q := by
    intro ys
    induction ys with
    | nil =>
      intro k n hd hk hn
      have : k = l.length := by
        have := congrArg List.length hd
        simp at this; omega
      subst this
      obtain ⟨m, rfl⟩ : ∃ m, n = m + 1 := ⟨n - 1, by simp at hn; omega⟩
      exact ⟨-1, by simp only [m_slices_IndexFunc_Limpl_Value_impl_Value_l1, dnlt]; rfl, rfl⟩
    | cons y ys ih =>
      intro k n hd hk hn
      have hlt : k < l.length := by
        have := congrArg List.length hd
        simp at this; omega
      have hc := List.drop_eq_getElem_cons hlt
      rw [hd] at hc
      simp only [List.cons.injEq] at hc
      have hx : l[k]? = some y := by rw [List.getElem?_eq_getElem hlt, hc.1]
      obtain ⟨m, rfl⟩ : ∃ m, n = m + 1 := ⟨n - 1, by simp at hn; omega⟩
      simp only [m_slices_IndexFunc_Limpl_Value_impl_Value_l1, dlt hlt, at_of hx, hp y (List.mem_of_getElem? hx), ck1 (show k < 1000000000000 by omega), Option.bind_some, cond_true]
      cases hq : q y
      · obtain ⟨i, h1, h2⟩ := ih (k + 1) m hc.2.symm (by omega) (by simp at hn; omega)
        exact ⟨i, by simpa using h1, by rw [h2]; simp [hq]⟩
      · exact ⟨(k : Int), rfl, by simp [hq]⟩
  obtain ⟨i, h1, h2⟩ := key l 0 _ rfl (by omega) (show l.length < (((l.length : Int) - 0).toNat + 1) by omega)
  rw [show ((0 : Nat) : Int) = 0 from rfl] at h1
  rw [h1]
  simp only [Option.bind_some, h2]
theorem E_between (a b c : Int) : m_impl_between a b c = some (decide (b ≤ a) && decide (a ≤ c)) := by
  unfold m_impl_between m_impl_between_j1
  by_cases h : a ≥ b <;> simp [h]
theorem E_l1In (a b c : Int) : m_spec_l1In a b c = some (decide (b ≤ a) && decide (a ≤ c)) := by
  unfold m_spec_l1In m_spec_l1In_j1
  by_cases h : a ≥ b <;> simp [h]
theorem lower_any (l : List UInt8) : lower l = !(l.any fun b => !(decide (97 ≤ (b.toNat : Int)) && decide ((b.toNat : Int) ≤ 122))) := by
  unfold lower
  rw [List.all_eq_not_any_not]
  congr 2
  funext b
  congr 1
  have h1 : decide (97 ≤ b.toNat) = decide (97 ≤ (b.toNat : Int)) := by rw [decide_eq_decide]; omega
  have h2 : decide (b.toNat ≤ 122) = decide ((b.toNat : Int) ≤ 122) := by rw [decide_eq_decide]; omega
  rw [h1, h2]
theorem E_letters {s : ByteArray} (h : s.size ≤ 1000000) : m_impl_letters s = some (lower s.data.toList) := by
  unfold m_impl_letters sBytes?
  rw [if_pos (by omega)]
  simp only [Option.bind_some]
  have hl : s.data.toList.length ≤ 1000000 := h
  have := scanA (p := fun b : UInt8 => !(decide (97 ≤ (b.toNat : Int)) && decide ((b.toNat : Int) ≤ 122))) (r0 := false) (r1 := true) s.data.toList (fun n k => m_impl_letters_l1 n s.data.toList (s.data.toList.length : Int) k) (fun n k x hx => by
    have := lt_of_at hx
    simp only [m_impl_letters_l1, dlt this, at_of hx, E_between, ck1 (show k < 1000000000000 by omega), Option.bind_some, cond_true]) (fun n => by simp only [m_impl_letters_l1, dnlt]; rfl) _ fuel0
  rw [this, lower_any]
  cases s.data.toList.any fun b => !(decide (97 ≤ (b.toNat : Int)) && decide ((b.toNat : Int) ≤ 122)) <;> rfl
theorem sAt_of {s : ByteArray} {k : Nat} {x : UInt8} (h : s.data.toList[k]? = some x) : sAt? s (k : Int) = some x := by
  unfold sAt?
  rw [if_pos (by omega)]
  obtain ⟨h1, h2⟩ := List.getElem?_eq_some_iff.1 h
  have hs : k < s.size := by have := h1; rwa [Array.length_toList] at this
  have : s[k]? = some (s[k]'hs) := by simp [hs]
  rw [Int.toNat_natCast, this]
  congr 1
theorem E_l1Text {s : ByteArray} (h : s.size ≤ 1000000) : m_spec_l1Text s = some (lower s.data.toList && decide (s.size ≤ 6)) := by
  unfold m_spec_l1Text
  have hl : s.data.toList.length = s.size := rfl
  rw [← hl]
  have := scanA (p := fun b : UInt8 => !(decide (97 ≤ (b.toNat : Int)) && decide ((b.toNat : Int) ≤ 122))) (r0 := false) (r1 := decide ((s.size : Int) ≤ 6)) s.data.toList (fun n k => m_spec_l1Text_l1 n s k) (fun n k x hx => by
    have := lt_of_at hx
    have hd : decide ((k : Int) < (s.size : Int)) = true := by rw [← hl]; exact dlt this
    simp only [m_spec_l1Text_l1, m_spec_l1Text_j1, hd, sAt_of hx, ck1 (show k < 1000000000000 by omega), Option.bind_some, cond_true]
    have e1 : ((97 : UInt8).toNat : Int) = 97 := rfl
    have e2 : ((122 : UInt8).toNat : Int) = 122 := rfl
    rw [e1, e2]
    by_cases h1 : (x.toNat : Int) < 97
    · have : ¬ (97 ≤ (x.toNat : Int)) := by omega
      simp [h1, this]
    · have h1' : 97 ≤ (x.toNat : Int) := by omega
      by_cases h2 : (x.toNat : Int) > 122
      · have : ¬ ((x.toNat : Int) ≤ 122) := by omega
        simp [h1, h2, this]
      · have : (x.toNat : Int) ≤ 122 := by omega
        simp [h1, h2, this, h1']) (fun n => by simp only [m_spec_l1Text_l1, hl, dnlt]; rfl) _ fuel0
  rw [this, lower_any]
  have e : decide ((s.size : Int) ≤ 6) = decide (s.size ≤ 6) := by rw [decide_eq_decide]; omega
  rw [e]
  cases s.data.toList.any fun b => !(decide (97 ≤ (b.toNat : Int)) && decide ((b.toNat : Int) ≤ 122)) <;> simp
theorem E_Value_ok {v : V} (h : v.S.size ≤ 1000000) : m_impl_Value_ok v = some (vOk v) := by
  unfold m_impl_Value_ok m_impl_Value_ok_j1 m_impl_Value_ok_j2 m_impl_Value_ok_j3 vOk
  simp only [E_between, E_letters h, Option.bind_some, sEq_eq]
  by_cases h0 : v.Kind = 0
  · simp [h0]
  · by_cases h1 : v.Kind = 1
    · by_cases hs : v.S = ⟨#[]⟩ <;> simp [beqF h0, h0, h1, hs]
    · by_cases h2 : v.Kind = 2
      · by_cases hn : v.N = 0
        · by_cases hs : v.S.size ≤ 6
          · have : (v.S.size : Int) ≤ 6 := by omega
            simp [beqF h0, beqF h1, h0, h1, h2, hn, hs, this]
          · have : ¬ (v.S.size : Int) ≤ 6 := by omega
            simp [beqF h0, beqF h1, h0, h1, h2, hn, hs, this]
        · simp [beqF h0, beqF h1, h0, h1, h2, beqF hn, hn]
      · by_cases h3 : v.Kind = 3
        · by_cases hs : v.S = ⟨#[]⟩ <;> simp [beqF h0, beqF h1, beqF h2, h0, h1, h2, h3, hs]
        · simp [beqF h0, beqF h1, beqF h2, beqF h3, h0, h1, h2, h3]
theorem E_spec_ValueOk {v : V} (h : v.S.size ≤ 1000000) : m_spec_ValueOk v = some (vOk v) := by
  unfold m_spec_ValueOk m_spec_ValueOk_j1 m_spec_ValueOk_j2 m_spec_ValueOk_j3 m_spec_ValueOk_j4 vOk
  simp only [E_l1In, E_l1Text h, Option.bind_some, sEq_eq]
  obtain ⟨k, n, s⟩ := v
  simp only [S_impl_Value.mk.injEq]
  by_cases h0 : k = 0
  · by_cases hn : n = 0
    · simp [h0, hn]
    · simp [h0, hn, beqF hn]
  · by_cases h1 : k = 1
    · by_cases hs : s = ⟨#[]⟩ <;> by_cases ha : -9999 ≤ n <;> by_cases hb : n ≤ 9999 <;> simp [beqF h0, h0, h1, hs, ha, hb]
    · by_cases h2 : k = 2
      · by_cases hn : n = 0
        · simp [beqF h0, beqF h1, h0, h1, h2, hn, Bool.and_comm]
        · simp [beqF h0, beqF h1, h0, h1, h2, beqF hn, hn]
      · by_cases h3 : k = 3
        · by_cases hs : s = ⟨#[]⟩ <;> by_cases ha : 0 ≤ n <;> by_cases hb : n ≤ 1 <;> simp [beqF h0, beqF h1, beqF h2, h0, h1, h2, h3, hs, ha, hb]
        · simp [beqF h0, beqF h1, beqF h2, beqF h3, h0, h1, h2, h3]
theorem E_impl_RowOk {l : Row} (h : rSm l) : m_impl_RowOk l = some (rowOk l) := by
  unfold m_impl_RowOk m_impl_RowOk_j1 rowOk
  obtain ⟨h1, h2⟩ := h
  rw [E_IndexFunc_V (q := fun v => !(vOk v)) (by omega) (fun v hv => by unfold m_impl_RowOk_1; rw [E_Value_ok (by have := h2 v hv; unfold vSm at this; omega)]; rfl)]
  simp only [Option.bind_some]
  rw [List.all_eq_not_any_not]
  by_cases h : l.length ≤ 4
  · have : (l.length : Int) ≤ 4 := by omega
    simp [h, this]
  · have : ¬ (l.length : Int) ≤ 4 := by omega
    simp [h, this]
theorem E_spec_RowOk {l : Row} (h : rSm l) : m_spec_RowOk l = some (rowOk l) := by
  unfold m_spec_RowOk rowOk
  obtain ⟨h1, h2⟩ := h
  have := scanA (p := fun v => !(vOk v)) (r0 := false) (r1 := decide ((l.length : Int) ≤ 4)) l (fun n k => m_spec_RowOk_l1 n l k) (fun n k x hx => by
    have := lt_of_at hx
    have hsm := h2 x (List.mem_of_getElem? hx)
    unfold vSm at hsm
    simp only [m_spec_RowOk_l1, dlt this, at_of hx, E_spec_ValueOk (show x.S.size ≤ 1000000 by omega), ck1 (show k < 1000000000000 by omega), Option.bind_some, cond_true]) (fun n => by simp only [m_spec_RowOk_l1, dnlt]; rfl) _ fuel0
  rw [this, List.all_eq_not_any_not]
  have e : decide ((l.length : Int) ≤ 4) = decide (l.length ≤ 4) := by rw [decide_eq_decide]; omega
  rw [e]
  cases l.any fun v => !(vOk v) <;> simp
theorem E_alive : m_laws_alive = some true := by
  unfold m_laws_alive m_laws_alive_j1 m_impl_ValueOk
  rw [E_Value_ok (by decide), E_Value_ok (by decide)]
  rfl
theorem E_CompareI (a b : Int) : m_cmp_Compare_int a b = some (cmpI a b) := by
  unfold m_cmp_Compare_int m_cmp_isNaN_int cmpI
  have e : ∀ x : Int, (x != x) = false := fun x => by simp
  simp only [e, Option.bind_some, cond_false]
  by_cases h : a < b
  · simp [h]
  · by_cases h2 : a > b
    · simp [h, h2]
    · simp [h, h2]
theorem E_CompareS (a b : ByteArray) : m_cmp_Compare_string a b = some (cmpS a b) := by
  unfold m_cmp_Compare_string m_cmp_isNaN_string cmpS
  have e : ∀ x : ByteArray, (!(sEq x x)) = false := fun x => by simp [sEq_eq]
  simp only [e, Option.bind_some, cond_false]
  cases h1 : sLt a b <;> cases h2 : sEq a b <;> simp
theorem E_l1Cmp (a b : ByteArray) : m_spec_l1Cmp a b = some (cmpS a b) := by
  unfold m_spec_l1Cmp cmpS
  cases h1 : sLt a b <;> cases h2 : sEq a b <;> simp
theorem E_Or {l : List Int} (h : l.length ≤ 1000000) : m_cmp_Or_int l = some (orI l) := by
  unfold m_cmp_Or_int
  rw [scanC l (fun n k (_ : Unit) => m_cmp_Or_int_l1 n 0 l (l.length : Int) k) (fun x s k => bif (x != 0) then some x else k s) (fun _ => some 0) (fun n k x s hx => by
    have := lt_of_at hx
    rw [m_cmp_Or_int_l1, dlt this, cond_true, at_of hx, Option.bind_some, ck1 (show k < 1000000000000 by omega), Option.bind_some]) (fun n s => by rw [m_cmp_Or_int_l1, dnlt]; rfl) _ fuel0 ()]
  clear h
  unfold orI
  induction l with
  | nil => rfl
  | cons x l ih =>
    simp only [foldC, List.find?_cons]
    cases hx : (x != 0)
    · simpa using ih
    · rfl
theorem E_order (v w : V) : m_impl_Value_order v w = some (vOrd v w) := by
  unfold m_impl_Value_order vOrd
  rw [E_CompareI, Option.bind_some, E_CompareI, Option.bind_some, E_CompareS, Option.bind_some, E_Or (by simp)]
  rfl
theorem E_CompareFunc {a b : Row} {p : V → V → Option Int} {q : V → V → Int} (ha : a.length ≤ 1000000) (hp : ∀ v w, p v w = some (q v w)) : m_slices_CompareFunc_Limpl_Value_Limpl_Value_impl_Value_impl_Value a b p = some (cmpL q a b) := by
  unfold m_slices_CompareFunc_Limpl_Value_Limpl_Value_impl_Value_impl_Value
  have key : ∀ (ys : Row) (k n : Nat), a.drop k = ys → k ≤ a.length → k ≤ b.length → ys.length < n → m_slices_CompareFunc_Limpl_Value_Limpl_Value_impl_Value_impl_Value_l1 p n a b a (a.length : Int) (k : Int) = some (cmpL q ys (b.drop k)) := by
    intro ys
    induction ys with
    | nil =>
      intro k n hd hk hk2 hn
      have : k = a.length := by
        have := congrArg List.length hd
        simp at this; omega
      subst this
      obtain ⟨m, rfl⟩ : ∃ m, n = m + 1 := ⟨n - 1, by simp at hn; omega⟩
      rw [m_slices_CompareFunc_Limpl_Value_Limpl_Value_impl_Value_impl_Value_l1, dnlt, cond_false]
      unfold m_slices_CompareFunc_Limpl_Value_Limpl_Value_impl_Value_impl_Value_j1
      by_cases h : a.length < b.length
      · rw [List.drop_eq_getElem_cons h]
        have : (a.length : Int) < (b.length : Int) := by omega
        simp [this, cmpL]
      · rw [List.drop_eq_nil_of_le (by omega)]
        have : ¬ (a.length : Int) < (b.length : Int) := by omega
        simp [this, cmpL]
    | cons y ys ih =>
      intro k n hd hk hk2 hn
      have hlt : k < a.length := by
        have := congrArg List.length hd
        simp at this; omega
      have hc := List.drop_eq_getElem_cons hlt
      rw [hd] at hc
      simp only [List.cons.injEq] at hc
      have hx : a[k]? = some y := by rw [List.getElem?_eq_getElem hlt, hc.1]
      obtain ⟨m, rfl⟩ : ∃ m, n = m + 1 := ⟨n - 1, by simp at hn; omega⟩
      rw [m_slices_CompareFunc_Limpl_Value_Limpl_Value_impl_Value_impl_Value_l1, dlt hlt, cond_true, at_of hx, Option.bind_some]
      show (bif decide ((k : Int) ≥ (b.length : Int)) then _ else _) = _
      by_cases h : k < b.length
      · have hd2 : decide ((k : Int) ≥ (b.length : Int)) = false := by simp; omega
        have hb : b[k]? = some b[k] := by simp [h]
        rw [hd2, cond_false, at_of hb, Option.bind_some]
        show ((p y b[k]).bind _) = _
        rw [hp, Option.bind_some, ck1 (show k < 1000000000000 by omega), Option.bind_some, List.drop_eq_getElem_cons h]
        simp only [cmpL]
        have := ih (k + 1) m hc.2.symm (by omega) (by omega) (by simp at hn; omega)
        by_cases hq : q y b[k] = 0
        · rw [if_pos hq]
          have hq' : (q y b[k] != 0) = false := by simp [hq]
          rw [hq', cond_false]
          exact this
        · rw [if_neg hq, beqF' hq, cond_true]
      · have hd2 : decide ((k : Int) ≥ (b.length : Int)) = true := by simp; omega
        rw [hd2, cond_true, List.drop_eq_nil_of_le (by omega)]
        rfl
  have := key a 0 _ rfl (by omega) (by omega) (show a.length < (((a.length : Int) - 0).toNat + 1) by omega)
  simpa using this
theorem E_rowOrder {a b : Row} (ha : a.length ≤ 1000000) : m_impl_rowOrder a b = some (rOrd a b) := by
  unfold m_impl_rowOrder rOrd
  rw [E_CompareFunc ha (fun v w => E_order v w), Option.bind_some, E_CompareI, Option.bind_some, E_Or (by simp)]
  rfl
def lessI (a b : Int) : Int := if a < b then 1 else 0
theorem E_Less (a b : Int) : m_spec_l1Less a b = some (lessI a b) := by
  unfold m_spec_l1Less lessI
  by_cases h : a < b <;> simp [h]
theorem less_b (a b : Int) : 0 ≤ lessI a b ∧ lessI a b ≤ 1 := by unfold lessI; split <;> omega
theorem orI_1 {x : Int} {l : List Int} (h : x ≠ 0) : orI (x :: l) = x := by simp [orI, h]
theorem orI_0 {l : List Int} : orI (0 :: l) = orI l := by simp [orI]
theorem cmpI_0 {a b : Int} : cmpI a b = 0 ↔ a = b := by unfold cmpI; split <;> (try split) <;> omega
theorem less_cmp {a b : Int} (h : a ≠ b) : 2 * lessI b a - 1 = cmpI a b := by unfold lessI cmpI; split <;> split <;> (try split) <;> omega
theorem E_ValueOrder {a b : V} (ha : vSm a) (hb : vSm b) : m_spec_ValueOrder a b = some (vvOrd a b) := by
  unfold m_spec_ValueOrder m_spec_ValueOrder_j1 vvOrd vOrd
  unfold vSm at ha hb
  rw [E_spec_ValueOk (by omega), Option.bind_some, E_spec_ValueOk (by omega), Option.bind_some]
  cases vOk a
  · rfl
  cases vOk b
  · rfl
  simp only [Bool.not_true, cond_false, Bool.and_self, if_true, E_Less, E_l1Cmp, Option.bind_some]
  by_cases h1 : a.Kind = b.Kind
  · have : (a.Kind != b.Kind) = false := by simp [h1]
    rw [this, cond_false, cmpI_0.2 h1, orI_0]
    by_cases h2 : a.N = b.N
    · have : (a.N != b.N) = false := by simp [h2]
      rw [this, cond_false, cmpI_0.2 h2, orI_0]
      by_cases h3 : cmpS a.S b.S = 0
      · rw [h3, orI_0]; rfl
      · rw [orI_1 h3]
    · rw [beqF' h2, cond_true, orI_1 (by rw [ne_eq, cmpI_0]; exact h2), ← less_cmp h2]
      have := less_b b.N a.N
      rw [ckI_of (by omega) (by omega), Option.bind_some, ckI_of (by omega) (by omega), Option.bind_some]
  · rw [beqF' h1, cond_true, orI_1 (by rw [ne_eq, cmpI_0]; exact h1), ← less_cmp h1]
    have := less_b b.Kind a.Kind
    rw [ckI_of (by omega) (by omega), Option.bind_some, ckI_of (by omega) (by omega), Option.bind_some]
theorem cmpL_0 {α : Type} {p : α → α → Int} : ∀ {a b : List α}, cmpL p a b = 0 → a.length = b.length
  | [], [], _ => rfl
  | [], _ :: _, h => by simp [cmpL] at h
  | _ :: _, [], h => by simp [cmpL] at h
  | x :: a, y :: b, h => by
    simp only [cmpL] at h
    split at h
    · simpa using cmpL_0 h
    · exact absurd h (by assumption)
theorem rOrd_cmpL (a b : Row) : rOrd a b = cmpL vOrd a b := by
  unfold rOrd
  by_cases h : cmpL vOrd a b = 0
  · have := cmpL_0 h
    simp [orI, h, cmpI, this]
  · simp [orI, h]
theorem E_spec_RowOrder {a b : Row} (ha : rSm a) (hb : rSm b) : m_spec_RowOrder a b = some (rrOrd a b) := by
  unfold m_spec_RowOrder m_spec_RowOrder_j1 rrOrd
  rw [E_spec_RowOk ha, Option.bind_some, E_spec_RowOk hb, Option.bind_some]
  cases hoa : rowOk a
  · rfl
  cases hob : rowOk b
  · rfl
  simp only [Bool.not_true, cond_false, Bool.and_self, if_true]
  obtain ⟨ha1, ha2⟩ := ha
  obtain ⟨hb1, hb2⟩ := hb
  unfold rowOk at hoa hob
  simp only [Bool.and_eq_true, List.all_eq_true] at hoa hob
  rw [rOrd_cmpL]
  have key : ∀ (ys : Row) (k n : Nat), a.drop k = ys → k ≤ a.length → k ≤ b.length → ys.length < n → m_spec_RowOrder_l1 n a b (k : Int) = some (cmpL vOrd ys (b.drop k)) := by
    intro ys
    induction ys with
    | nil =>
      intro k n hd hk hk2 hn
      have : k = a.length := by
        have := congrArg List.length hd
        simp at this; omega
      subst this
      obtain ⟨m, rfl⟩ : ∃ m, n = m + 1 := ⟨n - 1, by simp at hn; omega⟩
      rw [m_spec_RowOrder_l1, dnlt, cond_false]
      unfold m_spec_RowOrder_j2 m_spec_RowOrder_j3
      rw [cond_false, E_Less, Option.bind_some, E_Less, Option.bind_some]
      have := less_b b.length a.length
      have := less_b a.length b.length
      rw [ckI_of (by omega) (by omega), Option.bind_some]
      congr 1
      by_cases h : a.length < b.length
      · rw [List.drop_eq_getElem_cons h]
        unfold lessI
        rw [if_neg (by omega), if_pos (by omega)]; rfl
      · rw [List.drop_eq_nil_of_le (by omega)]
        unfold lessI
        rw [if_neg (by omega), if_neg (by omega)]; rfl
    | cons y ys ih =>
      intro k n hd hk hk2 hn
      have hlt : k < a.length := by
        have := congrArg List.length hd
        simp at this; omega
      have hc := List.drop_eq_getElem_cons hlt
      rw [hd] at hc
      simp only [List.cons.injEq] at hc
      have hx : a[k]? = some y := by rw [List.getElem?_eq_getElem hlt, hc.1]
      obtain ⟨m, rfl⟩ : ∃ m, n = m + 1 := ⟨n - 1, by simp at hn; omega⟩
      rw [m_spec_RowOrder_l1, dlt hlt, cond_true]
      unfold m_spec_RowOrder_j2
      by_cases h : k < b.length
      · have hb : b[k]? = some b[k] := by simp [h]
        rw [dlt h, cond_true, at_of hx, Option.bind_some, at_of hb, Option.bind_some, E_ValueOrder (ha2 y (List.mem_of_getElem? hx)) (hb2 _ (List.getElem_mem h)), Option.bind_some, ck1 (show k < 1000000000000 by omega), Option.bind_some, List.drop_eq_getElem_cons h]
        have hv : vvOrd y b[k] = vOrd y b[k] := by
          unfold vvOrd
          rw [hoa.2 y (List.mem_of_getElem? hx), hob.2 _ (List.getElem_mem h)]; rfl
        rw [hv]
        simp only [cmpL]
        have := ih (k + 1) m hc.2.symm (by omega) (by omega) (by simp at hn; omega)
        by_cases hq : vOrd y b[k] = 0
        · rw [if_pos hq]
          have hq' : (vOrd y b[k] != 0) = false := by simp [hq]
          rw [hq', cond_false]
          exact this
        · rw [if_neg hq, beqF' hq, cond_true]
      · have hd2 : decide ((k : Int) < (b.length : Int)) = false := by simp; omega
        have hkb : k = b.length := by omega
        unfold m_spec_RowOrder_j3
        rw [hd2, cond_false, E_Less, Option.bind_some, E_Less, Option.bind_some]
        have := less_b b.length a.length
        have := less_b a.length b.length
        rw [ckI_of (by omega) (by omega), Option.bind_some]
        congr 1
        rw [List.drop_eq_nil_of_le (by omega)]
        unfold lessI
        rw [if_pos (by omega), if_neg (by omega)]; rfl
  have := key a 0 1000000000 rfl (by omega) (by omega) (by omega)
  simpa using this
theorem E_clone {l : Row} (h : l.length ≤ 1000000) : m_impl_clone_impl_Value l = some l := by
  unfold m_impl_clone_impl_Value appN?
  cases l with
  | nil => rfl
  | cons x l =>
    have e : (((x :: l).length : Int) == 0) = false := by simp; omega
    rw [e, cond_false, if_pos ⟨by simp, by omega⟩, Option.bind_some]; rfl
theorem foldl_snoc {α : Type} : ∀ (l a : List α), l.foldl (fun s x => s ++ [x]) a = a ++ l
  | [], a => by simp
  | x :: l, a => by rw [List.foldl_cons, foldl_snoc l]; simp
theorem E_l3Own {l : Row} (h : l.length ≤ 1000000) : m_spec_l3Own l = some l := by
  unfold m_spec_l3Own
  rw [app_of (by simp; omega)]; rfl

/-- Where a row goes, looked for from the end. -/
def posN (out : Rows) (r : Row) : Nat → Nat
  | 0 => 0
  | n + 1 => if rrOrd (out.getD n []) r > 0 then posN out r n else n + 1
def insR (out : Rows) (r : Row) : Rows := out.take (posN out r out.length) ++ r :: out.drop (posN out r out.length)
/-- Rows put in order, one after the other. -/
def sortR (rs : Rows) : Rows := rs.foldl insR []
theorem posN_le (out : Rows) (r : Row) : ∀ n, posN out r n ≤ n
  | 0 => Nat.le_refl _
  | n + 1 => by
    simp only [posN]
    split
    · exact Nat.le_succ_of_le (posN_le out r n)
    · exact Nat.le_refl _
theorem insR_len (out : Rows) (r : Row) : (insR out r).length = out.length + 1 := by
  have := posN_le out r out.length
  unfold insR
  simp; omega
theorem insR_mem (out : Rows) (r x : Row) : x ∈ insR out r ↔ x = r ∨ x ∈ out := by
  unfold insR
  rw [List.mem_append, List.mem_cons]
  conv => rhs; rw [← List.take_append_drop (posN out r out.length) out, List.mem_append]
  constructor
  · rintro (h | h | h) <;> simp [h]
  · rintro (h | h | h) <;> simp [h]
theorem rsSm_insR {out : Rows} {r : Row} (h : ∀ x ∈ out, rSm x) (hr : rSm r) : ∀ x ∈ insR out r, rSm x := by
  intro x hx
  rcases (insR_mem _ _ _).1 hx with rfl | hx
  · exact hr
  · exact h x hx
theorem getD_at {out : Rows} {j : Nat} (h : j < out.length) : out[j]? = some (out.getD j []) := by simp [h]
theorem ckd {j : Nat} (h : j + 1 < 1000000000000) : ckI (((j + 1 : Nat) : Int) - 1) = some (j : Int) := by
  rw [ckI_of (by omega) (by omega)]; congr 1; omega

theorem spec_inner {k1 : Rows → Int → Rows → Option Rows} {t0 : Rows} {t : Nat} {r : Row} {o : Rows} (ht : t0[t]? = some r) (hr : rSm r) (ho : ∀ x ∈ o, rSm x) (hl : o.length ≤ 1000000) : ∀ (j n : Nat), j ≤ o.length → j < n →
    m_spec_RowsSorted_l2 k1 n t0 (t : Int) (j : Int) o = m_spec_RowsSorted_j2 k1 t0 (t : Int) (posN o r j : Int) o := by
  intro j
  induction j with
  | zero =>
    intro n _ hn
    obtain ⟨m, rfl⟩ : ∃ m, n = m + 1 := ⟨n - 1, by omega⟩
    rw [m_spec_RowsSorted_l2, show decide (((0 : Nat) : Int) > 0) = false from rfl, cond_false]
    unfold m_spec_RowsSorted_j1
    rfl
  | succ j ih =>
    intro n hj hn
    obtain ⟨m, rfl⟩ : ∃ m, n = m + 1 := ⟨n - 1, by omega⟩
    have hd : decide (((j + 1 : Nat) : Int) > 0) = true := by rw [decide_eq_true_eq]; omega
    rw [m_spec_RowsSorted_l2, hd, cond_true, ckd (by omega), Option.bind_some, at_of (getD_at (by omega)), Option.bind_some, Option.bind_some, at_of ht, Option.bind_some,
      E_spec_RowOrder (ho _ (by rw [List.getD_eq_getElem?_getD, List.getElem?_eq_getElem (by omega)]; exact List.getElem_mem _)) hr, Option.bind_some]
    unfold m_spec_RowsSorted_j1
    simp only [posN]
    by_cases h : rrOrd (o.getD j []) r > 0
    · rw [if_pos h, decide_eq_true h, cond_true, ckd (by omega), Option.bind_some]
      exact ih m (by omega) (by omega)
    · rw [if_neg h, decide_eq_false h, cond_false]
theorem cut_of {α : Type} {l : List α} {lo hi : Nat} (h : lo ≤ hi) (h2 : hi ≤ l.length) : cut? l (lo : Int) (hi : Int) = some ((l.take hi).drop lo) := by
  unfold cut?
  rw [if_pos (by omega)]
  simp
theorem E_spec_RowsSorted {rs : Rows} (h : rsSm rs) : m_spec_RowsSorted rs = some (sortR rs) ∧ (sortR rs).length = rs.length ∧ ∀ r ∈ sortR rs, rSm r := by
  unfold m_spec_RowsSorted
  obtain ⟨h1, h2⟩ := h
  have hh := scanF (f := insR) (J := fun s => some s) (fun k s => s.length = k ∧ ∀ x ∈ s, rSm x) rs (fun n k s => m_spec_RowsSorted_l1 n rs k s) (fun n k x s hx hI => by
    have hlt := lt_of_at hx
    obtain ⟨hI1, hI2⟩ := hI
    have hxs := h2 x (List.mem_of_getElem? hx)
    refine ⟨?_, by rw [insR_len, hI1], rsSm_insR hI2 hxs⟩
    have hp := posN_le s x s.length
    rw [m_spec_RowsSorted_l1, dlt hlt, cond_true, spec_inner hx hxs hI2 (by omega) s.length _ (Nat.le_refl _) (by omega)]
    unfold m_spec_RowsSorted_j2
    have hxl := hxs.1
    rw [show (0 : Int) = ((0 : Nat) : Int) from rfl, cut_of (Nat.zero_le _) hp, Option.bind_some, app_of (by simp; omega), Option.bind_some, at_of hx, Option.bind_some, E_l3Own (by omega), Option.bind_some, app_of (by simp; omega), Option.bind_some,
      cut_of hp (Nat.le_refl _), Option.bind_some, app_of (by simp; omega), Option.bind_some]
    unfold m_spec_RowsSorted_j3
    rw [ck1 (show k < 1000000000000 by omega), Option.bind_some]
    congr 1
    unfold insR
    simp) (fun n s _ => by rw [m_spec_RowsSorted_l1, dnlt, cond_false]; rfl) _ fuel0 [] ⟨rfl, by simp⟩
  exact ⟨hh.1, hh.2⟩
abbrev Rd := S_spec_l20Rd
def Rd.ok (o : Rd) : Prop := 0 ≤ o.p ∧ o.p ≤ 1000000000
theorem tmod_b {m n : Int} (h : 0 ≤ m) (hn : 0 < n) : 0 ≤ m.tmod n ∧ m.tmod n < n := ⟨Int.tmod_nonneg n h, Int.tmod_lt_of_pos m hn⟩
theorem tdiv_b {m n : Int} (h : 0 ≤ m) (hn : 0 < n) : 0 ≤ m.tdiv n ∧ m.tdiv n ≤ m := ⟨Int.tdiv_nonneg h (Int.le_of_lt hn), Int.tdiv_le_self _ h⟩
theorem T_pick {o : Rd} {n : Int} (ho : 0 ≤ o.p ∧ o.p ≤ 1000000000) : Tot (m_Pspec_l20Rd_pick o n) fun r => 0 ≤ r.1 ∧ (r.1 < n ∨ r.1 = 0) ∧ r.2.p = o.p + 1 := by
  unfold m_Pspec_l20Rd_pick
  refine Tot.ck (by omega) (by omega) (Tot.lt ?_)
  refine Tot.bif (fun h => ?_) (fun h => ?_)
  · unfold m_Pspec_l20Rd_pick_j1
    exact Tot.ret ⟨Int.le_refl _, .inr rfl, rfl⟩
  · simp only [decide_eq_false_iff_not] at h
    unfold m_Pspec_l20Rd_pick_j1
    refine Tot.bif (fun h2 => Tot.ret ⟨Int.le_refl _, .inr rfl, rfl⟩) (fun h2 => ?_)
    have hb : 0 < (o.b.length : Int) := by simp at h2; have := List.length_pos_iff.2 h2; omega
    refine Tot.ck (by simp only; omega) (by simp only; omega) ?_
    have e : (o.p + 1 - 1) = o.p := by omega
    simp only [e]
    refine Tot.bif (fun h3 => ?_) (fun h3 => ?_)
    · simp only [decide_eq_true_eq] at h3
      refine Tot.at (by omega) h3 (fun x _ => ?_)
      refine Tot.rem (by omega) (Tot.ret ?_)
      have := tmod_b (m := (x.toNat : Int)) (n := n) (by omega) (by omega)
      exact ⟨this.1, .inl this.2, rfl⟩
    · have m1 := tmod_b (m := o.p) (n := o.b.length) (by omega) hb
      refine Tot.rem (by omega) (Tot.at m1.1 m1.2 (fun x _ => ?_))
      have hx := x.toNat_lt
      refine Tot.ck (by omega) (by omega) (Tot.ck (by omega) (by omega) (Tot.ck (by omega) (by omega) ?_))
      have m2 := tmod_b (m := o.p * 7 + 3) (n := o.b.length) (by omega) hb
      refine Tot.rem (by omega) (Tot.at m2.1 m2.2 (fun y _ => ?_))
      have hy := y.toNat_lt
      refine Tot.ck (by omega) (by omega) (Tot.ck (by omega) (by omega) (Tot.ck (by omega) (by omega) (Tot.ck (by omega) (by omega) ?_)))
      have d1 := tdiv_b (m := o.p) (n := o.b.length) (by omega) hb
      refine Tot.quo (by omega) (by omega) (by omega) (Tot.ck (by omega) (by omega) (Tot.ck (by omega) (by omega) ?_))
      have hz : 0 ≤ (x.toNat : Int) * 131 + (y.toNat : Int) * 1117 + o.p * 29 + o.p.tdiv o.b.length * 53 ∧ (x.toNat : Int) * 131 + (y.toNat : Int) * 1117 + o.p * 29 + o.p.tdiv o.b.length * 53 < 1000000000000 := by omega
      generalize (x.toNat : Int) * 131 + (y.toNat : Int) * 1117 + o.p * 29 + o.p.tdiv o.b.length * 53 = z at hz ⊢
      have d2 := tdiv_b (m := z) (n := 64) (by omega) (by omega)
      refine Tot.quo (by omega) (by omega) (by omega) (Tot.xor (by omega) (fun u h4 h5 => Tot.rem (by omega) (Tot.ret ?_)))
      have := tmod_b (m := u) (n := n) (by omega) (by omega)
      exact ⟨this.1, .inl this.2, rfl⟩
theorem T_odd {o : Rd} {n : Int} (ho : 0 ≤ o.p ∧ o.p ≤ 1000000000) (hn : -1000000 ≤ n ∧ n ≤ 1000000) : Tot (m_Pspec_l20Rd_odd o n) fun r => o.p ≤ r.2.p ∧ r.2.p ≤ o.p + 1 := by
  unfold m_Pspec_l20Rd_odd m_Pspec_l20Rd_odd_j1
  refine Tot.bif (fun h => ?_) (fun h => Tot.ret ⟨Int.le_refl _, by simp only; omega⟩)
  refine Tot.bind (T_pick ho) (fun r hr => ?_)
  exact Tot.ck (by omega) (by omega) (Tot.ret ⟨by simp only; omega, by simp only; omega⟩)
/-- A value that was drawn. -/
def vDr (v : V) : Prop := v.S.size ≤ 20 ∧ -10000 ≤ v.N ∧ v.N ≤ 10000 ∧ -10 ≤ v.Kind ∧ v.Kind ≤ 10
theorem T_l20Value_j3 {n : Int} {o : Rd} {v w : V} (ho : 0 ≤ o.p ∧ o.p ≤ 1000000000 - 10) (hn : -1000000 ≤ n ∧ n ≤ 1000000) (hv : w.S.size ≤ 10 ∧ -10000 ≤ w.N ∧ w.N ≤ 10000 ∧ -10 ≤ w.Kind ∧ w.Kind ≤ 10) : Tot (m_spec_l20Value_j3 n o v w) fun r => vDr r.1 ∧ o.p ≤ r.2.p ∧ r.2.p ≤ o.p + 5 := by
  unfold m_spec_l20Value_j3 m_spec_l20Value_j4
  refine Tot.bind (T_odd (by omega) hn) (fun r hr => ?_)
  refine Tot.bif (fun _ => ?_) (fun _ => ?_)
  · refine Tot.bind (T_pick (by omega)) (fun q hq => ?_)
    refine Tot.bif (fun _ => ?_) (fun _ => Tot.bif (fun _ => ?_) (fun _ => Tot.bif (fun _ => ?_) (fun _ => ?_)))
    · refine Tot.lt (Tot.lt (Tot.ret ⟨⟨by simp only; omega, by simp only; omega, by simp only; omega, by simp only; omega, by simp only; omega⟩, by simp only; omega, by simp only; omega⟩))
    · refine Tot.cat (by rw [show ByteArray.size ⟨#[97, 98, 99, 100, 101, 102, 103]⟩ = 7 from rfl]; omega) (Tot.lt (Tot.lt (Tot.ret ⟨⟨?_, by simp only; omega, by simp only; omega, by simp only; omega, by simp only; omega⟩, by simp only; omega, by simp only; omega⟩)))
      simp only [ByteArray.size_append]
      rw [show ByteArray.size ⟨#[97, 98, 99, 100, 101, 102, 103]⟩ = 7 from rfl]; omega
    · refine Tot.bind (T_pick (by omega)) (fun u hu => ?_)
      refine Tot.ck (by omega) (by omega) (Tot.lt (Tot.lt (Tot.ret ⟨⟨by simp only; omega, by simp only; omega, by simp only; omega, by simp only; omega, by simp only; omega⟩, by simp only; omega, by simp only; omega⟩)))
    · refine Tot.cat (by rw [show ByteArray.size ⟨#[65]⟩ = 1 from rfl]; omega) (Tot.lt (Tot.lt (Tot.ret ⟨⟨?_, by simp only; omega, by simp only; omega, by simp only; omega, by simp only; omega⟩, by simp only; omega, by simp only; omega⟩)))
      simp only [ByteArray.size_append]
      rw [show ByteArray.size ⟨#[65]⟩ = 1 from rfl]; omega
  · exact Tot.lt (Tot.ret ⟨⟨by simp only; omega, by simp only; omega, by simp only; omega, by simp only; omega, by simp only; omega⟩, by simp only; omega, by simp only; omega⟩)
theorem T_l20Value_l1 {n : Int} {v : V} (hn : -1000000 ≤ n ∧ n ≤ 1000000) {p : Int} (hp : 0 ≤ p ∧ p ≤ 1000000000 - 20) : ∀ (f : Nat) (t : Int) (s : Rd × V), 0 ≤ t → t < f → (t ≤ 4 ∧ p ≤ s.1.p ∧ s.1.p + t ≤ p + 4 ∧ (s.2.S.size : Int) + t ≤ 4 ∧ -10000 ≤ s.2.N ∧ s.2.N ≤ 10000 ∧ -10 ≤ s.2.Kind ∧ s.2.Kind ≤ 10) →
    Tot (m_spec_l20Value_l1 f n t s.1 v s.2) fun r => vDr r.1 ∧ p ≤ r.2.p ∧ r.2.p ≤ p + 9 := by
  refine Tot.down (fun f t (s : Rd × V) => m_spec_l20Value_l1 f n t s.1 v s.2) _ (fun f s h => ?_) (fun f t s ht h ih => ?_)
  · rw [m_spec_l20Value_l1, show decide ((0 : Int) > 0) = false from rfl, cond_false]
    exact (T_l20Value_j3 (by omega) hn ⟨by omega, by omega, by omega, by omega, by omega⟩).mono fun r hr => ⟨hr.1, by omega, by omega⟩
  · rw [m_spec_l20Value_l1, decide_eq_true (show t > 0 by omega), cond_true]
    refine Tot.bind (T_pick (by omega)) (fun r hr => ?_)
    refine Tot.ck (by omega) (by omega) (Tot.cat ?_ (Tot.lt (Tot.ck (by omega) (by omega) ?_)))
    · rw [show (bStr [Lift.byteOf (97 + r.1)]).size = 1 from rfl]; omega
    · refine ih (r.2, { s.2 with S := s.2.S ++ bStr [Lift.byteOf (97 + r.1)] }) ⟨by omega, by simp only; omega, by simp only; omega, ?_, by simp only; omega, by simp only; omega, by simp only; omega, by simp only; omega⟩
      simp only [ByteArray.size_append]
      rw [show (bStr [Lift.byteOf (97 + r.1)]).size = 1 from rfl]; omega
theorem T_l20Value {o : Rd} {n : Int} (ho : 0 ≤ o.p ∧ o.p ≤ 1000000000 - 100) (hn : -1000000 ≤ n ∧ n ≤ 1000000) : Tot (m_spec_l20Value o n) fun r => vDr r.1 ∧ o.p ≤ r.2.p ∧ r.2.p ≤ o.p + 15 := by
  unfold m_spec_l20Value
  have e0 : ByteArray.size ⟨#[]⟩ = 0 := rfl
  have j2 : ∀ (b : Bool) (q : Rd) (v w : V), o.p ≤ q.p → q.p ≤ o.p + 2 → w.S.size = 0 → w.N = 0 → w.Kind = 0 → Tot (m_spec_l20Value_j2 n b q v w) fun r => vDr r.1 ∧ o.p ≤ r.2.p ∧ r.2.p ≤ o.p + 15 := by
    intro b q v w h1 h2 h3 h4 h5
    unfold m_spec_l20Value_j2
    refine Tot.bif (fun _ => Tot.lt ?_) (fun _ => ?_)
    · refine Tot.bind (T_pick (by omega)) (fun r hr => ?_)
      exact (T_l20Value_l1 (v := v) hn (p := r.2.p) (by omega) _ r.1 (r.2, ⟨2, 0, ⟨#[]⟩⟩) (by omega) (by omega) ⟨by omega, by simp only; omega, by simp only; omega, by simp only [e0]; omega, by first | decide | omega | (simp only; omega), by first | decide | omega | (simp only; omega), by first | decide | omega | (simp only; omega), by first | decide | omega | (simp only; omega)⟩).mono fun x hx => ⟨hx.1, by omega, by omega⟩
    · refine Tot.bind (T_pick (by omega)) (fun r hr => Tot.lt ?_)
      exact (T_l20Value_j3 (by omega) hn ⟨by simp only [e0]; omega, by simp only; omega, by simp only; omega, by first | decide | omega | (simp only; omega), by first | decide | omega | (simp only; omega)⟩).mono fun x hx => ⟨hx.1, by omega, by omega⟩
  have j1 : ∀ (t : Int) (b : Bool) (q : Rd) (v w : V), o.p ≤ q.p → q.p ≤ o.p + 1 → w.S.size = 0 → w.N = 0 → w.Kind = 0 → Tot (m_spec_l20Value_j1 n t b q v w) fun r => vDr r.1 ∧ o.p ≤ r.2.p ∧ r.2.p ≤ o.p + 15 := by
    intro t b q v w h1 h2 h3 h4 h5
    unfold m_spec_l20Value_j1
    refine Tot.bif (fun _ => ?_) (fun _ => Tot.bif (fun _ => j2 _ _ _ _ h1 (by omega) h3 h4 h5) (fun _ => j2 _ _ _ _ h1 (by omega) h3 h4 h5))
    refine Tot.bind (T_pick (by omega)) (fun r hr => Tot.ck (by omega) (by omega) (Tot.lt ?_))
    refine Tot.bind (T_pick (by omega)) (fun u hu => Tot.bif (fun _ => ?_) (fun _ => ?_))
    · refine Tot.bind (T_pick (by omega)) (fun x hx => Tot.at (by omega) (by simp only [List.length_cons, List.length_nil]; omega) (fun y hy => Tot.lt ?_))
      have hy' : -10000 ≤ y ∧ y ≤ 10000 := by simp at hy; omega
      exact (T_l20Value_j3 (by omega) hn ⟨by simp only [e0]; omega, by simp only; omega, by simp only; omega, by first | decide | omega | (simp only; omega), by first | decide | omega | (simp only; omega)⟩).mono fun x hx => ⟨hx.1, by omega, by omega⟩
    · exact (T_l20Value_j3 (by omega) hn ⟨by simp only [e0]; omega, by simp only; omega, by simp only; omega, by first | decide | omega | (simp only; omega), by first | decide | omega | (simp only; omega)⟩).mono fun x hx => ⟨hx.1, by omega, by omega⟩
  refine Tot.lt (Tot.bind (T_pick (by omega)) (fun r hr => ?_))
  refine Tot.bif (fun _ => ?_) (fun _ => Tot.bif (fun _ => ?_) (fun _ => Tot.bif (fun _ => ?_) (fun _ => ?_)))
  · exact (T_l20Value_j3 (by omega) hn ⟨by simp only [e0]; omega, by simp only; omega, by simp only; omega, by first | decide | omega | (simp only; omega), by first | decide | omega | (simp only; omega)⟩).mono fun x hx => ⟨hx.1, by omega, by omega⟩
  · exact j1 _ _ _ _ _ (by omega) (by omega) rfl rfl rfl
  · exact j1 _ _ _ _ _ (by omega) (by omega) rfl rfl rfl
  · exact j1 _ _ _ _ _ (by omega) (by omega) rfl rfl rfl
theorem T_l20Like {o : Rd} {c : S_impl_Column} (ho : 0 ≤ o.p ∧ o.p ≤ 1000000000 - 100) : Tot (m_spec_l20Like o c) fun r => vDr r.1 ∧ o.p ≤ r.2.p ∧ r.2.p ≤ o.p + 3 := by
  unfold m_spec_l20Like
  have e0 : ByteArray.size ⟨#[]⟩ = 0 := rfl
  have j1 : ∀ (b : Bool) (q : Rd) (v : V), o.p ≤ q.p → q.p ≤ o.p + 1 → Tot (m_spec_l20Like_j1 c b q v) fun r => vDr r.1 ∧ o.p ≤ r.2.p ∧ r.2.p ≤ o.p + 3 := by
    intro b q v h1 h2
    unfold m_spec_l20Like_j1
    refine Tot.bif (fun _ => Tot.lt (Tot.ret ⟨⟨by first | decide | omega | (simp only; omega), by first | decide | omega | (simp only; omega), by first | decide | omega | (simp only; omega), by first | decide | omega | (simp only; omega), by first | decide | omega | (simp only; omega)⟩, h1, by simp only; omega⟩)) (fun _ => Tot.bif (fun _ => ?_) (fun _ => Tot.bif (fun _ => ?_) (fun _ => ?_)))
    · refine Tot.bind (T_pick (by omega)) (fun r hr => Tot.lt (Tot.ret ⟨⟨by simp only [e0]; omega, by simp only; omega, by simp only; omega, by simp only; omega, by simp only; omega⟩, by simp only; omega, by simp only; omega⟩))
    · refine Tot.bind (T_pick (by omega)) (fun r hr => Tot.at (by omega) (by simp only [List.length_cons, List.length_nil]; omega) (fun y hy => Tot.lt (Tot.ret ⟨⟨?_, by simp only; omega, by simp only; omega, by simp only; omega, by simp only; omega⟩, by simp only; omega, by simp only; omega⟩)))
      simp only [List.mem_cons, List.mem_nil_iff, or_false] at hy
      rcases hy with rfl | rfl | rfl | rfl <;> exact Nat.le_of_ble_eq_true rfl
    · refine Tot.bind (T_pick (by omega)) (fun r hr => Tot.lt (Tot.ret ⟨⟨by simp only [e0]; omega, by simp only; omega, by simp only; omega, by simp only; omega, by simp only; omega⟩, by simp only; omega, by simp only; omega⟩))
  refine Tot.bif (fun _ => Tot.bind (T_pick (by omega)) (fun r hr => j1 _ _ _ (by omega) (by omega))) (fun _ => j1 _ _ _ (by omega) (by omega))
/-- A row that was drawn. -/
def rDr (r : Row) : Prop := r.length ≤ 9 ∧ ∀ v ∈ r, vDr v
theorem T_l20Fit {o : Rd} {cs : List S_impl_Column} {n : Int} (ho : 0 ≤ o.p ∧ o.p ≤ 1000000000 - 1000) (hn : -1000000 ≤ n ∧ n ≤ 1000000) (hc : cs.length ≤ 6) : Tot (m_spec_l20Fit o cs n) fun r => rDr r.1 ∧ o.p ≤ r.2.p ∧ r.2.p ≤ o.p + 80 := by
  unfold m_spec_l20Fit
  refine Tot.up (cs.length : Int) (fun f t (s : Rd × Row) => m_spec_l20Fit_l1 f cs n t s.1 s.2) (fun t s => o.p ≤ s.1.p ∧ s.1.p ≤ o.p + 3 * t ∧ (s.2.length : Int) = t ∧ ∀ v ∈ s.2, vDr v) (fun f s h => ?_) (fun f t s h0 ht h ih => ?_) _ 0 (o, []) (by omega) (by omega) (by omega) ⟨by simp only; omega, by simp only; omega, by simp, by simp⟩
  · obtain ⟨g1, g2, g3, g4⟩ := h
    rw [m_spec_l20Fit_l1, show decide ((cs.length : Int) < cs.length) = false by simp, cond_false]
    unfold m_spec_l20Fit_j1 m_spec_l20Fit_j2
    refine Tot.bind (T_odd (by omega) hn) (fun q hq => Tot.bif (fun _ => ?_) (fun _ => Tot.ret ⟨⟨by simp only; omega, g4⟩, by simp only; omega, by simp only; omega⟩))
    refine Tot.bind (T_pick (by omega)) (fun u hu => Tot.bif (fun _ => ?_) (fun _ => Tot.bif (fun _ => ?_) (fun _ => ?_)))
    · refine Tot.app (by simp only [List.length_cons, List.length_nil]; omega) (Tot.ret ⟨⟨by first | (simp; done) | (simp; omega), ?_⟩, by simp only; omega, by simp only; omega⟩)
      intro c hc
      simp only [List.mem_append, List.mem_cons, List.mem_nil_iff, or_false] at hc
      rcases hc with hc | rfl
      · exact g4 c hc
      · exact ⟨by first | decide | omega | (simp only; omega), by first | decide | omega | (simp only; omega), by first | decide | omega | (simp only; omega), by first | decide | omega | (simp only; omega), by first | decide | omega | (simp only; omega)⟩
    · refine Tot.bif (fun h3 => ?_) (fun _ => Tot.ret ⟨⟨by simp only; omega, g4⟩, by simp only; omega, by simp only; omega⟩)
      simp only [gt_iff_lt, decide_eq_true_eq] at h3
      refine Tot.bind (T_pick (by omega)) (fun x hx => Tot.bind (T_l20Value (by omega) (by omega)) (fun y hy => Tot.at (by omega) (by omega) (fun _ _ => Tot.at (by omega) (by omega) (fun _ _ => Tot.lt (Tot.ret ⟨⟨by first | (simp; done) | (simp; omega), ?_⟩, by simp only; omega, by simp only; omega⟩)))))
      intro c hc
      rcases List.mem_or_eq_of_mem_set hc with hc | rfl
      · exact g4 c hc
      · exact hy.1
    · refine Tot.bind (T_l20Value (by omega) (by omega)) (fun x hx => Tot.bind (T_l20Value (by omega) (by omega)) (fun y hy => Tot.bind (T_l20Value (by omega) (by omega)) (fun z hz => Tot.app (by simp only [List.length_cons, List.length_nil]; omega) (Tot.ret ⟨⟨by first | (simp; done) | (simp; omega), ?_⟩, by simp only; omega, by simp only; omega⟩))))
      intro c hc
      simp only [List.mem_append, List.mem_cons, List.mem_nil_iff, or_false] at hc
      rcases hc with hc | rfl | rfl | rfl
      · exact g4 c hc
      · exact hx.1
      · exact hy.1
      · exact hz.1
  · obtain ⟨g1, g2, g3, g4⟩ := h
    rw [m_spec_l20Fit_l1, decide_eq_true ht, cond_true]
    refine Tot.at h0 ht (fun c hc => Tot.bind (T_l20Like (by omega)) (fun x hx => Tot.app (by simp only [List.length_cons, List.length_nil]; omega) (Tot.ck (by omega) (by omega) ?_)))
    refine ih (x.2, s.2 ++ [x.1]) ⟨by simp only; omega, by simp only; omega, by first | (simp; done) | (simp; omega), ?_⟩
    intro c hc
    simp only [List.mem_append, List.mem_cons, List.mem_nil_iff, or_false] at hc
    rcases hc with hc | rfl
    · exact g4 c hc
    · exact hx.1
/-- Rows that were drawn. -/
def rsDr (n : Nat) (rs : Rows) : Prop := rs.length ≤ n ∧ ∀ r ∈ rs, rDr r
theorem T_l20Bag {o : Rd} {cs : List S_impl_Column} {n : Int} (ho : 0 ≤ o.p ∧ o.p ≤ 1000000000 - 10000) (hn : -1000000 ≤ n ∧ n ≤ 1000000) (hc : cs.length ≤ 6) : Tot (m_spec_l20Bag o cs n) fun r => rsDr 6 r.1 ∧ o.p ≤ r.2.p ∧ r.2.p ≤ o.p + 600 := by
  unfold m_spec_l20Bag
  refine Tot.bind (T_pick (by omega)) (fun r hr => ?_)
  refine Tot.down (fun f t (s : Rd × Rows) => m_spec_l20Bag_l1 f cs n t s.1 s.2) (fun t s => t ≤ r.1 ∧ o.p ≤ s.1.p ∧ s.1.p + 90 * t ≤ o.p + 1 + 90 * r.1 ∧ (s.2.length : Int) + t = r.1 ∧ ∀ x ∈ s.2, rDr x) (fun f s h => ?_) (fun f t s ht h ih => ?_) _ r.1 (r.2, []) (by omega) (by omega) ⟨by omega, by simp only; omega, by simp only; omega, by simp, by simp⟩
  · obtain ⟨g1, g2, g3, g4, g5⟩ := h
    rw [m_spec_l20Bag_l1, show decide ((0 : Int) > 0) = false from rfl, cond_false]
    exact Tot.ret ⟨⟨by simp only; omega, g5⟩, by simp only; omega, by simp only; omega⟩
  · obtain ⟨g1, g2, g3, g4, g5⟩ := h
    rw [m_spec_l20Bag_l1, decide_eq_true (show t > 0 by omega), cond_true]
    have j2 : ∀ (q : Rd) (x : Row), s.1.p ≤ q.p → q.p ≤ s.1.p + 90 → rDr x → Tot (m_spec_l20Bag_j2 (m_spec_l20Bag_l1 f) cs n t q (s.2 ++ [x])) fun r => rsDr 6 r.1 ∧ o.p ≤ r.2.p ∧ r.2.p ≤ o.p + 600 := by
      intro q x h1 h2 h3
      unfold m_spec_l20Bag_j2
      refine Tot.ck (by omega) (by omega) ?_
      refine ih (q, s.2 ++ [x]) ⟨by omega, by simp only; omega, by simp only; omega, by first | (simp; done) | (simp; omega), ?_⟩
      intro c hc
      simp only [List.mem_append, List.mem_cons, List.mem_nil_iff, or_false] at hc
      rcases hc with hc | rfl
      · exact g5 c hc
      · exact h3
    have j1 : ∀ (b : Bool) (q : Rd), s.1.p ≤ q.p → q.p ≤ s.1.p + 2 → (b = true → 0 < s.2.length) → Tot (m_spec_l20Bag_j1 (m_spec_l20Bag_l1 f) cs n t b q s.2) fun r => rsDr 6 r.1 ∧ o.p ≤ r.2.p ∧ r.2.p ≤ o.p + 600 := by
      intro b q h1 h2 h3
      unfold m_spec_l20Bag_j1
      refine Tot.bif (fun hb => ?_) (fun _ => ?_)
      · have := h3 hb
        refine Tot.bind (T_pick (by omega)) (fun x hx => Tot.at (by omega) (by omega) (fun _ _ => Tot.at (by omega) (by omega) (fun y hy => ?_)))
        have hy' := g5 y hy
        refine Tot.eq (E_l3Own (by have := hy'.1; omega)) (Tot.app (by simp only [List.length_cons, List.length_nil]; omega) (j2 _ _ (by omega) (by omega) hy'))
      · refine Tot.bind (T_l20Fit (by omega) hn hc) (fun x hx => Tot.app (by simp only [List.length_cons, List.length_nil]; omega) (j2 _ _ (by omega) (by omega) hx.1))
    refine Tot.bif (fun h3 => ?_) (fun _ => j1 _ _ (by omega) (by omega) (by intro e; cases e))
    simp only [gt_iff_lt, decide_eq_true_eq] at h3
    refine Tot.bind (T_pick (by omega)) (fun x hx => j1 _ _ (by omega) (by omega) (fun _ => by omega))
theorem rDr_sm {r : Row} (h : rDr r) : rSm r := ⟨by have := h.1; omega, fun v hv => by have := (h.2 v hv).1; unfold vSm; omega⟩
theorem rsDr_sm {n : Nat} {rs : Rows} (h : rsDr n rs) (hn : n ≤ 100000) : rsSm rs := ⟨by have := h.1; omega, fun r hr => rDr_sm (h.2 r hr)⟩
theorem sortR_mem : ∀ (rs : Rows) (x : Row), x ∈ sortR rs ↔ x ∈ rs := by
  have key : ∀ (rs out : Rows) (x : Row), x ∈ rs.foldl insR out ↔ x ∈ out ∨ x ∈ rs := by
    intro rs
    induction rs with
    | nil => intro out x; simp
    | cons r rs ih => intro out x; rw [List.foldl_cons, ih, insR_mem, List.mem_cons]; constructor <;> (rintro (h | h) <;> first | (rcases h with h | h <;> simp [h]) | simp [h])
  intro rs x; unfold sortR; rw [key]; simp
theorem T_l20Open {l : List UInt8} : Tot (m_spec_l20Open l) fun r => r.p = 0 := by
  unfold m_spec_l20Open m_spec_l20Open_j1
  refine Tot.bif (fun h => ?_) (fun _ => Tot.ret rfl)
  simp only [gt_iff_lt, decide_eq_true_eq] at h
  exact Tot.cut (by omega) (Tot.ret rfl)
/-- A total order, told by numbers. -/
structure TO {α : Type} (p : α → α → Int) : Prop where
  eq0 : ∀ a b, p a b = 0 ↔ a = b
  anti : ∀ a b, p a b < 0 ↔ 0 < p b a
  trans : ∀ a b c, p a b < 0 → p b c < 0 → p a c < 0
theorem TO.comap {α β : Type} {p : β → β → Int} (h : TO p) (f : α → β) (hf : ∀ a b, f a = f b → a = b) : TO fun a b => p (f a) (f b) where
  eq0 a b := ⟨fun e => hf a b ((h.eq0 _ _).1 e), fun e => (h.eq0 _ _).2 (by rw [e])⟩
  anti a b := h.anti _ _
  trans a b c := h.trans _ _ _
theorem TO.le_trans {α : Type} {p : α → α → Int} (h : TO p) {a b c : α} (h1 : p a b ≤ 0) (h2 : p b c ≤ 0) : p a c ≤ 0 := by
  rcases Int.lt_or_eq_of_le h1 with h1 | h1
  · rcases Int.lt_or_eq_of_le h2 with h2 | h2
    · exact Int.le_of_lt (h.trans _ _ _ h1 h2)
    · rw [← (h.eq0 _ _).1 h2]; omega
  · rw [(h.eq0 _ _).1 h1]; exact h2
theorem TO.total {α : Type} {p : α → α → Int} (h : TO p) (a b : α) : 0 < p a b ↔ p b a < 0 := (h.anti b a).symm
def lx (x y : Int) : Int := if x = 0 then y else x
theorem TO.lex {α β : Type} {p : α → α → Int} {q : β → β → Int} (h : TO p) (k : TO q) : TO fun (a b : α × β) => lx (p a.1 b.1) (q a.2 b.2) where
  eq0 a b := by
    have h1 := h.eq0 a.1 b.1
    have h2 := k.eq0 a.2 b.2
    unfold lx
    split
    · rename_i e; rw [h2]; exact ⟨fun e2 => Prod.ext (h1.1 e) e2, fun e2 => by rw [e2]⟩
    · rename_i e; exact ⟨fun e2 => absurd e2 e, fun e2 => absurd (h1.2 (by rw [e2])) e⟩
  anti a b := by
    have h1 := h.anti a.1 b.1
    have h2 := k.anti a.2 b.2
    have h3 := h.eq0 a.1 b.1
    have h4 := h.eq0 b.1 a.1
    unfold lx
    by_cases e : a.1 = b.1
    · rw [if_pos (h3.2 e), if_pos (h4.2 e.symm)]; exact h2
    · rw [if_neg (fun x => e (h3.1 x)), if_neg (fun x => e (h4.1 x).symm)]; exact h1
  trans a b c := by
    have h1 := h.trans a.1 b.1 c.1
    have h2 := k.trans a.2 b.2 c.2
    unfold lx
    by_cases e1 : a.1 = b.1
    · rw [if_pos ((h.eq0 _ _).2 e1), e1]
      by_cases e2 : b.1 = c.1
      · rw [if_pos ((h.eq0 _ _).2 e2), if_pos ((h.eq0 _ _).2 e2)]; exact h2
      · rw [if_neg (fun x => e2 ((h.eq0 _ _).1 x)), if_neg (fun x => e2 ((h.eq0 _ _).1 x))]; exact fun _ g => g
    · rw [if_neg (fun x => e1 ((h.eq0 _ _).1 x))]
      by_cases e2 : b.1 = c.1
      · rw [← e2, if_pos ((h.eq0 _ _).2 rfl), if_neg (fun x => e1 ((h.eq0 _ _).1 x))]; exact fun g _ => g
      · rw [if_neg (fun x => e2 ((h.eq0 _ _).1 x))]
        intro g1 g2
        have := h1 g1 g2
        rw [if_neg (by omega)]; exact this
theorem TO_int : TO cmpI where
  eq0 a b := by unfold cmpI; split <;> (try split) <;> omega
  anti a b := by unfold cmpI; split <;> split <;> (try split) <;> (try split) <;> omega
  trans a b c := by unfold cmpI; split <;> split <;> (try split) <;> (try split) <;> (try split) <;> omega
def cmpB : List UInt8 → List UInt8 → Int
  | [], [] => 0
  | [], _ :: _ => -1
  | _ :: _, [] => 1
  | a :: x, b :: y => lx (cmpI a.toNat b.toNat) (cmpB x y)
theorem cmpB_less : ∀ a b : List UInt8, (if Op.bytesLess a b then (-1 : Int) else if Op.bytesLess a b || a == b then 0 else 1) = cmpB a b
  | [], [] => rfl
  | [], _ :: _ => rfl
  | _ :: _, [] => rfl
  | a :: x, b :: y => by
    have ih := cmpB_less x y
    simp only [cmpB, ← ih]
    unfold lx cmpI
    simp only [Op.bytesLess]
    rcases Nat.lt_trichotomy a.toNat b.toNat with h | h | h
    · have h' : a < b := UInt8.lt_iff_toNat_lt.2 h
      have h2 : (a.toNat : Int) < b.toNat := by omega
      simp [h', h2]
    · have h' : a = b := UInt8.toNat_inj.1 h
      subst h'
      simp
    · have h' : ¬ a < b := fun e => by have := UInt8.lt_iff_toNat_lt.1 e; omega
      have h2 : ¬ (a.toNat : Int) < b.toNat := by omega
      have h3 : (b.toNat : Int) < a.toNat := by omega
      have h4 : ¬ a = b := fun e => by rw [e] at h; omega
      simp [h', h2, h3, h4]
theorem TO_list {α : Type} {p : α → α → Int} (h : TO p) : TO (cmpL p) where
  eq0 := by
    intro a
    induction a with
    | nil => intro b; cases b <;> simp [cmpL]
    | cons x a ih =>
      intro b
      cases b with
      | nil => simp [cmpL]
      | cons y b =>
        simp only [cmpL]
        split
        · rename_i e; rw [ih b, List.cons.injEq]; exact ⟨fun e2 => ⟨(h.eq0 _ _).1 e, e2⟩, fun e2 => e2.2⟩
        · rename_i e; rw [List.cons.injEq]; exact ⟨fun e2 => absurd e2 e, fun e2 => absurd ((h.eq0 _ _).2 e2.1) e⟩
  anti := by
    intro a
    induction a with
    | nil => intro b; cases b <;> simp [cmpL]
    | cons x a ih =>
      intro b
      cases b with
      | nil => simp [cmpL]
      | cons y b =>
        simp only [cmpL]
        by_cases e : x = y
        · rw [if_pos ((h.eq0 _ _).2 e), if_pos ((h.eq0 _ _).2 e.symm)]; exact ih b
        · rw [if_neg (fun g => e ((h.eq0 _ _).1 g)), if_neg (fun g => e ((h.eq0 _ _).1 g).symm)]; exact h.anti x y
  trans := by
    intro a
    induction a with
    | nil => intro b c; cases b <;> cases c <;> simp [cmpL]
    | cons x a ih =>
      intro b c
      cases b with
      | nil => simp [cmpL]
      | cons y b =>
        cases c with
        | nil => simp [cmpL]
        | cons z c =>
          simp only [cmpL]
          by_cases e1 : x = y
          · rw [if_pos ((h.eq0 _ _).2 e1), e1]
            by_cases e2 : y = z
            · rw [if_pos ((h.eq0 _ _).2 e2), if_pos ((h.eq0 _ _).2 e2)]; exact ih b c
            · rw [if_neg (fun g => e2 ((h.eq0 _ _).1 g)), if_neg (fun g => e2 ((h.eq0 _ _).1 g))]; exact fun _ g => g
          · rw [if_neg (fun g => e1 ((h.eq0 _ _).1 g))]
            by_cases e2 : y = z
            · rw [← e2, if_pos ((h.eq0 _ _).2 rfl), if_neg (fun g => e1 ((h.eq0 _ _).1 g))]; exact fun g _ => g
            · rw [if_neg (fun g => e2 ((h.eq0 _ _).1 g))]
              intro g1 g2
              have := h.trans x y z g1 g2
              rw [if_neg (by omega)]; exact this
theorem TO_byte : TO fun (a b : UInt8) => cmpI a.toNat b.toNat := TO_int.comap (fun b : UInt8 => (b.toNat : Int)) fun a b h => UInt8.toNat_inj.1 (by omega)
theorem cmpB_L : ∀ a b : List UInt8, cmpB a b = cmpL (fun (a b : UInt8) => cmpI a.toNat b.toNat) a b
  | [], [] => rfl
  | [], _ :: _ => rfl
  | _ :: _, [] => rfl
  | a :: x, b :: y => by simp only [cmpB, cmpL, lx, cmpB_L x y]
theorem TO_str : TO cmpS := by
  have h := (TO_list TO_byte).comap (fun s : ByteArray => s.data.toList) (fun a b h => ByteArray.ext (Array.toList_inj.1 h))
  have e : cmpS = fun a b : ByteArray => cmpL (fun (a b : UInt8) => cmpI a.toNat b.toNat) a.data.toList b.data.toList := by
    funext a b
    unfold cmpS sLt sEq
    rw [ByteArray.toList_eq, ByteArray.toList_eq, cmpB_less, cmpB_L]
  rw [e]; exact h
theorem orI_2 (a b : Int) : orI [a, b] = lx a b := by
  unfold lx; split
  · rename_i h; subst h; rw [orI_0]
    by_cases h : b = 0
    · subst h; rfl
    · rw [orI_1 h]
  · rename_i h; rw [orI_1 h]
theorem orI_3 (a b c : Int) : orI [a, b, c] = lx a (lx b c) := by
  by_cases h : a = 0
  · subst h; rw [orI_0, orI_2]; rfl
  · rw [orI_1 h]; unfold lx; rw [if_neg h]
theorem TO_value : TO vOrd := by
  have h := (TO_int.lex (TO_int.lex TO_str)).comap (fun v : V => (v.Kind, (v.N, v.S))) (fun a b h => by
    cases a; cases b; simp only [Prod.mk.injEq] at h; simp [h])
  have e : vOrd = fun a b : V => lx (cmpI a.Kind b.Kind) (lx (cmpI a.N b.N) (cmpS a.S b.S)) := by
    funext a b; unfold vOrd; rw [orI_3]
  rw [e]; exact h
theorem TO_row : TO rOrd := by
  have e : rOrd = cmpL vOrd := by funext a b; exact rOrd_cmpL a b
  rw [e]; exact TO_list TO_value
theorem rr_ok {a b : Row} (ha : rowOk a = true) (hb : rowOk b = true) : rrOrd a b = rOrd a b := by unfold rrOrd; rw [ha, hb]; rfl
theorem L_slices_BinarySearchFunc_Limpl_Tally_impl_Tally_Limpl_Value {l : List S_impl_Tally} {t1 : (List S_impl_Value)} {p : S_impl_Tally → (List S_impl_Value) → Option Int} {q : S_impl_Tally → Int} (hl : l.length ≤ 1000000) (hp : ∀ x ∈ l, p x t1 = some (q x)) (k : Nat) (hk : k ≤ l.length) (h1 : ∀ (i : Nat) x, i < k → l[i]? = some x → q x < 0) (h2 : ∀ (i : Nat) x, k ≤ i → l[i]? = some x → ¬ q x < 0) :
    m_slices_BinarySearchFunc_Limpl_Tally_impl_Tally_Limpl_Value l t1 p = some ((k : Int), match l[k]? with | some x => q x == 0 | none => false) := by
  unfold m_slices_BinarySearchFunc_Limpl_Tally_impl_Tally_Limpl_Value
  have fin : m_slices_BinarySearchFunc_Limpl_Tally_impl_Tally_Limpl_Value_j1 p l t1 (l.length : Int) (k : Int) = some ((k : Int), match l[k]? with | some x => q x == 0 | none => false) := by
    unfold m_slices_BinarySearchFunc_Limpl_Tally_impl_Tally_Limpl_Value_j1 m_slices_BinarySearchFunc_Limpl_Tally_impl_Tally_Limpl_Value_j2
    rcases Nat.lt_or_ge k l.length with h | h
    · have hx : l[k]? = some l[k] := List.getElem?_eq_getElem h
      rw [dlt h, cond_true, at_of hx, Option.bind_some, hp _ (List.mem_of_getElem? hx), Option.bind_some, hx]
    · have hx : l[k]? = none := List.getElem?_eq_none h
      rw [decide_eq_false (by omega), cond_false, hx]
  have key : ∀ (d a b n : Nat), b - a ≤ d → d < n → a ≤ k → k ≤ b → b ≤ l.length → m_slices_BinarySearchFunc_Limpl_Tally_impl_Tally_Limpl_Value_l1 p n l t1 (l.length : Int) (a : Int) (b : Int) = some ((k : Int), match l[k]? with | some x => q x == 0 | none => false) := by
    intro d
    induction d with
    | zero =>
      intro a b n hd hn ha hb hbl
      obtain ⟨n, rfl⟩ : ∃ q, n = q + 1 := ⟨n - 1, by omega⟩
      obtain rfl : a = k := by omega
      rw [m_slices_BinarySearchFunc_Limpl_Tally_impl_Tally_Limpl_Value_l1, decide_eq_false (by omega), cond_false, fin]
    | succ d ih =>
      intro a b n hd hn ha hb hbl
      obtain ⟨n, rfl⟩ : ∃ q, n = q + 1 := ⟨n - 1, by omega⟩
      by_cases hab : a < b
      · have hlt : (a + b) / 2 < l.length := by omega
        have hx : l[(a + b) / 2]? = some l[(a + b) / 2] := List.getElem?_eq_getElem hlt
        rw [m_slices_BinarySearchFunc_Limpl_Tally_impl_Tally_Limpl_Value_l1, dlt hab, cond_true, show ((a : Int) + (b : Int)) = ((a + b : Nat) : Int) by omega, ckI_of (by omega) (by omega), Option.bind_some, uI_of (by omega) (by omega), Option.bind_some, shr_half, Option.bind_some, uI_of (by omega) (by omega), Option.bind_some, at_of hx, Option.bind_some, hp _ (List.mem_of_getElem? hx), Option.bind_some]
        by_cases hq : q l[(a + b) / 2] < 0
        · have : (a + b) / 2 < k := by
            rcases Nat.lt_or_ge ((a + b) / 2) k with h | h
            · exact h
            · exact absurd hq (h2 _ _ h hx)
          rw [decide_eq_true hq, cond_true, ck1 (by omega), Option.bind_some, show ((((a + b) / 2 : Nat) : Int) + 1) = (((a + b) / 2 + 1 : Nat) : Int) by omega]
          exact ih _ b n (by omega) (by omega) (by omega) hb hbl
        · have : k ≤ (a + b) / 2 := by
            rcases Nat.lt_or_ge ((a + b) / 2) k with h | h
            · exact absurd (h1 _ _ h hx) hq
            · exact h
          rw [decide_eq_false hq, cond_false]
          exact ih a _ n (by omega) (by omega) ha this (by omega)
      · obtain rfl : a = k := by omega
        rw [m_slices_BinarySearchFunc_Limpl_Tally_impl_Tally_Limpl_Value_l1, decide_eq_false (by omega), cond_false, fin]
  exact key l.length 0 l.length _ (by omega) (by omega) (by omega) hk (Nat.le_refl _)
abbrev Col := S_impl_Column
def v0 : V := ⟨0, 0, ⟨#[]⟩⟩
def total (left : List Rows) : Nat := left.flatten.length
abbrev Ta := S_impl_Tally
def kLt (a b : Ta) : Prop := rOrd a.Key b.Key < 0
def ks (l : List Ta) : Prop := l.Pairwise kLt
def addT (x t : Ta) : Ta := ⟨x.Key, x.Rows + t.Rows, x.Many + t.Many, x.Sum + t.Sum⟩
def nz (t : Ta) : Bool := !(decide (t.Rows = 0) && (decide (t.Many = 0) && decide (t.Sum = 0)))
/-- What a row, so many times, turns. -/
def dT (r : Row) (m : Int) : Ta := if (r.getD 1 v0).Kind = 1 then ⟨r.take 1, m, m, m * (r.getD 1 v0).N⟩ else ⟨r.take 1, m, 0, 0⟩
def turnT : List Ta → Ta → List Ta
  | [], t => [t]
  | x :: l, t => if rOrd x.Key t.Key < 0 then x :: turnT l t else if x.Key = t.Key then (if nz (addT x t) then addT x t :: l else l) else t :: x :: l
theorem dT_key (r : Row) (m : Int) : (dT r m).Key = r.take 1 ∧ (dT r m).Rows = m := by unfold dT; split <;> exact ⟨rfl, rfl⟩
theorem turnT_mem {l : List Ta} {t x : Ta} (h : x ∈ turnT l t) : x ∈ l ∨ x = t ∨ ∃ y ∈ l, y.Key = t.Key ∧ x = addT y t := by
  induction l with
  | nil => rw [turnT] at h; exact .inr (.inl (List.mem_singleton.1 h))
  | cons y l ih =>
    rw [turnT] at h
    split at h
    · rcases List.mem_cons.1 h with rfl | h
      · exact .inl (by simp)
      · rcases ih h with h | h | ⟨z, hz, h⟩
        · exact .inl (by simp [h])
        · exact .inr (.inl h)
        · exact .inr (.inr ⟨z, by simp [hz], h⟩)
    · split at h
      · rename_i he
        split at h
        · rcases List.mem_cons.1 h with rfl | h
          · exact .inr (.inr ⟨y, by simp, he, rfl⟩)
          · exact .inl (by simp [h])
        · exact .inl (by simp [h])
      · rcases List.mem_cons.1 h with rfl | h
        · exact .inr (.inl rfl)
        · exact .inl h
theorem turnT_key {l : List Ta} {t x : Ta} (h : x ∈ turnT l t) : (∃ y ∈ l, y.Key = x.Key) ∨ x.Key = t.Key := by
  rcases turnT_mem h with h | rfl | ⟨y, hy, _, rfl⟩
  · exact .inl ⟨x, h, rfl⟩
  · exact .inr rfl
  · exact .inl ⟨y, hy, rfl⟩
theorem turnT_ks {l : List Ta} {t : Ta} (h : ks l) : ks (turnT l t) := by
  induction l with
  | nil => exact List.pairwise_singleton _ _
  | cons x l ih =>
    obtain ⟨h1, h2⟩ := List.pairwise_cons.1 h
    rw [turnT]
    split
    · rename_i hlt
      refine List.pairwise_cons.2 ⟨fun y hy => ?_, ih h2⟩
      rcases turnT_key hy with ⟨z, hz, e⟩ | e
      · have := h1 z hz
        unfold kLt at this ⊢; rw [← e]; exact this
      · unfold kLt; rw [e]; exact hlt
    · rename_i hnlt
      split
      · rename_i he
        split
        · exact List.pairwise_cons.2 ⟨fun y hy => h1 y hy, h2⟩
        · exact h2
      · rename_i hne
        refine List.pairwise_cons.2 ⟨fun y hy => ?_, h⟩
        have htx : rOrd t.Key x.Key < 0 := by
          have h3 := TO_row.anti x.Key t.Key
          have h4 := TO_row.anti t.Key x.Key
          have h5 := (TO_row.eq0 x.Key t.Key)
          have : ¬ rOrd x.Key t.Key = 0 := fun e => hne (h5.1 e)
          omega
        rcases List.mem_cons.1 hy with rfl | hy
        · exact htx
        · exact TO_row.trans _ _ _ htx (h1 y hy)
theorem turnT_len (l : List Ta) (t : Ta) : (turnT l t).length ≤ l.length + 1 := by
  induction l with
  | nil => simp [turnT]
  | cons x l ih =>
    rw [turnT]
    split
    · simp; omega
    · split
      · split <;> simp only [List.length_cons] <;> omega
      · simp
/-- Ahead of what is less all stays. -/
theorem turnT_split {A B : List Ta} {t : Ta} (h : ∀ x ∈ A, rOrd x.Key t.Key < 0) : turnT (A ++ B) t = A ++ turnT B t := by
  induction A with
  | nil => rfl
  | cons x A ih =>
    rw [List.cons_append, turnT, if_pos (h x (by simp)), ih fun y hy => h y (by simp [hy])]; rfl
/-- Where a key stands in tallies in order. -/
theorem ks_split {l : List Ta} (h : ks l) (k : Row) : ∃ A B, l = A ++ B ∧ (∀ x ∈ A, rOrd x.Key k < 0) ∧ ∀ x ∈ B, ¬ rOrd x.Key k < 0 := by
  induction l with
  | nil => exact ⟨[], [], rfl, by simp, by simp⟩
  | cons x l ih =>
    obtain ⟨h1, h2⟩ := List.pairwise_cons.1 h
    by_cases hx : rOrd x.Key k < 0
    · obtain ⟨A, B, rfl, hA, hB⟩ := ih h2
      exact ⟨x :: A, B, rfl, fun y hy => by rcases List.mem_cons.1 hy with rfl | hy; exact hx; exact hA y hy, hB⟩
    · refine ⟨[], x :: l, rfl, by simp, fun y hy => ?_⟩
      rcases List.mem_cons.1 hy with rfl | hy
      · exact hx
      · intro hlt
        exact hx (TO_row.trans _ _ _ (h1 y hy) hlt)

def t3 (t : Ta) : Int × Int × Int := (t.Rows, t.Many, t.Sum)
def add3 (a b : Int × Int × Int) : Int × Int × Int := (a.1 + b.1, a.2.1 + b.2.1, a.2.2 + b.2.2)
def lk : List Ta → Row → Int × Int × Int
  | [], _ => (0, 0, 0)
  | x :: l, k => if x.Key = k then t3 x else lk l k
theorem lk_none {l : List Ta} {k : Row} (h : ∀ x ∈ l, x.Key ≠ k) : lk l k = (0, 0, 0) := by
  induction l with
  | nil => rfl
  | cons x l ih => rw [lk, if_neg (h x (by simp)), ih fun y hy => h y (by simp [hy])]
theorem nz_false {t : Ta} (h : ¬ nz t = true) : t3 t = (0, 0, 0) := by
  unfold nz at h
  simp at h
  unfold t3; rw [h.1, h.2.1, h.2.2]
theorem lk_turn {l : List Ta} {t : Ta} (h : ks l) (k : Row) : lk (turnT l t) k = add3 (lk l k) (if t.Key = k then t3 t else (0, 0, 0)) := by
  have add0 : ∀ a, add3 a (0, 0, 0) = a := fun a => by simp [add3]
  have add0' : ∀ a, add3 (0, 0, 0) a = a := fun a => by simp [add3]
  induction l with
  | nil =>
    simp only [turnT, lk]
    rw [add0']
  | cons x l ih =>
    obtain ⟨h1, h2⟩ := List.pairwise_cons.1 h
    rw [turnT]
    split
    · rename_i hlt
      rw [lk, lk, ih h2]
      by_cases hk : x.Key = k
      · rw [if_pos hk, if_pos hk]
        have : t.Key ≠ k := by
          intro e
          rw [hk, e] at hlt
          have := (TO_row.eq0 k k).2 rfl
          omega
        rw [if_neg this, add0]
      · rw [if_neg hk, if_neg hk]
    · split
      · rename_i he
        have hrest : ∀ y ∈ l, y.Key ≠ t.Key := by
          intro y hy e
          have := h1 y hy
          unfold kLt at this
          rw [he, e] at this
          have := (TO_row.eq0 t.Key t.Key).2 rfl
          omega
        by_cases hk : x.Key = k
        · rw [if_pos (show t.Key = k from he ▸ hk)]
          have e0 : lk (x :: l) k = t3 x := by rw [lk, if_pos hk]
          rw [e0]
          split
          · rw [lk, if_pos (show (addT x t).Key = k from hk)]; rfl
          · rename_i hz
            rw [lk_none (fun y hy => by rw [← hk, he]; exact hrest y hy)]
            have := nz_false hz
            simp only [t3, addT, Prod.mk.injEq] at this
            simp only [add3, t3, this]
        · rw [if_neg (show ¬ t.Key = k from he ▸ hk), add0]
          have e0 : lk (x :: l) k = lk l k := by rw [lk, if_neg hk]
          rw [e0]
          split
          · rw [lk, if_neg (show ¬ (addT x t).Key = k from hk)]
          · rfl
      · rename_i hnlt hne
        rw [lk]
        by_cases hk : t.Key = k
        · rw [if_pos hk, if_pos hk, lk_none, add0']
          intro y hy e
          rcases List.mem_cons.1 hy with rfl | hy
          · exact hne (e.trans hk.symm)
          · have := h1 y hy
            unfold kLt at this
            rw [e, ← hk] at this
            exact hnlt this
        · rw [if_neg hk, if_neg hk, add0]
/-- Tallies in order, none of them nothing, are told by what is counted. -/
theorem lk_ext : ∀ {a b : List Ta}, ks a → ks b → (∀ x ∈ a, nz x = true) → (∀ x ∈ b, nz x = true) → (∀ k, lk a k = lk b k) → a = b
  | [], [], _, _, _, _, _ => rfl
  | [], y :: b, _, _, _, hb, h => by
    have := h y.Key
    rw [lk, lk, if_pos rfl] at this
    have hy := hb y (by simp)
    unfold nz at hy
    simp only [t3, Prod.mk.injEq] at this
    rw [← this.1, ← this.2.1, ← this.2.2] at hy
    simp at hy
  | x :: a, [], _, _, ha, _, h => by
    have := h x.Key
    rw [lk, lk, if_pos rfl] at this
    have hx := ha x (by simp)
    unfold nz at hx
    simp only [t3, Prod.mk.injEq] at this
    rw [this.1, this.2.1, this.2.2] at hx
    simp at hx
  | x :: a, y :: b, hka, hkb, ha, hb, h => by
    obtain ⟨a1, a2⟩ := List.pairwise_cons.1 hka
    obtain ⟨b1, b2⟩ := List.pairwise_cons.1 hkb
    have zero : ∀ z : Ta, nz z = true → t3 z = (0, 0, 0) → False := by
      intro z hz hz0
      unfold nz at hz
      simp only [t3, Prod.mk.injEq] at hz0
      rw [hz0.1, hz0.2.1, hz0.2.2] at hz
      simp at hz
    have rfl0 : ∀ k : Row, ¬ rOrd k k < 0 := fun k => by have := (TO_row.eq0 k k).2 rfl; omega
    have hkey : x.Key = y.Key := by
      by_cases he : x.Key = y.Key
      · exact he
      · exfalso
        have hne : ¬ rOrd x.Key y.Key = 0 := fun e => he ((TO_row.eq0 _ _).1 e)
        by_cases hlt : rOrd x.Key y.Key < 0
        · have hx := h x.Key
          rw [lk, if_pos rfl, lk_none (fun z hz e => by
            rcases List.mem_cons.1 hz with rfl | hz
            · exact he e.symm
            · have := b1 z hz
              unfold kLt at this
              rw [e] at this
              exact rfl0 _ (TO_row.trans _ _ _ hlt this))] at hx
          exact zero x (ha x (by simp)) hx
        · have hgt : rOrd y.Key x.Key < 0 := by
            have := TO_row.anti y.Key x.Key
            omega
          have hy := h y.Key
          rw [lk_none (fun z hz e => by
            rcases List.mem_cons.1 hz with rfl | hz
            · exact he e
            · have := a1 z hz
              unfold kLt at this
              rw [e] at this
              exact rfl0 _ (TO_row.trans _ _ _ hgt this)), lk, if_pos rfl] at hy
          exact zero y (hb y (by simp)) hy.symm
    have hxy : x = y := by
      have := h x.Key
      rw [lk, if_pos rfl, lk, if_pos hkey.symm] at this
      simp only [t3, Prod.mk.injEq] at this
      obtain ⟨k1, r1, m1, s1⟩ := x
      obtain ⟨k2, r2, m2, s2⟩ := y
      simp only at hkey this
      obtain ⟨e1, e2, e3⟩ := this
      subst hkey e1 e2 e3
      rfl
    subst hxy
    have hab : a = b := lk_ext a2 b2 (fun z hz => ha z (by simp [hz])) (fun z hz => hb z (by simp [hz])) fun k => by
      by_cases hk : x.Key = k
      · rw [lk_none (fun z hz e => by
          have := a1 z hz
          unfold kLt at this
          rw [e, hk] at this
          exact rfl0 _ this), lk_none (fun z hz e => by
          have := b1 z hz
          unfold kLt at this
          rw [e, hk] at this
          exact rfl0 _ this)]
      · have := h k
        rwa [lk, lk, if_neg hk, if_neg hk] at this
    rw [hab]
theorem at_mid {α : Type} {A B : List α} {x : α} : at? (A ++ x :: B) (A.length : Int) = some x := at_of (by simp)
theorem set_mid {α : Type} {A B : List α} {x y : α} : (A ++ x :: B).set A.length y = A ++ y :: B := by
  rw [List.set_append_right _ _ (Nat.le_refl _)]; simp
def tNum (t : Ta) : Prop := -1000000000 ≤ t.Rows ∧ t.Rows ≤ 1000000000 ∧ -1000000000 ≤ t.Many ∧ t.Many ≤ 1000000000 ∧ -100000000000000 ≤ t.Sum ∧ t.Sum ≤ 100000000000000

theorem j4_nz {k1 : List Ta → Bool → Int → Ta → List Ta → Option (List Ta)} {t0 : List Ta} {b : Bool} {t12 : Int} {t x : Ta} {out : List Ta} : m_spec_l32Turn_j4 k1 t0 b t12 t x out = m_spec_l32Turn_j5 k1 t0 b t12 (nz x) t x out := by
  unfold m_spec_l32Turn_j4 nz
  rw [neB, neB, neB]
  cases h1 : decide (x.Rows = 0)
  · rw [Bool.not_false, cond_true]; rfl
  · rw [Bool.not_true, cond_false]
    cases h2 : decide (x.Many = 0)
    · rw [Bool.not_false, cond_true]; rfl
    · rw [Bool.not_true, cond_false]; simp
theorem E_l32_loop {l : List Ta} {t : Ta} (hl : l.length ≤ 100000) (hk : ks l) (hx : ∀ x ∈ l, rSm x.Key ∧ rowOk x.Key = true ∧ nz x = true ∧ tNum x) (ht : rSm t.Key ∧ rowOk t.Key = true ∧ tNum t) : ∀ (d k n : Nat) (out : List Ta), k + d = l.length → d < n → out.length ≤ k + 1 →
    ((∀ i x, k ≤ i → l[i]? = some x → 0 < rOrd x.Key t.Key) → m_spec_l32Turn_l1 n l true (k : Int) t out = some (out ++ l.drop k)) ∧ m_spec_l32Turn_l1 n l false (k : Int) t out = some (out ++ turnT (l.drop k) t) := by
  intro d
  induction d with
  | zero =>
    intro k n out hkd hn ho
    obtain ⟨n, rfl⟩ : ∃ q, n = q + 1 := ⟨n - 1, by omega⟩
    obtain rfl : k = l.length := by omega
    refine ⟨fun _ => ?_, ?_⟩
    · rw [m_spec_l32Turn_l1, dnlt, cond_false]
      unfold m_spec_l32Turn_j7 m_spec_l32Turn_j8
      rw [Bool.not_true, cond_false]; simp
    · rw [m_spec_l32Turn_l1, dnlt, cond_false]
      unfold m_spec_l32Turn_j7 m_spec_l32Turn_j8
      rw [Bool.not_false, cond_true, app_of (by rw [List.length_singleton]; omega), Option.bind_some]
      simp [turnT]
  | succ d ih =>
    intro k n out hkd hn ho
    obtain ⟨n, rfl⟩ : ∃ q, n = q + 1 := ⟨n - 1, by omega⟩
    have hlt : k < l.length := by omega
    have hg : l[k]? = some l[k] := List.getElem?_eq_getElem hlt
    obtain ⟨x1, x2, x3, x4⟩ := hx _ (List.mem_of_getElem? hg)
    obtain ⟨u1, u2, u3, u4, u5, u6⟩ := x4
    obtain ⟨w1, w2, w3, w4, w5, w6⟩ := ht.2.2
    have hd : l.drop k = l[k] :: l.drop (k + 1) := List.drop_eq_getElem_cons hlt
    have next : ∀ (b : Bool) (y : Ta) (out' : List Ta), m_spec_l32Turn_j5 (m_spec_l32Turn_l1 n) l b (k : Int) true t y out' = (app? out' [y]).bind fun x48 => m_spec_l32Turn_l1 n l b ((k + 1 : Nat) : Int) t x48 := by
      intro b y out'
      unfold m_spec_l32Turn_j5 m_spec_l32Turn_j6
      rw [cond_true, ck1 (by omega)]; rfl
    have skip : ∀ (b : Bool) (y : Ta) (out' : List Ta), m_spec_l32Turn_j5 (m_spec_l32Turn_l1 n) l b (k : Int) false t y out' = m_spec_l32Turn_l1 n l b ((k + 1 : Nat) : Int) t out' := by
      intro b y out'
      unfold m_spec_l32Turn_j5 m_spec_l32Turn_j6
      rw [cond_false, ck1 (by omega)]; rfl
    have head : ∀ b, m_spec_l32Turn_l1 (n + 1) l b (k : Int) t out = bif decide (rOrd l[k].Key t.Key > 0) then m_spec_l32Turn_j2 (m_spec_l32Turn_l1 n) l b (k : Int) (rOrd l[k].Key t.Key) (!b) t l[k] out else m_spec_l32Turn_j2 (m_spec_l32Turn_l1 n) l b (k : Int) (rOrd l[k].Key t.Key) false t l[k] out := by
      intro b
      rw [m_spec_l32Turn_l1, dlt hlt, cond_true, at_of hg, Option.bind_some]
      simp only [Go.Lift.lt]
      rw [E_spec_RowOrder x1 ht.1, Option.bind_some, rr_ok x2 ht.2.1]
    -- behind it: done
    have past : ∀ out' : List Ta, out'.length ≤ k + 1 + 1 → 0 < rOrd l[k].Key t.Key → (∀ i x, k + 1 ≤ i → l[i]? = some x → 0 < rOrd x.Key t.Key) → m_spec_l32Turn_j3 (m_spec_l32Turn_l1 n) l true (k : Int) (rOrd l[k].Key t.Key) t l[k] out' = some (out' ++ l[k] :: l.drop (k + 1)) ∨ out'.length = k + 2 := by
      intro out' h1 h2 h3
      by_cases h4 : out'.length = k + 2
      · exact .inr h4
      · left
        unfold m_spec_l32Turn_j3
        rw [beqF (by omega), cond_false, j4_nz, x3, next, app_of (by rw [List.length_singleton]; omega), Option.bind_some, (ih (k + 1) n _ (by omega) (by omega) (by rw [List.length_append, List.length_singleton]; omega)).1 h3]
        simp
    refine ⟨fun hpos => ?_, ?_⟩
    · have h0 := hpos k _ (Nat.le_refl _) hg
      rw [head true, decide_eq_true h0, cond_true]
      unfold m_spec_l32Turn_j2
      rw [Bool.not_true, cond_false, hd]
      rcases past out (by omega) h0 (fun i x hi hix => hpos i x (by omega) hix) with h | h
      · exact h
      · omega
    · rw [head false, hd, turnT]
      by_cases hpos : rOrd l[k].Key t.Key > 0
      · have hne : ¬ l[k].Key = t.Key := fun e => by have := (TO_row.eq0 l[k].Key t.Key).2 e; omega
        have hrest : ∀ i x, k + 1 ≤ i → l[i]? = some x → 0 < rOrd x.Key t.Key := by
          intro i x hi hix
          obtain ⟨g1, g2⟩ := List.getElem?_eq_some_iff.1 hix
          have := List.pairwise_iff_getElem.1 hk k i hlt g1 (by omega)
          rw [g2] at this
          unfold kLt at this
          have a1 := TO_row.anti t.Key l[k].Key
          have a2 := TO_row.anti t.Key x.Key
          exact a2.1 (TO_row.trans _ _ _ (a1.2 hpos) this)
        rw [decide_eq_true hpos, cond_true]
        unfold m_spec_l32Turn_j2
        rw [Bool.not_false, cond_true, app_of (by rw [List.length_singleton]; omega), Option.bind_some, if_neg (by omega), if_neg hne]
        unfold m_spec_l32Turn_j3
        rw [beqF (by omega), cond_false, j4_nz, x3, next, app_of (by rw [List.length_append, List.length_singleton, List.length_singleton]; omega), Option.bind_some]
        have hdone : ∀ (d' k' n' : Nat) (out' : List Ta), k' + d' = l.length → d' < n' → out'.length ≤ 100000 + k' → k + 1 ≤ k' → m_spec_l32Turn_l1 n' l true (k' : Int) t out' = some (out' ++ l.drop k') := by
          intro d'
          induction d' with
          | zero =>
            intro k' n' out' e1 e2 e3 e4
            obtain ⟨n', rfl⟩ : ∃ q, n' = q + 1 := ⟨n' - 1, by omega⟩
            obtain rfl : k' = l.length := by omega
            rw [m_spec_l32Turn_l1, dnlt, cond_false]
            unfold m_spec_l32Turn_j7 m_spec_l32Turn_j8
            rw [Bool.not_true, cond_false]; simp
          | succ d' ih' =>
            intro k' n' out' e1 e2 e3 e4
            obtain ⟨n', rfl⟩ : ∃ q, n' = q + 1 := ⟨n' - 1, by omega⟩
            have hlt' : k' < l.length := by omega
            have hg' : l[k']? = some l[k'] := List.getElem?_eq_getElem hlt'
            obtain ⟨y1, y2, y3, _⟩ := hx _ (List.mem_of_getElem? hg')
            have hp' := hrest k' _ e4 hg'
            rw [m_spec_l32Turn_l1, dlt hlt', cond_true, at_of hg', Option.bind_some]
            simp only [Go.Lift.lt]
            rw [E_spec_RowOrder y1 ht.1, Option.bind_some, rr_ok y2 ht.2.1, decide_eq_true hp', cond_true]
            unfold m_spec_l32Turn_j2
            rw [Bool.not_true, cond_false]
            unfold m_spec_l32Turn_j3
            rw [beqF (by omega), cond_false, j4_nz, y3]
            unfold m_spec_l32Turn_j5 m_spec_l32Turn_j6
            rw [cond_true, app_of (by rw [List.length_singleton]; omega), Option.bind_some, ck1 (by omega), Option.bind_some, show ((k' : Int) + 1) = ((k' + 1 : Nat) : Int) by omega, ih' (k' + 1) n' _ (by omega) (by omega) (by rw [List.length_append, List.length_singleton]; omega) (by omega), List.drop_eq_getElem_cons hlt']
            simp
        rw [hdone d (k + 1) n _ (by omega) (by omega) (by rw [List.length_append, List.length_append, List.length_singleton, List.length_singleton]; omega) (Nat.le_refl _)]
        simp
      · rw [decide_eq_false hpos, cond_false]
        unfold m_spec_l32Turn_j2
        rw [cond_false]
        unfold m_spec_l32Turn_j3
        by_cases h0 : rOrd l[k].Key t.Key = 0
        · have he : l[k].Key = t.Key := (TO_row.eq0 _ _).1 h0
          rw [if_neg (by omega), if_pos he, h0, show ((0 : Int) == 0) = true from rfl, cond_true]
          simp only [Go.Lift.lt]
          rw [ckI_of (by omega) (by omega), Option.bind_some, ckI_of (by omega) (by omega), Option.bind_some, ckI_of (by omega) (by omega), Option.bind_some, j4_nz]
          have hrest : ∀ i x, k + 1 ≤ i → l[i]? = some x → 0 < rOrd x.Key t.Key := by
            intro i x hi hix
            obtain ⟨g1, g2⟩ := List.getElem?_eq_some_iff.1 hix
            have := List.pairwise_iff_getElem.1 hk k i hlt g1 (by omega)
            rw [g2] at this
            unfold kLt at this
            rw [he] at this
            exact (TO_row.anti t.Key x.Key).1 this
          show m_spec_l32Turn_j5 (m_spec_l32Turn_l1 n) l true (k : Int) (nz (addT l[k] t)) t (addT l[k] t) out = _
          cases hz : nz (addT l[k] t) with
          | true =>
            rw [next, app_of (by rw [List.length_singleton]; omega), Option.bind_some, (ih (k + 1) n _ (by omega) (by omega) (by rw [List.length_append, List.length_singleton]; omega)).1 hrest, if_pos rfl]
            simp
          | false =>
            rw [skip, (ih (k + 1) n _ (by omega) (by omega) (by omega)).1 hrest, if_neg (by simp)]
        · rw [beqF h0, cond_false, j4_nz, x3, next, app_of (by rw [List.length_singleton]; omega), Option.bind_some, (ih (k + 1) n _ (by omega) (by omega) (by rw [List.length_append, List.length_singleton]; omega)).2, if_pos (by omega)]
          simp
theorem dT_num {a b : V} {m : Int} (hm : -1000 ≤ m ∧ m ≤ 1000) (hb : -10000 ≤ b.N ∧ b.N ≤ 10000) : tNum (dT [a, b] m) := by
  have h1 : -10000000 ≤ m * b.N ∧ m * b.N ≤ 10000000 := by
    have e1 : (m * b.N).natAbs = m.natAbs * b.N.natAbs := Int.natAbs_mul _ _
    have e2 : m.natAbs * b.N.natAbs ≤ 1000 * 10000 := Nat.mul_le_mul (by omega) (by omega)
    omega
  have e : ([a, b] : Row).getD 1 v0 = b := rfl
  unfold dT tNum
  rw [e]
  split <;> refine ⟨?_, ?_, ?_, ?_, ?_, ?_⟩ <;> simp only <;> omega
theorem E_l32Turn {l : List Ta} {a b : V} {m : Int} (hl : l.length ≤ 100000) (hk : ks l) (hx : ∀ x ∈ l, rSm x.Key ∧ rowOk x.Key = true ∧ nz x = true ∧ tNum x) (ha : rSm [a]) (ha2 : rowOk [a] = true) (hm : -1000 ≤ m ∧ m ≤ 1000) (hb : -10000 ≤ b.N ∧ b.N ≤ 10000) :
    m_spec_l32Turn l a b m = some (turnT l (dT [a, b] m)) := by
  have hd := dT_num (a := a) hm hb
  have h1 : -10000000 ≤ m * b.N ∧ m * b.N ≤ 10000000 := by
    have e1 : (m * b.N).natAbs = m.natAbs * b.N.natAbs := Int.natAbs_mul _ _
    have e2 : m.natAbs * b.N.natAbs ≤ 1000 * 10000 := Nat.mul_le_mul (by omega) (by omega)
    omega
  have e : ([a, b] : Row).getD 1 v0 = b := rfl
  have loop : ∀ t : Ta, t.Key = [a] → tNum t → m_spec_l32Turn_j1 l t = some (turnT l t) := by
    intro t ht hn
    unfold m_spec_l32Turn_j1
    have := (E_l32_loop hl hk hx ⟨ht ▸ ha, ht ▸ ha2, hn⟩ l.length 0 (((l.length : Int) - 0).toNat + 1) [] (by omega) (by omega) (by simp)).2
    simpa using this
  unfold m_spec_l32Turn
  simp only [Go.Lift.lt]
  unfold dT at hd ⊢
  rw [e] at hd ⊢
  by_cases hk1 : b.Kind = 1
  · rw [if_pos hk1] at hd ⊢
    rw [hk1, show ((1 : Int) == 1) = true from rfl, cond_true, ckI_of (by omega) (by omega), Option.bind_some]
    exact loop _ rfl hd
  · rw [if_neg hk1] at hd ⊢
    rw [beqF hk1, cond_false]
    exact loop _ rfl hd
theorem tell_j1 {A B : List Ta} {x : Ta} {a b : V} {m : Int} (hl : (A ++ x :: B).length ≤ 1000000) (hn : tNum x) (hm : -1000 ≤ m ∧ m ≤ 1000) (hb : -10000 ≤ b.N ∧ b.N ≤ 10000) :
    m_impl_tell_j1 [a, b] m (A.length : Int) (A ++ x :: B) = some (A ++ (if nz (addT x (dT [a, b] m)) then addT x (dT [a, b] m) :: B else B)) := by
  have h1 : -10000000 ≤ m * b.N ∧ m * b.N ≤ 10000000 := by
    have e1 : (m * b.N).natAbs = m.natAbs * b.N.natAbs := Int.natAbs_mul _ _
    have e2 : m.natAbs * b.N.natAbs ≤ 1000 * 10000 := Nat.mul_le_mul (by omega) (by omega)
    omega
  obtain ⟨n1, n2, n3, n4, n5, n6⟩ := hn
  have ll : A.length ≤ 1000000 := by simp at hl; omega
  have e : ([a, b] : Row).getD 1 v0 = b := rfl
  have j2 : ∀ y : Ta, m_impl_tell_j2 (A.length : Int) (A.length : Int) (A ++ y :: B) = some (A ++ (if nz y then y :: B else B)) := by
    intro y
    have j3 : ∀ b', m_impl_tell_j3 (A.length : Int) b' (A ++ y :: B) = some (A ++ (if !b' then y :: B else B)) := by
      intro b'
      unfold m_impl_tell_j3 m_impl_tell_j4
      cases b' with
      | true =>
        have hl2 : (A ++ y :: B).length ≤ 1000000 := by simp at hl ⊢; omega
        rw [cond_true, ck1 (by omega), Option.bind_some]
        unfold m_slices_Delete_Limpl_Tally_impl_Tally
        rw [if_pos (by simp at hl2 ⊢; omega), Option.bind_some, if_neg (by simp)]
        congr 1
        rw [Int.toNat_natCast, show ((A.length : Int) + 1).toNat = A.length + 1 by omega]
        simp
      | false =>
        rw [cond_false, if_pos (by simp)]
    unfold m_impl_tell_j2 nz
    rw [at_mid, Option.bind_some, Option.bind_some, Option.bind_some]
    simp only [j3]
    by_cases g1 : y.Rows = 0
    · rw [g1, show ((0 : Int) == 0) = true from rfl, cond_true]
      by_cases g2 : y.Many = 0
      · rw [g2, show ((0 : Int) == 0) = true from rfl, cond_true]
        by_cases g3 : y.Sum = 0
        · rw [g3]; simp
        · rw [beqF g3]; simp [g3]
      · rw [beqF g2, cond_false]; simp [g2]
    · rw [beqF g1, cond_false]; simp [g1]
  have a1 : at? ([a, b] : Row) (1 : Int) = some b := rfl
  unfold m_impl_tell_j1
  rw [at_mid]
  simp only [Option.bind_some, a1, Go.Lift.lt, Int.toNat_natCast, set_mid, at_mid]
  rw [ckI_of (by omega) (by omega)]
  simp only [Option.bind_some, set_mid, at_mid]
  unfold dT
  rw [e]
  by_cases hk : b.Kind = 1
  · rw [hk, show ((1 : Int) == 1) = true from rfl, cond_true, ckI_of (by omega) (by omega)]
    simp only [Option.bind_some, set_mid, at_mid]
    rw [ckI_of (x := m * b.N) (by omega) (by omega)]
    simp only [Option.bind_some, set_mid, at_mid]
    rw [ckI_of (by omega) (by omega)]
    simp only [Option.bind_some, set_mid, at_mid]
    rw [j2, if_pos trivial]
    rfl
  · rw [beqF hk, cond_false, j2, if_neg hk]
    simp only [addT, Int.add_zero]
theorem E_tell {l : List Ta} {a b : V} {m : Int} (hl : l.length ≤ 100000) (hk : ks l) (hx : ∀ x ∈ l, rSm x.Key ∧ tNum x) (hm : -1000 ≤ m ∧ m ≤ 1000) (hm0 : m ≠ 0) (hb : -10000 ≤ b.N ∧ b.N ≤ 10000) :
    m_impl_tell l [a, b] m = some (turnT l (dT [a, b] m)) := by
  have hcut : cut? ([a, b] : Row) 0 1 = some [a] := rfl
  have hkey : (dT [a, b] m).Key = [a] := (dT_key _ _).1
  obtain ⟨A, B, rfl, hA, hB⟩ := ks_split hk [a]
  unfold m_impl_tell
  rw [hcut, Option.bind_some, L_slices_BinarySearchFunc_Limpl_Tally_impl_Tally_Limpl_Value (q := fun x => rOrd x.Key [a]) (by omega) (fun x hx' => by
    unfold m_impl_tell_1
    rw [E_rowOrder (by have := (hx x hx').1.1; omega)]; rfl) A.length (by simp) (fun i x hi hix => hA x (by
    rw [List.getElem?_append_left hi] at hix; exact List.mem_of_getElem? hix)) (fun i x hi hix => hB x (by
    rw [List.getElem?_append_right hi] at hix; exact List.mem_of_getElem? hix)), Option.bind_some]
  rw [turnT_split (fun x hx' => by rw [hkey]; exact hA x hx')]
  have notfound : (∀ x t, B = x :: t → ¬ x.Key = [a]) → (m_slices_Insert_Limpl_Tally_impl_Tally (A ++ B) (A.length : Int) [⟨[a], 0, 0, 0⟩]).bind (fun x10 => m_impl_tell_j1 [a, b] m (A.length : Int) x10) = some (A ++ turnT B (dT [a, b] m)) := by
    intro hne
    unfold m_slices_Insert_Limpl_Tally_impl_Tally
    simp only
    rw [if_pos (by simp at hl ⊢; omega), Option.bind_some, Int.toNat_natCast]
    have e1 : (A ++ B).take A.length ++ (⟨[a], 0, 0, 0⟩ : Ta) :: (A ++ B).drop A.length = A ++ (⟨[a], 0, 0, 0⟩ : Ta) :: B := by simp
    rw [e1, tell_j1 (by simp at hl ⊢; omega) (by unfold tNum; refine ⟨?_, ?_, ?_, ?_, ?_, ?_⟩ <;> simp only <;> omega) hm hb]
    have e2 : addT ⟨[a], 0, 0, 0⟩ (dT [a, b] m) = dT [a, b] m := by
      unfold addT
      have : (dT [a, b] m) = ⟨(dT [a, b] m).Key, (dT [a, b] m).Rows, (dT [a, b] m).Many, (dT [a, b] m).Sum⟩ := rfl
      rw [this, hkey]
      simp
    have e3 : nz (dT [a, b] m) = true := by
      unfold nz
      rw [(dT_key _ _).2, decide_eq_false hm0]; rfl
    rw [e2, if_pos e3]
    congr 2
    cases B with
    | nil => rfl
    | cons x t =>
      have h1 := hB x (by simp)
      have h2 := hne x t rfl
      rw [turnT, hkey, if_neg h1, if_neg h2]
  cases B with
  | nil =>
    have e0 : (A ++ ([] : List Ta))[A.length]? = none := by simp
    rw [e0]
    simp only
    rw [Bool.not_false, cond_true, Option.bind_some, E_clone (by simp), Option.bind_some]
    exact notfound (fun x t h => by cases h)
  | cons x t =>
    have e0 : (A ++ x :: t)[A.length]? = some x := by simp
    rw [e0]
    simp only
    by_cases he : x.Key = [a]
    · rw [he, (TO_row.eq0 [a] [a]).2 rfl, show ((0 : Int) == 0) = true from rfl, Bool.not_true, cond_false, tell_j1 (by omega) (hx x (by simp)).2 hm hb, turnT, hkey, if_neg (hB x (by simp)), if_pos he]
    · have : ¬ rOrd x.Key [a] = 0 := fun h => he ((TO_row.eq0 _ _).1 h)
      rw [beqF this, Bool.not_false, cond_true, Option.bind_some, E_clone (by simp), Option.bind_some]
      exact notfound (fun y s h => by cases h; exact he)
def numK (v : V) : Bool := decide (v.Kind = 1) || decide (v.Kind = 0)
def counted (r : Row) : Bool := decide (r.length = 2) && (rowOk r && numK (r.getD 1 v0))
theorem eqB (a b : Int) : (a == b) = decide (a = b) := by by_cases h : a = b <;> simp [h]
theorem eqN (a b : Nat) : (((a : Nat) : Int) == ((b : Nat) : Int)) = decide (a = b) := by rw [eqB]; rw [decide_eq_decide]; omega
theorem two {r : Row} (h : r.length = 2) : ∃ a b, r = [a, b] := by
  match r, h with
  | [a, b], _ => exact ⟨a, b, rfl⟩
theorem E_impl_counted {r : Row} (h : rSm r) : m_impl_counted r = some (counted r) := by
  unfold m_impl_counted m_impl_counted_j1 counted numK
  rw [show (2 : Int) = ((2 : Nat) : Int) from rfl, eqN]
  by_cases hl : r.length = 2
  · obtain ⟨a, b, rfl⟩ := two hl
    rw [decide_eq_true hl, cond_true, E_impl_RowOk h, Option.bind_some]
    cases rowOk [a, b]
    · rfl
    · have a1 : at? ([a, b] : Row) (1 : Int) = some b := rfl
      rw [cond_true, a1, Option.bind_some, Option.bind_some]
      have e : ([a, b] : Row).getD 1 v0 = b := rfl
      rw [e, eqB, eqB]
      cases decide (b.Kind = 1) <;> rfl
  · rw [decide_eq_false hl]; rfl
theorem E_spec_l32Row {r : Row} (h : rSm r) : m_spec_l32Row r = some (counted r) := by
  unfold m_spec_l32Row m_spec_l32Row_j1 counted numK
  rw [E_spec_RowOk h, Option.bind_some, show (2 : Int) = ((2 : Nat) : Int) from rfl, eqN]
  cases hok : rowOk r
  · rw [cond_false]; simp
  rw [cond_true]
  by_cases hl : r.length = 2
  · obtain ⟨a, b, rfl⟩ := two hl
    have a1 : at? ([a, b] : Row) (1 : Int) = some b := rfl
    rw [decide_eq_true hl, cond_true, a1, Option.bind_some, Option.bind_some]
    have e : ([a, b] : Row).getD 1 v0 = b := rfl
    rw [e, eqB, eqB]
    cases decide (b.Kind = 1) <;> rfl
  · rw [decide_eq_false hl]; rfl
theorem vok_b {v : V} (h : vOk v = true) : v.S.size ≤ 6 ∧ -9999 ≤ v.N ∧ v.N ≤ 9999 := by
  have e0 : (⟨#[]⟩ : ByteArray).size = 0 := rfl
  unfold vOk at h
  by_cases h0 : v.Kind = 0
  · rw [if_pos h0, decide_eq_true_eq] at h
    rw [h]
    exact ⟨by show (0 : Nat) ≤ 6; omega, by show (-9999 : Int) ≤ 0; omega, by show (0 : Int) ≤ 9999; omega⟩
  rw [if_neg h0] at h
  by_cases h1 : v.Kind = 1
  · rw [if_pos h1, Bool.and_eq_true, Bool.and_eq_true, decide_eq_true_eq, decide_eq_true_eq, decide_eq_true_eq] at h
    refine ⟨by rw [h.1, e0]; omega, h.2.1, h.2.2⟩
  rw [if_neg h1] at h
  by_cases h2 : v.Kind = 2
  · rw [if_pos h2, Bool.and_eq_true, Bool.and_eq_true, decide_eq_true_eq, decide_eq_true_eq] at h
    exact ⟨h.1.2, by omega, by omega⟩
  rw [if_neg h2] at h
  by_cases h3 : v.Kind = 3
  · rw [if_pos h3, Bool.and_eq_true, Bool.and_eq_true, decide_eq_true_eq, decide_eq_true_eq, decide_eq_true_eq] at h
    exact ⟨by rw [h.1, e0]; omega, by omega, by omega⟩
  rw [if_neg h3] at h
  cases h
theorem rowOk_b {r : Row} (h : rowOk r = true) : r.length ≤ 4 ∧ ∀ v ∈ r, vOk v = true := by
  unfold rowOk at h
  rw [Bool.and_eq_true, decide_eq_true_eq, List.all_eq_true] at h
  exact h
theorem ok_sm {r : Row} (h : rowOk r = true) : rSm r := by
  obtain ⟨h1, h2⟩ := rowOk_b h
  refine ⟨by omega, fun v hv => ?_⟩
  have := (vok_b (h2 v hv)).1
  unfold vSm; omega
/-- A tally that is one, but for how many rows there may be. -/
def tOkW (t : Ta) : Prop := t.Key.length = 1 ∧ rowOk t.Key = true ∧ 1 ≤ t.Rows ∧ 0 ≤ t.Many ∧ t.Many ≤ t.Rows ∧ -9999 * t.Many ≤ t.Sum ∧ t.Sum ≤ 9999 * t.Many
theorem tOkW_nz {t : Ta} (h : tOkW t) : nz t = true := by
  unfold nz
  rw [decide_eq_false (by have := h.2.2.1; omega)]; rfl
theorem tOkW_num {t : Ta} (h : tOkW t) (hr : t.Rows ≤ 1000) : tNum t := by
  obtain ⟨h1, h2, h3, h4, h5, h6, h7⟩ := h
  unfold tNum
  omega
theorem dT_ok {a b : V} (ha : rowOk [a, b] = true) (hb : numK b = true) : tOkW (dT [a, b] 1) := by
  have h := (rowOk_b ha).2
  have hva := h a (by simp)
  have hvb := vok_b (h b (by simp))
  have ka : rowOk [a] = true := by unfold rowOk; simp [hva]
  have e : ([a, b] : Row).getD 1 v0 = b := rfl
  unfold dT tOkW
  rw [e]
  split
  · exact ⟨rfl, ka, by simp only; omega, by simp only; omega, by simp only; omega, by simp only; omega, by simp only; omega⟩
  · exact ⟨rfl, ka, by simp only; omega, by simp only; omega, by simp only; omega, by simp only; omega, by simp only; omega⟩
theorem addT_ok {x t : Ta} (hx : tOkW x) (ht : tOkW t) : tOkW (addT x t) := by
  obtain ⟨h1, h2, h3, h4, h5, h6, h7⟩ := hx
  obtain ⟨g1, g2, g3, g4, g5, g6, g7⟩ := ht
  unfold addT tOkW
  exact ⟨h1, h2, by simp only; omega, by simp only; omega, by simp only; omega, by simp only; omega, by simp only; omega⟩
def rsum (l : List Ta) : Int := (l.map (·.Rows)).sum
theorem rsum_cons (x : Ta) (l : List Ta) : rsum (x :: l) = x.Rows + rsum l := by simp [rsum]
theorem rsum_turn (l : List Ta) (t : Ta) : rsum (turnT l t) = rsum l + t.Rows := by
  induction l with
  | nil => simp [turnT, rsum]
  | cons x l ih =>
    rw [turnT]
    split
    · rw [rsum_cons, rsum_cons, ih]; omega
    · split
      · split
        · rw [rsum_cons, rsum_cons]; simp only [addT]; omega
        · rename_i hz
          have := nz_false hz
          simp only [t3, addT, Prod.mk.injEq] at this
          rw [rsum_cons]; omega
      · rw [rsum_cons, rsum_cons]; omega
theorem rsum_ge {l : List Ta} (h : ∀ x ∈ l, tOkW x) : 0 ≤ rsum l ∧ ∀ x ∈ l, x.Rows ≤ rsum l := by
  induction l with
  | nil => exact ⟨by simp [rsum], by simp⟩
  | cons y l ih =>
    obtain ⟨h1, h2⟩ := ih fun x hx => h x (by simp [hx])
    have hy := (h y (by simp)).2.2.1
    rw [rsum_cons]
    refine ⟨by omega, fun x hx => ?_⟩
    rcases List.mem_cons.1 hx with rfl | hx
    · omega
    · have := h2 x hx; omega
theorem rsum_len {l : List Ta} (h : ∀ x ∈ l, tOkW x) : (l.length : Int) ≤ rsum l := by
  induction l with
  | nil => simp [rsum]
  | cons y l ih =>
    have := ih fun x hx => h x (by simp [hx])
    have hy := (h y (by simp)).2.2.1
    rw [rsum_cons, List.length_cons]
    omega
def tallOf (rs : Rows) : List Ta := rs.foldl (fun l r => turnT l (dT r 1)) []
structure TInv (n : Nat) (l : List Ta) : Prop where
  ks : ks l
  ok : ∀ x ∈ l, tOkW x
  sum : rsum l = n
theorem TInv.turn {n : Nat} {l : List Ta} {a b : V} (h : TInv n l) (ha : rowOk [a, b] = true) (hb : numK b = true) : TInv (n + 1) (turnT l (dT [a, b] 1)) where
  ks := turnT_ks h.ks
  ok := fun x hx => by
    rcases turnT_mem hx with hx | rfl | ⟨y, hy, _, rfl⟩
    · exact h.ok x hx
    · exact dT_ok ha hb
    · exact addT_ok (h.ok y hy) (dT_ok ha hb)
  sum := by rw [rsum_turn, h.sum, (dT_key _ _).2]; omega
theorem TInv.num {n : Nat} {l : List Ta} (h : TInv n l) (hn : n ≤ 1000) : l.length ≤ 1000 ∧ ∀ x ∈ l, rSm x.Key ∧ rowOk x.Key = true ∧ nz x = true ∧ tNum x := by
  have h1 := rsum_len h.ok
  have h2 := (rsum_ge h.ok).2
  rw [h.sum] at h1 h2
  refine ⟨by omega, fun x hx => ?_⟩
  have hk := h.ok x hx
  exact ⟨ok_sm hk.2.1, hk.2.1, tOkW_nz hk, tOkW_num hk (by have := h2 x hx; omega)⟩
theorem counted_b {r : Row} (h : counted r = true) : ∃ a b, r = [a, b] ∧ rowOk [a, b] = true ∧ numK b = true ∧ rSm [a] ∧ rowOk [a] = true ∧ -10000 ≤ b.N ∧ b.N ≤ 10000 := by
  unfold counted at h
  simp only [Bool.and_eq_true, decide_eq_true_eq] at h
  obtain ⟨h1, h2, h3⟩ := h
  obtain ⟨a, b, rfl⟩ := two h1
  have h4 := (rowOk_b h2).2
  have ka : rowOk [a] = true := by unfold rowOk; simp [h4 a (by simp)]
  have hb := vok_b (h4 b (by simp))
  exact ⟨a, b, rfl, h2, h3, ok_sm ka, ka, by omega, by omega⟩
theorem E_tallies {l : List Ta} (hl : l.length ≤ 1000000) (hk : ∀ x ∈ l, x.Key.length ≤ 1000000) : m_impl_tallies l = some l := by
  unfold m_impl_tallies
  have := (scanF (f := fun (s : List Ta) x => s ++ [x]) (J := fun s => some s) (fun k s => s.length = k) l (fun n k s => m_impl_tallies_l1 n l (l.length : Int) k s) (fun n k x s hx hI => by
    have := lt_of_at hx
    rw [m_impl_tallies_l1, dlt this, cond_true, at_of hx, Option.bind_some]
    simp only [Go.Lift.lt]
    rw [E_clone (hk x (List.mem_of_getElem? hx)), Option.bind_some, app_of (by simp; omega), Option.bind_some, ck1 (show k < 1000000000000 by omega), Option.bind_some]
    exact ⟨rfl, by simp [hI]⟩) (fun n s _ => by
      rw [m_impl_tallies_l1, dnlt, cond_false]
      unfold m_impl_tallies_j1
      rfl) _ fuel0 [] rfl).1
  rw [this, foldl_snoc]; rfl
def talliesOf (rs : Rows) : List Ta := if rs.length ≤ 100 ∧ rs.all counted = true then tallOf rs else []
theorem TInv.nil : TInv 0 [] where
  ks := List.Pairwise.nil
  ok := by simp
  sum := rfl
theorem tallOf_inv {rs : Rows} (h : rs.all counted = true) : TInv rs.length (tallOf rs) := by
  have key : ∀ (l : Rows) (s : List Ta) (n : Nat), l.all counted = true → TInv n s → TInv (n + l.length) (l.foldl (fun l r => turnT l (dT r 1)) s) := by
    intro l
    induction l with
    | nil => intro s n _ h; exact h
    | cons r l ih =>
      intro s n hc hI
      rw [List.all_cons, Bool.and_eq_true] at hc
      obtain ⟨a, b, rfl, h1, h2, _⟩ := counted_b hc.1
      have := ih _ (n + 1) hc.2 (hI.turn h1 h2)
      rw [List.foldl_cons, List.length_cons, show n + (l.length + 1) = n + 1 + l.length by omega]
      exact this
  have := key rs [] 0 h TInv.nil
  rwa [Nat.zero_add] at this
theorem E_sameTallies {a b : List Ta} (hl : a.length ≤ 1000000) (hk : ∀ x ∈ a, x.Key.length ≤ 1000000) : m_laws_sameTallies a b = some (decide (a = b)) := by
  unfold m_laws_sameTallies
  rw [neN]
  by_cases h : a.length = b.length
  · rw [decide_eq_true h, Bool.not_true, cond_false, ← all2_eq h]
    refine scan2 (q := fun x y => decide (x = y)) a b h (fun n k => m_laws_sameTallies_l1 n a b k) (fun n k x y hx hy => ?_) (fun n => by rw [m_laws_sameTallies_l1, dnlt, cond_false]; rfl) _ fuel0
    have hlt := lt_of_at hx
    rw [m_laws_sameTallies_l1, dlt hlt, cond_true, at_of hx, at_of hy]
    simp only [Option.bind_some]
    rw [E_sameRow (hk x (List.mem_of_getElem? hx)), Option.bind_some, neB, neB, neB]
    unfold m_laws_sameTallies_j1
    rw [ck1 (by omega), Option.bind_some]
    have e : decide (x = y) = (decide (x.Rows = y.Rows) && (decide (x.Many = y.Many) && (decide (x.Sum = y.Sum) && decide (x.Key = y.Key)))) := by
      obtain ⟨k1, r1, m1, s1⟩ := x
      obtain ⟨k2, r2, m2, s2⟩ := y
      rw [Bool.eq_iff_iff]
      simp only [S_impl_Tally.mk.injEq, decide_eq_true_eq, Bool.and_eq_true]
      constructor
      · rintro ⟨h1, h2, h3, h4⟩; exact ⟨h2, h3, h4, h1⟩
      · rintro ⟨h2, h3, h4, h1⟩; exact ⟨h1, h2, h3, h4⟩
    rw [e]
    cases decide (x.Rows = y.Rows)
    · rw [Bool.not_false, cond_true, cond_true, Bool.false_and, cond_false]
    rw [Bool.not_true, cond_false]
    cases decide (x.Many = y.Many)
    · rw [Bool.not_false, cond_true, cond_true, Bool.false_and, Bool.and_false, cond_false]
    rw [Bool.not_true, cond_false]
    cases decide (x.Sum = y.Sum)
    · rw [Bool.not_false, cond_true, cond_true, Bool.false_and, Bool.and_false, Bool.and_false, cond_false]
    rw [Bool.not_true, cond_false]
    cases decide (x.Key = y.Key)
    · rw [Bool.not_false, cond_true]; simp
    · rw [Bool.not_true, cond_false]; simp
  · rw [decide_eq_false h, Bool.not_false, cond_true]
    have : a ≠ b := fun e => h (by rw [e])
    simp [this]
def tOk (t : Ta) : Bool := decide (t.Key.length = 1) && (rowOk t.Key && ((decide (1 ≤ t.Rows) && decide (t.Rows ≤ 100)) && ((decide (0 ≤ t.Many) && decide (t.Many ≤ t.Rows)) && (decide (-9999 * t.Many ≤ t.Sum) && decide (t.Sum ≤ 9999 * t.Many)))))
theorem E_Tally_ok {t : Ta} (hk : rSm t.Key) (hn : -1000000000 ≤ t.Many ∧ t.Many ≤ 1000000000) : m_impl_Tally_ok t = some (tOk t) := by
  unfold m_impl_Tally_ok m_impl_Tally_ok_j1 tOk
  rw [show (1 : Int) = ((1 : Nat) : Int) from rfl, eqN]
  cases decide (t.Key.length = 1)
  · rfl
  rw [cond_true, E_impl_RowOk hk, Option.bind_some]
  cases rowOk t.Key
  · rfl
  rw [cond_true, E_between, Option.bind_some, show ((1 : Nat) : Int) = 1 from rfl]
  cases decide (1 ≤ t.Rows) && decide (t.Rows ≤ 100)
  · rfl
  rw [cond_true, E_between, Option.bind_some]
  cases decide (0 ≤ t.Many) && decide (t.Many ≤ t.Rows)
  · rfl
  rw [cond_true, ckI_of (by omega) (by omega), Option.bind_some, ckI_of (by omega) (by omega), Option.bind_some, E_between, Option.bind_some]
  rfl
theorem T_l20Twos {o : Rd} {n : Int} (ho : 0 ≤ o.p ∧ o.p ≤ 1000000000 - 100000) (hn : -1000000 ≤ n ∧ n ≤ 1000000) : Tot (m_spec_l20Twos o n) fun r => rsDr 12 r.1 ∧ o.p ≤ r.2.p ∧ r.2.p ≤ o.p + 2000 := by
  have j1 : ∀ (q : Rd) (c : List Col), o.p ≤ q.p → q.p ≤ o.p + 10 → c.length = 2 → Tot (m_spec_l20Twos_j1 n q c) fun r => rsDr 12 r.1 ∧ o.p ≤ r.2.p ∧ r.2.p ≤ o.p + 2000 := by
    intro q c h1 h2 hc
    unfold m_spec_l20Twos_j1
    refine Tot.bind (T_l20Bag (by omega) hn (by omega)) fun a ha => Tot.bind (T_l20Bag (by omega) hn (by omega)) fun b hb => Tot.app (by have := ha.1.1; have := hb.1.1; omega) (Tot.ret ⟨⟨?_, ?_⟩, by show o.p ≤ b.2.p; omega, by show b.2.p ≤ o.p + 2000; omega⟩)
    · have := ha.1.1; have := hb.1.1
      simp; omega
    · intro r hr
      rcases List.mem_append.1 hr with hr | hr
      · exact ha.1.2 r hr
      · exact hb.1.2 r hr
  unfold m_spec_l20Twos
  refine Tot.lt (Tot.bind (T_pick (by omega)) fun p hp => Tot.bif (fun _ => ?_) (fun _ => j1 _ _ (by omega) (by omega) rfl))
  exact Tot.at (by omega) (by simp) fun _ _ => Tot.at (by omega) (by simp) fun _ _ => Tot.lt (j1 _ _ (by omega) (by omega) rfl)
abbrev Ver := S_impl_Version
abbrev Wr := S_impl_Write
def keyB (n : Int) : Bool := decide (0 ≤ n) && decide (n ≤ 4)
def vb (v : Ver) : Bool := keyB v.Key && ((decide (1 ≤ v.Born) && decide (v.Born ≤ 40)) && ((decide (v.Died = 0) || (decide (v.Born + 1 ≤ v.Died) && decide (v.Died ≤ 40))) && rowOk v.Row))
def vbad (w v : Ver) : Bool := decide (w.Key > v.Key) || (decide (w.Key = v.Key) && (decide (w.Died = 0) || decide (w.Died > v.Born)))
theorem vb_nums {v : Ver} (h : vb v = true) : 0 ≤ v.Key ∧ v.Key ≤ 4 ∧ 1 ≤ v.Born ∧ v.Born ≤ 40 ∧ (v.Died = 0 ∨ (v.Born + 1 ≤ v.Died ∧ v.Died ≤ 40)) ∧ rowOk v.Row = true := by
  unfold vb keyB at h
  simp only [Bool.and_eq_true, Bool.or_eq_true, decide_eq_true_eq] at h
  exact ⟨h.1.1, h.1.2, h.2.1.1, h.2.1.2, h.2.2.1, h.2.2.2⟩
def wb (w : Wr) : Bool := keyB w.Key && (rowOk w.Row && !(w.Gone && decide ((w.Row.length : Int) > 0)))
def wbad (x w : Wr) : Bool := decide (x.Key ≥ w.Key)
def wOk (l : List Wr) : Bool := l.all wb && adjB wbad l
def endV (k t : Int) (v : Ver) : Ver := if v.Key = k ∧ v.Died = 0 then { v with Died := t } else v
def newV (w : Wr) (t : Int) : Ver := ⟨w.Key, t, 0, w.Row⟩
def insW (w : Wr) (t : Int) : List Ver → List Ver
  | [] => [newV w t]
  | v :: l => if v.Key > w.Key then newV w t :: endV w.Key t v :: l.map (endV w.Key t) else endV w.Key t v :: insW w t l
def put1 (l : List Ver) (w : Wr) (t : Int) : List Ver := if w.Gone then l.map (endV w.Key t) else insW w t l
def step1 (o : List Ver) (w : Wr) (t : Int) : List Ver := if w.Gone then o.map (endV w.Key t) else o.map (endV w.Key t) ++ [newV w t]
theorem endV_row (k t : Int) (v : Ver) : (endV k t v).Row = v.Row ∧ (endV k t v).Key = v.Key ∧ (endV k t v).Born = v.Born := by unfold endV; split <;> exact ⟨rfl, rfl, rfl⟩
theorem insW_perm (w : Wr) (t : Int) : ∀ l : List Ver, (insW w t l).Perm (l.map (endV w.Key t) ++ [newV w t])
  | [] => .refl _
  | v :: l => by
    rw [insW]
    split
    · exact (List.perm_append_comm (l₁ := [newV w t]) (l₂ := endV w.Key t v :: l.map (endV w.Key t)))
    · exact (insW_perm w t l).cons _
theorem put1_perm (l : List Ver) (w : Wr) (t : Int) : (put1 l w t).Perm (step1 l w t) := by
  unfold put1 step1; split
  · exact .refl _
  · exact insW_perm w t l
theorem vbad_iff {x y : Ver} : vbad x y = false ↔ x.Key < y.Key ∨ (x.Key = y.Key ∧ x.Died ≠ 0 ∧ x.Died ≤ y.Born) := by
  unfold vbad
  simp only [Bool.or_eq_false_iff, Bool.and_eq_false_iff, decide_eq_false_iff_not]
  omega
structure VInv (o : List Ver) : Prop where
  vb : ∀ v ∈ o, vb v = true
  ord : OrdB vbad o
def turnsB4 (o : List Ver) (w : Wr) (t : Int) : Prop := ∀ v ∈ o, v.Key = w.Key → v.Born < t ∧ v.Died ≤ t
theorem endV_bad {k t : Int} {x y : Ver} (h : vbad x y = false) : vbad (endV k t x) (endV k t y) = false := by
  obtain ⟨_, a1, a2⟩ := endV_row k t x
  obtain ⟨_, b1, b2⟩ := endV_row k t y
  rw [vbad_iff] at *
  rw [a1, b1, b2]
  rcases h with h | ⟨h1, h2, h3⟩
  · exact .inl h
  · refine .inr ⟨h1, ?_⟩
    have : endV k t x = x := by unfold endV; rw [if_neg (fun h => h2 h.2)]
    rw [this]; exact ⟨h2, h3⟩
theorem map_end_ord {k t : Int} {o : List Ver} (h : OrdB vbad o) : OrdB vbad (o.map (endV k t)) := by
  unfold OrdB at *
  rw [List.pairwise_map]
  exact h.imp fun h => endV_bad h
theorem insW_mem {w : Wr} {t : Int} {l : List Ver} {u : Ver} : u ∈ insW w t l ↔ (∃ v ∈ l, u = endV w.Key t v) ∨ u = newV w t := by
  rw [(insW_perm w t l).mem_iff, List.mem_append, List.mem_map, List.mem_singleton]
  constructor
  · rintro (⟨v, h1, h2⟩ | h)
    · exact .inl ⟨v, h1, h2.symm⟩
    · exact .inr h
  · rintro (⟨v, h1, h2⟩ | h)
    · exact .inl ⟨v, h1, h2.symm⟩
    · exact .inr h
theorem insW_ord {w : Wr} {t : Int} (ht : 1 ≤ t) : ∀ {o : List Ver}, OrdB vbad o → turnsB4 o w t → OrdB vbad (insW w t o)
  | [], _, _ => List.pairwise_singleton _ _
  | v :: l, h, hb => by
    obtain ⟨h1, h2⟩ := List.pairwise_cons.1 h
    have hm := map_end_ord (k := w.Key) (t := t) h
    rw [insW]
    by_cases hk : v.Key > w.Key
    · rw [if_pos hk]
      refine List.pairwise_cons.2 ⟨?_, hm⟩
      intro u hu
      have hu' : u ∈ (v :: l).map (endV w.Key t) := hu
      obtain ⟨x, hx, rfl⟩ := List.mem_map.1 hu'
      rw [vbad_iff, (endV_row w.Key t x).2.1]
      left
      show w.Key < x.Key
      rcases List.mem_cons.1 hx with rfl | hx
      · omega
      · have := vbad_iff.1 (h1 x hx); omega
    · rw [if_neg hk]
      refine List.pairwise_cons.2 ⟨?_, insW_ord ht h2 (fun u hu hk => hb u (by simp [hu]) hk)⟩
      intro u hu
      rcases insW_mem.1 hu with ⟨x, hx, rfl⟩ | rfl
      · exact endV_bad (h1 x hx)
      · rw [vbad_iff, (endV_row w.Key t v).2.1]
        rcases Int.lt_or_eq_of_le (show v.Key ≤ w.Key by omega) with h3 | h3
        · exact .inl h3
        · obtain ⟨b1, b2⟩ := hb v (by simp) h3
          refine .inr ⟨h3, ?_⟩
          unfold endV newV
          by_cases hd : v.Died = 0
          · rw [if_pos ⟨h3, hd⟩]; exact ⟨show t ≠ 0 by omega, show t ≤ t by omega⟩
          · rw [if_neg (fun h => hd h.2)]; exact ⟨hd, b2⟩
theorem endV_vb {k t : Int} {v : Ver} (h : vb v = true) (hb : v.Key = k → v.Born < t ∧ v.Died ≤ t) (ht : 1 ≤ t ∧ t ≤ 40) : vb (endV k t v) = true := by
  unfold endV
  split
  · rename_i hc
    have hn := vb_nums h
    have := hb hc.1
    unfold vb keyB
    simp only [Bool.and_eq_true, Bool.or_eq_true, decide_eq_true_eq]
    exact ⟨⟨hn.1, hn.2.1⟩, ⟨hn.2.2.1, hn.2.2.2.1⟩, .inr ⟨by omega, ht.2⟩, hn.2.2.2.2.2⟩
  · exact h
theorem wb_nums {w : Wr} (h : wb w = true) : 0 ≤ w.Key ∧ w.Key ≤ 4 ∧ rowOk w.Row = true ∧ (w.Gone = true → w.Row = []) := by
  unfold wb keyB at h
  simp only [Bool.and_eq_true, decide_eq_true_eq, Bool.not_eq_true', Bool.and_eq_false_iff, decide_eq_false_iff_not] at h
  refine ⟨h.1.1, h.1.2, h.2.1, fun hg => ?_⟩
  rcases h.2.2 with h3 | h3
  · rw [hg] at h3; cases h3
  · exact List.length_eq_zero_iff.1 (by omega)
theorem put1_inv {o : List Ver} {w : Wr} {t : Int} (h : VInv o) (hw : wb w = true) (ht : 1 ≤ t ∧ t ≤ 40) (hb : turnsB4 o w t) : VInv (put1 o w t) := by
  have hwn := wb_nums hw
  constructor
  · intro u hu
    have hu := (put1_perm o w t).mem_iff.1 hu
    unfold step1 at hu
    have key : ∀ u ∈ o.map (endV w.Key t), vb u = true := by
      intro u hu
      obtain ⟨v, hv, rfl⟩ := List.mem_map.1 hu
      exact endV_vb (h.vb v hv) (hb v hv) ht
    split at hu
    · exact key u hu
    · rcases List.mem_append.1 hu with hu | hu
      · exact key u hu
      · rw [List.mem_singleton.1 hu]
        unfold vb keyB newV
        simp only [Bool.and_eq_true, Bool.or_eq_true, decide_eq_true_eq]
        exact ⟨⟨hwn.1, hwn.2.1⟩, ht, .inl trivial, hwn.2.2.1⟩
  · unfold put1
    split
    · exact map_end_ord h.ord
    · exact insW_ord ht.1 h.ord hb
theorem put1_turns {o : List Ver} {w w' : Wr} {t : Int} (hk : w.Key ≠ w'.Key) (hb : turnsB4 o w' t) : turnsB4 (put1 o w t) w' t := by
  intro u hu hk'
  have hu := (put1_perm o w t).mem_iff.1 hu
  unfold step1 at hu
  have key : ∀ u ∈ o.map (endV w.Key t), u.Key = w'.Key → u.Born < t ∧ u.Died ≤ t := by
    intro u hu hk'
    obtain ⟨v, hv, rfl⟩ := List.mem_map.1 hu
    have hvk : v.Key = w'.Key := by rw [← hk', (endV_row _ _ _).2.1]
    have : endV w.Key t v = v := by unfold endV; rw [if_neg (fun h => hk (by rw [← hvk, h.1]))]
    rw [this]; exact hb v hv hvk
  split at hu
  · exact key u hu hk'
  · rcases List.mem_append.1 hu with hu | hu
    · exact key u hu hk'
    · rw [List.mem_singleton.1 hu] at hk'; exact absurd hk' hk
/-- What writes ask for. -/
structure WInv (o : List Ver) (ws : List Wr) (t : Int) : Prop where
  inv : VInv o
  wb : ∀ w ∈ ws, wb w = true
  keys : ws.Pairwise fun x y => x.Key < y.Key
  time : 1 ≤ t ∧ t ≤ 40
  turns : ∀ w ∈ ws, turnsB4 o w t
theorem WInv.next {o : List Ver} {w : Wr} {ws : List Wr} {t : Int} (h : WInv o (w :: ws) t) : WInv (put1 o w t) ws t where
  inv := put1_inv h.inv (h.wb w (by simp)) h.time (h.turns w (by simp))
  wb := fun u hu => h.wb u (by simp [hu])
  keys := (List.pairwise_cons.1 h.keys).2
  time := h.time
  turns := fun u hu => put1_turns (by have := (List.pairwise_cons.1 h.keys).1 u hu; omega) (h.turns u (by simp [hu]))
theorem wOk_inv {ws : List Wr} : wOk ws = true ↔ (∀ w ∈ ws, wb w = true) ∧ ws.Pairwise fun x y => x.Key < y.Key := by
  unfold wOk
  rw [Bool.and_eq_true, adjB_iff, List.all_eq_true]
  have e : OrdB wbad ws ↔ ws.Pairwise fun x y => x.Key < y.Key := by
    unfold OrdB wbad
    constructor
    · intro h; exact h.imp fun h => by rw [decide_eq_false_iff_not] at h; omega
    · intro h; exact h.imp fun h => by rw [decide_eq_false_iff_not]; omega
  constructor
  · rintro ⟨h1, h2⟩
    exact ⟨h1, e.1 (h2.ord fun x y z h3 h4 => by unfold wbad at *; rw [decide_eq_false_iff_not] at *; omega)⟩
  · rintro ⟨h1, h2⟩
    exact ⟨h1, (e.2 h2).adj⟩
abbrev En := S_impl_Entry
def eb (e : En) : Bool := (decide (1 ≤ e.Time) && decide (e.Time ≤ 40)) && wOk e.Writes
def wsSm (ws : List Wr) : Prop := ws.length ≤ 1000 ∧ ∀ w ∈ ws, rSm w.Row
structure RI (o : List Ver) (T : Int) : Prop where
  inv : VInv o
  times : ∀ v ∈ o, v.Born ≤ T ∧ v.Died ≤ T
  rows : ∀ v ∈ o, rSm v.Row
theorem RI.w {o : List Ver} {T : Int} {e : En} (h : RI o T) (he : eb e = true) (ht : T < e.Time) : WInv o e.Writes e.Time := by
  unfold eb at he
  simp only [Bool.and_eq_true, decide_eq_true_eq] at he
  obtain ⟨w1, w2⟩ := wOk_inv.1 he.2
  exact ⟨h.inv, w1, w2, he.1, fun w _ v hv _ => by have := h.times v hv; omega⟩
/-- Entries that follow a time, and each other. -/
structure Seq (T : Int) (l : List En) : Prop where
  ok : ∀ e ∈ l, eb e = true ∧ wsSm e.Writes ∧ T < e.Time
  asc : l.Pairwise fun x y => x.Time < y.Time
theorem RI.nil : RI [] 0 := ⟨⟨by simp, List.Pairwise.nil⟩, by simp, by simp⟩
theorem Seq.take {T : Int} {l : List En} (h : Seq T l) (n : Nat) : Seq T (l.take n) := ⟨fun e he => h.ok e (List.mem_of_mem_take he), List.Pairwise.sublist (List.take_sublist _ _) h.asc⟩
theorem E_spec_TalliesOf2 {rs : Rows} (h : rsSm rs) : m_spec_TalliesOf rs = some (talliesOf rs) := by
  obtain ⟨h1, h2⟩ := h
  unfold m_spec_TalliesOf talliesOf
  have fin : rs.length ≤ 100 → rs.all counted = true → m_spec_TalliesOf_j2 rs [] = some (tallOf rs) := by
    intro hl hall
    unfold m_spec_TalliesOf_j2
    have hh := scanF (f := fun (l : List Ta) r => turnT l (dT r 1)) (J := fun s => m_spec_TalliesOf_j3 s) (fun k s => TInv k s) rs (fun n k s => m_spec_TalliesOf_l2 n rs k s) (fun n k x s hx hI => by
      have hlt := lt_of_at hx
      obtain ⟨a, b, rfl, g1, g2, g3, g4, g5, g6⟩ := counted_b (List.all_eq_true.1 hall x (List.mem_of_getElem? hx))
      obtain ⟨n1, n2⟩ := hI.num (by omega)
      have a0 : at? ([a, b] : Row) (0 : Int) = some a := rfl
      have a1 : at? ([a, b] : Row) (1 : Int) = some b := rfl
      rw [m_spec_TalliesOf_l2, dlt hlt, cond_true, at_of hx, Option.bind_some, a0, Option.bind_some, Option.bind_some, a1, Option.bind_some, E_l32Turn (by omega) hI.ks n2 g3 g4 (by omega) ⟨g5, g6⟩, Option.bind_some, ck1 (by omega), Option.bind_some]
      exact ⟨rfl, hI.turn g1 g2⟩) (fun n s _ => by rw [m_spec_TalliesOf_l2, dnlt, cond_false]) _ fuel0 [] TInv.nil
    rw [hh.1]; rfl
  by_cases hl : rs.length ≤ 100
  · rw [scanC rs (fun n k (_ : Unit) => m_spec_TalliesOf_l1 n rs k []) (fun x s k => bif !(counted x) then some [] else k s) (fun _ => m_spec_TalliesOf_j2 rs []) (fun n k x s hx => by
      have hlt := lt_of_at hx
      rw [m_spec_TalliesOf_l1, dlt hlt, cond_true, at_of hx, Option.bind_some, E_spec_l32Row (h2 x (List.mem_of_getElem? hx)), Option.bind_some]
      unfold m_spec_TalliesOf_j1
      rw [decide_eq_false (by omega), ck1 (by omega), Option.bind_some, cond_true, cond_false]) (fun n s => by rw [m_spec_TalliesOf_l1, dnlt, cond_false]) _ fuel0 ()]
    have : ∀ l : Rows, foldC (S := Unit) (fun x s k => bif !(counted x) then some [] else k s) (fun _ => m_spec_TalliesOf_j2 rs []) l () = bif l.all counted then m_spec_TalliesOf_j2 rs [] else some [] := by
      intro l
      induction l with
      | nil => rfl
      | cons x l ih =>
        simp only [foldC, List.all_cons]
        cases counted x
        · rfl
        · rw [Bool.not_true, cond_false, ih, Bool.true_and]
    rw [this]
    cases hall : rs.all counted
    · rw [cond_false, if_neg (by simp)]
    · rw [cond_true, fin hl hall, if_pos ⟨hl, rfl⟩]
  · rw [if_neg (fun k => hl k.1)]
    obtain ⟨n, hn⟩ : ∃ n, ((rs.length : Int) - 0).toNat + 1 = n + 1 := ⟨_, rfl⟩
    have hx : rs[0]? = some rs[0] := List.getElem?_eq_getElem (by omega)
    have a0 : at? rs (0 : Int) = some rs[0] := at_of hx
    rw [hn, m_spec_TalliesOf_l1, decide_eq_true (by omega), cond_true, a0, Option.bind_some, E_spec_l32Row (h2 _ (List.mem_of_getElem? hx)), Option.bind_some]
    unfold m_spec_TalliesOf_j1
    cases counted rs[0]
    · rfl
    · rw [Bool.not_true, cond_false, decide_eq_true (by omega), cond_true]
def tBad (x y : Ta) : Bool := decide (rOrd x.Key y.Key ≥ 0)
def tlOk (l : List Ta) : Bool := l.all tOk && adjB tBad l
theorem tOk_b {t : Ta} (h : tOk t = true) : t.Key.length = 1 ∧ rowOk t.Key = true ∧ 1 ≤ t.Rows ∧ t.Rows ≤ 100 ∧ 0 ≤ t.Many ∧ t.Many ≤ t.Rows ∧ -9999 * t.Many ≤ t.Sum ∧ t.Sum ≤ 9999 * t.Many := by
  unfold tOk at h
  simp only [Bool.and_eq_true, decide_eq_true_eq] at h
  exact ⟨h.1, h.2.1, h.2.2.1.1, h.2.2.1.2, h.2.2.2.1.1, h.2.2.2.1.2, h.2.2.2.2.1, h.2.2.2.2.2⟩
theorem E_impl_TalliesOk {l : List Ta} (hl : l.length ≤ 1000000) (hx : ∀ x ∈ l, rSm x.Key ∧ tNum x) : m_impl_TalliesOk l = some (tlOk l) := by
  have main : m_impl_TalliesOk l = some (l.all tOk && adjB tBad l && true) := by
    unfold m_impl_TalliesOk
    have stop : ∀ n (k : Int), m_impl_TalliesOk_j1 (m_impl_TalliesOk_l1 n) l l (l.length : Int) k true = some false := fun n k => by unfold m_impl_TalliesOk_j1; rw [cond_true]
    have next : ∀ n (k : Nat), k < l.length → m_impl_TalliesOk_j1 (m_impl_TalliesOk_l1 n) l l (l.length : Int) (k : Int) false = m_impl_TalliesOk_l1 n l l (l.length : Int) ((k + 1 : Nat) : Int) := fun n k hk => by
      unfold m_impl_TalliesOk_j1; rw [cond_false, ck1 (by omega), Option.bind_some]; congr 1
    have ok : ∀ x ∈ l, m_impl_Tally_ok x = some (tOk x) := fun x hm => by
      obtain ⟨a, b⟩ := hx x hm
      unfold tNum at b
      exact E_Tally_ok a (by omega)
    refine scanPrev (p := tOk) (bad := tBad) l (fun n k => m_impl_TalliesOk_l1 n l l (l.length : Int) k) (fun n x hx0 => ?_) (fun n k x y hx0 hy hp => ?_) (fun n => ?_) _ fuel0
    · have hlt := lt_of_at hx0
      show m_impl_TalliesOk_l1 (n + 1) l l (l.length : Int) ((0 : Nat) : Int) = _
      rw [m_impl_TalliesOk_l1, dlt hlt, cond_true, at_of hx0, Option.bind_some, ltE, ok x (List.mem_of_getElem? hx0), Option.bind_some]
      cases tOk x with
      | false => rw [Bool.not_false, cond_true, stop, cond_false]
      | true => rw [Bool.not_true, cond_false, dgt00, cond_false, next n 0 hlt, cond_true]; rfl
    · have hlt := lt_of_at hx0
      rw [m_impl_TalliesOk_l1, dlt hlt, cond_true, at_of hx0, Option.bind_some, ltE, ok x (List.mem_of_getElem? hx0), Option.bind_some]
      cases tOk x with
      | false => rw [Bool.not_false, cond_true, stop, Bool.false_and, cond_false]
      | true =>
        have hys := (hx y (List.mem_of_getElem? hy)).1.1
        rw [Bool.not_true, cond_false, dgt0, cond_true, ckdd (by omega), Option.bind_some, at_of hy, Option.bind_some, E_rowOrder (by omega), Option.bind_some, Bool.true_and]
        unfold tBad
        by_cases hb : rOrd y.Key x.Key ≥ 0
        · rw [decide_eq_true hb, stop, Bool.not_true, cond_false]
        · rw [decide_eq_false hb, next n (k + 1) hlt, Bool.not_false, cond_true]
    · rw [m_impl_TalliesOk_l1, dnlt, cond_false, m_impl_TalliesOk_j2]
  rw [main, Bool.and_true]; rfl
theorem E_spec_TalliesOk {l : List Ta} (hl : l.length ≤ 1000000) (hx : ∀ x ∈ l, rSm x.Key ∧ tNum x) : m_spec_TalliesOk l = some (tlOk l) := by
  have main : m_spec_TalliesOk l = some (l.all tOk && adjB tBad l && true) := by
    unfold m_spec_TalliesOk
    have stop : ∀ n (k : Int), m_spec_TalliesOk_j1 (m_spec_TalliesOk_l1 n) l k true = some false := fun n k => by unfold m_spec_TalliesOk_j1; rw [cond_true]
    have next : ∀ n (k : Nat), k < l.length → m_spec_TalliesOk_j1 (m_spec_TalliesOk_l1 n) l (k : Int) false = m_spec_TalliesOk_l1 n l ((k + 1 : Nat) : Int) := fun n k hk => by
      unfold m_spec_TalliesOk_j1; rw [cond_false, ck1 (by omega), Option.bind_some]; congr 1
    have head : ∀ n (k : Nat) (x : Ta) (c : Bool), l[k]? = some x → (tOk x = true → (bif decide ((k : Int) > 0) then ((ckI ((k : Int) - 1)).bind fun x26 => (at? l x26).bind fun x27 => (m_spec_RowOrder x27.Key x.Key).bind fun x28 => m_spec_TalliesOk_j1 (m_spec_TalliesOk_l1 n) l (k : Int) (decide (x28 ≥ 0))) else (m_spec_TalliesOk_j1 (m_spec_TalliesOk_l1 n) l (k : Int) false)) = m_spec_TalliesOk_j1 (m_spec_TalliesOk_l1 n) l (k : Int) c) → m_spec_TalliesOk_l1 (n + 1) l (k : Int) = m_spec_TalliesOk_j1 (m_spec_TalliesOk_l1 n) l (k : Int) (!(tOk x) || c) := by
      intro n k x c h0 hc
      have hlt := lt_of_at h0
      obtain ⟨hk, hn⟩ := hx x (List.mem_of_getElem? h0)
      unfold tNum at hn
      have b1 : -10000000000000 ≤ -9999 * x.Many ∧ -9999 * x.Many ≤ 10000000000000 := by omega
      rw [m_spec_TalliesOk_l1, dlt hlt, cond_true, at_of h0, Option.bind_some, ltE, E_spec_RowOk hk, Option.bind_some]
      have fls : tOk x = false → m_spec_TalliesOk_j1 (m_spec_TalliesOk_l1 n) l (k : Int) true = m_spec_TalliesOk_j1 (m_spec_TalliesOk_l1 n) l (k : Int) (!(tOk x) || c) := fun h => by rw [h, Bool.not_false, Bool.true_or]
      cases h1 : rowOk x.Key with
      | false => rw [Bool.not_false, cond_true]; exact fls (by unfold tOk; rw [h1, Bool.false_and, Bool.and_false])
      | true =>
        rw [Bool.not_true, cond_false, show (1 : Int) = ((1 : Nat) : Int) from rfl, neN]
        cases h2 : decide (x.Key.length = 1) with
        | false => rw [Bool.not_false, cond_true]; exact fls (by unfold tOk; rw [h2, Bool.false_and])
        | true =>
          rw [Bool.not_true, cond_false, show ((1 : Nat) : Int) = 1 from rfl, E_l1In, Option.bind_some]
          cases h3 : (decide (1 ≤ x.Rows) && decide (x.Rows ≤ 100)) with
          | false => rw [Bool.not_false, cond_true]; exact fls (by unfold tOk; rw [h3, Bool.false_and, Bool.and_false, Bool.and_false])
          | true =>
            rw [Bool.not_true, cond_false, E_l1In, Option.bind_some]
            cases h4 : (decide (0 ≤ x.Many) && decide (x.Many ≤ x.Rows)) with
            | false => rw [Bool.not_false, cond_true]; exact fls (by unfold tOk; rw [h4, Bool.false_and, Bool.and_false, Bool.and_false, Bool.and_false])
            | true =>
              rw [Bool.not_true, cond_false, ckI_of (by omega) (by omega), Option.bind_some, ckI_of (by omega) (by omega), Option.bind_some, E_l1In, Option.bind_some]
              cases h5 : (decide (-9999 * x.Many ≤ x.Sum) && decide (x.Sum ≤ 9999 * x.Many)) with
              | false => rw [Bool.not_false, cond_true]; exact fls (by unfold tOk; rw [h5, Bool.and_false, Bool.and_false, Bool.and_false, Bool.and_false])
              | true =>
                have hok : tOk x = true := by unfold tOk; rw [h1, h2, h3, h4, h5]; rfl
                rw [Bool.not_true, cond_false, hok, Bool.not_true, Bool.false_or]
                exact hc hok
    refine scanPrev (p := tOk) (bad := tBad) l (fun n k => m_spec_TalliesOk_l1 n l k) (fun n x hx0 => ?_) (fun n k x y hx0 hy hp => ?_) (fun n => ?_) _ fuel0
    · have hlt := lt_of_at hx0
      show m_spec_TalliesOk_l1 (n + 1) l ((0 : Nat) : Int) = _
      rw [head n 0 x false hx0 (fun _ => by rw [dgt00, cond_false])]
      cases tOk x with
      | false => rw [Bool.not_false, Bool.true_or, stop, cond_false]
      | true => rw [Bool.not_true, Bool.false_or, next n 0 hlt, cond_true]; rfl
    · have hlt := lt_of_at hx0
      rw [head n (k + 1) x (tBad y x) hx0 (fun hok => by
        rw [dgt0, cond_true, ckdd (by omega), Option.bind_some, at_of hy, Option.bind_some, E_spec_RowOrder (hx y (List.mem_of_getElem? hy)).1 (hx x (List.mem_of_getElem? hx0)).1, Option.bind_some, rr_ok (tOk_b hp).2.1 (tOk_b hok).2.1, tBad])]
      cases tOk x with
      | false => rw [Bool.not_false, Bool.true_or, stop, Bool.false_and, cond_false]
      | true =>
        rw [Bool.not_true, Bool.false_or, Bool.true_and]
        cases tBad y x with
        | true => rw [stop, Bool.not_true, cond_false]
        | false => rw [next n (k + 1) hlt, Bool.not_false, cond_true]
    · rw [m_spec_TalliesOk_l1, dnlt, cond_false, m_spec_TalliesOk_j2]
  rw [main, Bool.and_true]; rfl
theorem E_l32Copy {l : List Ta} (hl : l.length ≤ 1000000) (hr : ∀ v ∈ l, v.Key.length ≤ 1000000) : m_spec_l32Copy l = some l := by
  unfold m_spec_l32Copy
  have := scanM (f := fun v : Ta => v) (J := fun o => m_spec_l32Copy_j1 o) l (fun n k o => m_spec_l32Copy_l1 n l k o) (fun n k x o hx ho => by
    have hlt := lt_of_at hx
    rw [m_spec_l32Copy_l1, dlt hlt, cond_true, at_of hx, Option.bind_some, ltE, E_l3Own (hr x (List.mem_of_getElem? hx)), Option.bind_some, ltE, app_of (by simp; omega), Option.bind_some, ck1 (by omega), Option.bind_some]) (fun n o ho => by
    rw [m_spec_l32Copy_l1, dnlt, cond_false]) _ fuel0
  rw [this, List.map_id']
  rfl
theorem tlOk_inv {l : List Ta} (h : tlOk l = true) : ks l ∧ ∀ x ∈ l, tOk x = true := by
  unfold tlOk at h
  rw [Bool.and_eq_true, adjB_iff, List.all_eq_true] at h
  refine ⟨?_, h.1⟩
  have := h.2.ord (fun x y z h1 h2 => by
    unfold tBad at *
    rw [decide_eq_false_iff_not] at *
    have := TO_row.le_trans (a := x.Key) (b := y.Key) (c := z.Key) (by omega) (by omega)
    rcases Int.lt_or_eq_of_le this with h3 | h3
    · omega
    · have hxz := (TO_row.eq0 _ _).1 h3
      rw [hxz] at h1
      have := (TO_row.total z.Key y.Key).2 (by omega)
      omega)
  exact this.imp fun h => by unfold tBad at h; rw [decide_eq_false_iff_not] at h; unfold kLt; omega
theorem tOk_num {t : Ta} (h : tOk t = true) : rSm t.Key ∧ rowOk t.Key = true ∧ nz t = true ∧ tNum t := by
  have hb := tOk_b h
  refine ⟨ok_sm hb.2.1, hb.2.1, ?_, ?_⟩
  · unfold nz; simp; omega
  · unfold tNum; omega
abbrev De := S_impl_Delta
def dOk (d : De) : Bool := counted d.Row && (!(decide (d.Many = 0)) && (decide (-100 ≤ d.Many) && decide (d.Many ≤ 100)))
def trn : List Ta → List De → List Ta × Bool
  | l, [] => (l, true)
  | l, d :: ds => if dOk d && tlOk (turnT l (dT d.Row d.Many)) then trn (turnT l (dT d.Row d.Many)) ds else ([], false)
def talT (l : List Ta) (ds : List De) : List Ta × Bool := if tlOk l then trn l ds else ([], false)
theorem turn_num {l : List Ta} {r : Row} {m : Int} (h : ∀ x ∈ l, tOk x = true) (hc : counted r = true) (hm : -100 ≤ m ∧ m ≤ 100) : ∀ x ∈ turnT l (dT r m), rSm x.Key ∧ tNum x := by
  intro x hx
  obtain ⟨a, b, rfl, g1, g2, g3, g4, g5, g6⟩ := counted_b hc
  have hd := dT_num (a := a) (m := m) (by omega) ⟨g5, g6⟩
  have hb0 : -1000000 ≤ m * b.N ∧ m * b.N ≤ 1000000 := by
    have e1 : (m * b.N).natAbs = m.natAbs * b.N.natAbs := Int.natAbs_mul _ _
    have e2 : m.natAbs * b.N.natAbs ≤ 100 * 10000 := Nat.mul_le_mul (by omega) (by omega)
    omega
  have dn : -100 ≤ (dT [a, b] m).Rows ∧ (dT [a, b] m).Rows ≤ 100 ∧ -100 ≤ (dT [a, b] m).Many ∧ (dT [a, b] m).Many ≤ 100 ∧ -1000000 ≤ (dT [a, b] m).Sum ∧ (dT [a, b] m).Sum ≤ 1000000 := by
    unfold dT
    split
    · exact ⟨hm.1, hm.2, hm.1, hm.2, hb0.1, hb0.2⟩
    · exact ⟨hm.1, hm.2, by show (-100 : Int) ≤ 0; omega, by show (0 : Int) ≤ 100; omega, by show (-1000000 : Int) ≤ 0; omega, by show (0 : Int) ≤ 1000000; omega⟩
  rcases turnT_mem hx with hx | rfl | ⟨y, hy, _, rfl⟩
  · exact ⟨(tOk_num (h x hx)).1, (tOk_num (h x hx)).2.2.2⟩
  · exact ⟨by rw [(dT_key _ _).1]; exact g3, hd⟩
  · have hb := tOk_b (h y hy)
    refine ⟨(tOk_num (h y hy)).1, ?_⟩
    unfold tNum addT
    simp only
    omega
theorem dOk_b {d : De} (h : dOk d = true) : counted d.Row = true ∧ d.Many ≠ 0 ∧ -100 ≤ d.Many ∧ d.Many ≤ 100 := by
  unfold dOk at h
  simp only [Bool.and_eq_true, decide_eq_true_eq, Bool.not_eq_true', decide_eq_false_iff_not] at h
  exact ⟨h.1, h.2.1, h.2.2.1, h.2.2.2⟩
def dsSm (ds : List De) : Prop := ds.length ≤ 1000 ∧ ∀ d ∈ ds, rSm d.Row
theorem E_impl_TalliesTurned {l : List Ta} {ds : List De} (hl : l.length ≤ 2000) (hx : ∀ x ∈ l, rSm x.Key ∧ tNum x) (hd : dsSm ds) : m_impl_TalliesTurned l ds = some (talT l ds) := by
  unfold m_impl_TalliesTurned talT
  rw [E_impl_TalliesOk (by omega) hx, Option.bind_some]
  cases hok : tlOk l with
  | false => rfl
  | true =>
    rw [Bool.not_true, cond_false, if_pos rfl, E_tallies (by omega) (fun x h => by have := (hx x h).1.1; omega), Option.bind_some]
    have key : ∀ (rest pre : List De) (o : List Ta) (n : Nat), ds = pre ++ rest → rest.length < n → tlOk o = true → o.length ≤ 2000 + pre.length → m_impl_TalliesTurned_l1 n ds (ds.length : Int) (pre.length : Int) o = some (trn o rest) := by
      intro rest
      induction rest with
      | nil =>
        intro pre o n hp hn ho hol
        obtain ⟨n, rfl⟩ : ∃ q, n = q + 1 := ⟨n - 1, by omega⟩
        have : pre.length = ds.length := by rw [hp]; simp
        have h1000 := hd.1
        rw [this, m_impl_TalliesTurned_l1, dnlt, cond_false]
        unfold m_impl_TalliesTurned_j2
        rw [E_tallies (by omega) (fun x h => by have := (tOk_num ((tlOk_inv ho).2 x h)).1.1; omega), Option.bind_some]; rfl
      | cons d rest ih =>
        intro pre o n hp hn ho hol
        obtain ⟨n, rfl⟩ : ∃ q, n = q + 1 := ⟨n - 1, by omega⟩
        have h1000 := hd.1
        have hlt0 : pre.length < ds.length := by rw [hp]; simp
        have hxd : ds[pre.length]? = some d := by rw [hp]; simp
        have hdm := hd.2 d (List.mem_of_getElem? hxd)
        obtain ⟨k1, k2⟩ := tlOk_inv ho
        have stop : m_impl_TalliesTurned_j1 (m_impl_TalliesTurned_l1 n) ds (ds.length : Int) (pre.length : Int) true d o = some ([], false) := by unfold m_impl_TalliesTurned_j1; rw [cond_true]
        rw [m_impl_TalliesTurned_l1, dlt hlt0, cond_true, at_of hxd, Option.bind_some, ltE, E_impl_counted hdm, Option.bind_some, trn]
        have bad : dOk d = false → (if (dOk d && tlOk (turnT o (dT d.Row d.Many))) = true then trn (turnT o (dT d.Row d.Many)) rest else (([] : List Ta), false)) = ([], false) := fun h => by rw [h, Bool.false_and, if_neg (by simp)]
        cases hc : counted d.Row with
        | false => rw [Bool.not_false, cond_true, stop, bad (by unfold dOk; rw [hc, Bool.false_and])]
        | true =>
          rw [Bool.not_true, cond_false]
          by_cases hm0 : d.Many = 0
          · rw [show (d.Many == 0) = true by simp [hm0], cond_true, stop, bad (by unfold dOk; rw [decide_eq_true hm0, Bool.not_true, Bool.false_and, Bool.and_false])]
          · rw [beqF hm0, cond_false, E_between, Option.bind_some]
            cases hb : (decide (-100 ≤ d.Many) && decide (d.Many ≤ 100)) with
            | false => rw [Bool.not_false, stop, bad (by unfold dOk; rw [hb, Bool.and_false, Bool.and_false])]
            | true =>
              have hdo : dOk d = true := by unfold dOk; rw [hc, hb, decide_eq_false hm0]; rfl
              obtain ⟨_, _, b1, b2⟩ := dOk_b hdo
              have hnum := turn_num k2 hc ⟨b1, b2⟩
              have hlen := turnT_len o (dT d.Row d.Many)
              obtain ⟨a, b, hab, g1, g2, g3, g4, g5, g6⟩ := counted_b hc
              have ht := E_tell (l := o) (a := a) (b := b) (m := d.Many) (by omega) k1 (fun x h => ⟨(tOk_num (k2 x h)).1, (tOk_num (k2 x h)).2.2.2⟩) (by omega) hm0 ⟨g5, g6⟩
              rw [← hab] at ht
              unfold m_impl_TalliesTurned_j1
              rw [Bool.not_true, cond_false, ht, Option.bind_some, E_impl_TalliesOk (by omega) hnum, Option.bind_some, hdo, Bool.true_and]
              cases hto : tlOk (turnT o (dT d.Row d.Many)) with
              | false => rw [Bool.not_false, cond_true, if_neg (by simp)]
              | true =>
                rw [Bool.not_true, cond_false, ck1 (by omega), Option.bind_some, if_pos rfl]
                have := ih (pre ++ [d]) (turnT o (dT d.Row d.Many)) n (by rw [hp]; simp) (by simp at hn; omega) hto (by simp; omega)
                rw [List.length_append, List.length_singleton] at this
                exact this
    exact key ds [] l (((ds.length : Int) - 0).toNat + 1) rfl fuel0 hok (by simp; omega)
theorem E_spec_TalliesTurned {l : List Ta} {ds : List De} (hl : l.length ≤ 2000) (hx : ∀ x ∈ l, rSm x.Key ∧ tNum x) (hd : dsSm ds) : m_spec_TalliesTurned l ds = some (talT l ds) := by
  unfold m_spec_TalliesTurned talT
  rw [E_spec_TalliesOk (by omega) hx, Option.bind_some]
  cases hok : tlOk l with
  | false => rfl
  | true =>
    rw [Bool.not_true, cond_false, if_pos rfl, E_l32Copy (by omega) (fun x h => by have := (hx x h).1.1; omega), Option.bind_some]
    have key : ∀ (rest pre : List De) (o : List Ta) (n : Nat), ds = pre ++ rest → rest.length < n → tlOk o = true → o.length ≤ 2000 + pre.length → m_spec_TalliesTurned_l1 n ds (pre.length : Int) o = some (trn o rest) := by
      intro rest
      induction rest with
      | nil =>
        intro pre o n hp hn ho hol
        obtain ⟨n, rfl⟩ : ∃ q, n = q + 1 := ⟨n - 1, by omega⟩
        have : pre.length = ds.length := by rw [hp]; simp
        rw [this, m_spec_TalliesTurned_l1, dnlt, cond_false]; rfl
      | cons d rest ih =>
        intro pre o n hp hn ho hol
        obtain ⟨n, rfl⟩ : ∃ q, n = q + 1 := ⟨n - 1, by omega⟩
        have h1000 := hd.1
        have hlt0 : pre.length < ds.length := by rw [hp]; simp
        have hxd : ds[pre.length]? = some d := by rw [hp]; simp
        have hdm := hd.2 d (List.mem_of_getElem? hxd)
        obtain ⟨k1, k2⟩ := tlOk_inv ho
        have stop : m_spec_TalliesTurned_j1 (m_spec_TalliesTurned_l1 n) ds (pre.length : Int) true d o = some ([], false) := by unfold m_spec_TalliesTurned_j1; rw [cond_true]
        rw [m_spec_TalliesTurned_l1, dlt hlt0, cond_true, at_of hxd, Option.bind_some, ltE, E_spec_l32Row hdm, Option.bind_some, trn]
        have bad : dOk d = false → (if (dOk d && tlOk (turnT o (dT d.Row d.Many))) = true then trn (turnT o (dT d.Row d.Many)) rest else (([] : List Ta), false)) = ([], false) := fun h => by rw [h, Bool.false_and, if_neg (by simp)]
        cases hc : counted d.Row with
        | false => rw [Bool.not_false, cond_true, stop, bad (by unfold dOk; rw [hc, Bool.false_and])]
        | true =>
          rw [Bool.not_true, cond_false]
          by_cases hm0 : d.Many = 0
          · rw [show (d.Many == 0) = true by simp [hm0], cond_true, stop, bad (by unfold dOk; rw [decide_eq_true hm0, Bool.not_true, Bool.false_and, Bool.and_false])]
          · rw [beqF hm0, cond_false, E_l1In, Option.bind_some]
            cases hb : (decide (-100 ≤ d.Many) && decide (d.Many ≤ 100)) with
            | false => rw [Bool.not_false, stop, bad (by unfold dOk; rw [hb, Bool.and_false, Bool.and_false])]
            | true =>
              have hdo : dOk d = true := by unfold dOk; rw [hc, hb, decide_eq_false hm0]; rfl
              obtain ⟨_, _, b1, b2⟩ := dOk_b hdo
              have hnum := turn_num k2 hc ⟨b1, b2⟩
              have hlen := turnT_len o (dT d.Row d.Many)
              obtain ⟨a, b, hab, g1, g2, g3, g4, g5, g6⟩ := counted_b hc
              have ht := E_l32Turn (l := o) (a := a) (b := b) (m := d.Many) (by omega) k1 (fun x h => tOk_num (k2 x h)) g3 g4 (by omega) ⟨g5, g6⟩
              rw [← hab] at ht
              have a0 : at? d.Row (0 : Int) = some a := by rw [hab]; rfl
              have a1 : at? d.Row (1 : Int) = some b := by rw [hab]; rfl
              unfold m_spec_TalliesTurned_j1
              rw [Bool.not_true, cond_false, a0, Option.bind_some, a1, Option.bind_some, ht, Option.bind_some, E_spec_TalliesOk (by omega) hnum, Option.bind_some, hdo, Bool.true_and]
              cases hto : tlOk (turnT o (dT d.Row d.Many)) with
              | false => rw [Bool.not_false, cond_true, if_neg (by simp)]
              | true =>
                rw [Bool.not_true, cond_false, ck1 (by omega), Option.bind_some, if_pos rfl]
                have := ih (pre ++ [d]) (turnT o (dT d.Row d.Many)) n (by rw [hp]; simp) (by simp at hn; omega) hto (by simp; omega)
                rw [List.length_append, List.length_singleton] at this
                exact this
    exact key ds [] l (((ds.length : Int) - 0).toNat + 1) rfl fuel0 hok (by simp; omega)
def negD (d : De) : De := ⟨d.Row, -d.Many⟩
theorem trn_app : ∀ (a b : List De) (l : List Ta), trn l (a ++ b) = if (trn l a).2 then trn (trn l a).1 b else ([], false)
  | [], b, l => rfl
  | d :: a, b, l => by
    rw [List.cons_append, trn, trn]
    split
    · exact trn_app a b _
    · rfl
theorem turnT_nz {l : List Ta} {t : Ta} (h : ∀ x ∈ l, nz x = true) (ht : nz t = true) : ∀ x ∈ turnT l t, nz x = true := by
  induction l with
  | nil => intro x hx; rw [turnT, List.mem_singleton] at hx; rw [hx]; exact ht
  | cons y l ih =>
    intro x hx
    rw [turnT] at hx
    split at hx
    · rcases List.mem_cons.1 hx with rfl | hx
      · exact h _ (by simp)
      · exact ih (fun z hz => h z (by simp [hz])) x hx
    · split at hx
      · split at hx
        · rename_i hnz
          rcases List.mem_cons.1 hx with rfl | hx
          · exact hnz
          · exact h x (by simp [hx])
        · exact h x (by simp [hx])
      · rcases List.mem_cons.1 hx with rfl | hx
        · exact ht
        · exact h x hx
theorem dT_neg (r : Row) (m : Int) : t3 (dT r (-m)) = (-(t3 (dT r m)).1, -(t3 (dT r m)).2.1, -(t3 (dT r m)).2.2) := by
  unfold dT t3
  split
  · simp [Int.neg_mul]
  · simp
theorem turn_back {l : List Ta} {r : Row} {m : Int} (hk : ks l) (hn : ∀ x ∈ l, nz x = true) (hm : m ≠ 0) : turnT (turnT l (dT r m)) (dT r (-m)) = l := by
  have n1 : nz (dT r m) = true := by unfold nz; rw [(dT_key r m).2]; simp [hm]
  have n2 : nz (dT r (-m)) = true := by unfold nz; rw [(dT_key r (-m)).2]; simp [hm]
  refine lk_ext (turnT_ks (turnT_ks hk)) hk (turnT_nz (turnT_nz hn n1) n2) hn fun k => ?_
  rw [lk_turn (turnT_ks hk), lk_turn hk, (dT_key r m).1, (dT_key r (-m)).1, dT_neg]
  unfold add3
  split
  · refine Prod.ext ?_ (Prod.ext ?_ ?_) <;> simp only <;> omega
  · refine Prod.ext ?_ (Prod.ext ?_ ?_) <;> simp
theorem trn_back : ∀ (ds : List De) (l out : List Ta), tlOk l = true → trn l ds = (out, true) → trn out (ds.reverse.map negD) = (l, true) ∧ tlOk out = true
  | [], l, out, hl, h => by
    rw [trn] at h
    have : l = out := congrArg Prod.fst h
    subst this
    exact ⟨rfl, hl⟩
  | d :: ds, l, out, hl, h => by
    rw [trn] at h
    split at h
    · rename_i hc
      rw [Bool.and_eq_true] at hc
      obtain ⟨h1, h2, h3, h4⟩ := dOk_b hc.1
      obtain ⟨g1, g2⟩ := trn_back ds _ out hc.2 h
      obtain ⟨k1, k2⟩ := tlOk_inv hl
      refine ⟨?_, g2⟩
      rw [List.reverse_cons, List.map_append, trn_app, g1, if_pos rfl]
      have hneg : dOk (negD d) = true := by
        unfold dOk negD
        simp only [Bool.and_eq_true, decide_eq_true_eq, Bool.not_eq_true', decide_eq_false_iff_not]
        exact ⟨h1, by omega, by omega, by omega⟩
      have hb := turn_back (r := d.Row) k1 (fun x hx => (tOk_num (k2 x hx)).2.2.1) h2
      show trn (turnT l (dT d.Row d.Many)) [negD d] = (l, true)
      rw [trn, hneg, Bool.true_and]
      have e : turnT (turnT l (dT d.Row d.Many)) (dT (negD d).Row (negD d).Many) = l := hb
      rw [e, hl, if_pos rfl]; rfl
    · exact absurd (congrArg Prod.snd h) (by simp)
theorem T_spec_RowsOnce {rs : Rows} (h : rsSm rs) (hl : rs.length ≤ 1000) : Tot (m_spec_RowsOnce rs) fun r => r.length ≤ rs.length ∧ ∀ x ∈ r, x ∈ rs := by
  unfold m_spec_RowsOnce
  obtain ⟨h1, h2⟩ := h
  have := Tot.up (rs.length : Int) (Q := fun r : Rows => r.length ≤ rs.length ∧ ∀ x ∈ r, x ∈ rs) (fun f t (s : Rows) => m_spec_RowsOnce_l1 f rs t s) (fun t s => (s.length : Int) ≤ t ∧ ∀ x ∈ s, x ∈ rs) (fun f s h => by
    rw [m_spec_RowsOnce_l1, dnlt, cond_false]
    exact Tot.ret ⟨by omega, h.2⟩) (fun f t s h0 ht hI ih => by
    rw [m_spec_RowsOnce_l1, decide_eq_true ht, cond_true]
    refine Tot.at h0 ht fun x hx => ?_
    have hxs := (h2 x hx).1
    rw [E_spec_RowMany (by omega) (fun y hy => by have := (h2 y (hI.2 y hy)).1; omega), Option.bind_some]
    unfold m_spec_RowsOnce_j1
    refine Tot.bif (fun _ => Tot.at h0 ht fun y hy => ?_) (fun _ => Tot.ck (by omega) (by omega) (ih s ⟨by omega, hI.2⟩))
    have hys := (h2 y hy).1
    rw [E_l3Own (by omega), Option.bind_some]
    refine Tot.app (by simp; omega) (Tot.ck (by omega) (by omega) (ih _ ⟨by simp; omega, fun z hz => ?_⟩))
    rcases List.mem_append.1 hz with hz | hz
    · exact hI.2 z hz
    · rw [List.mem_singleton.1 hz]; exact hy) (((rs.length : Int) - 0).toNat + 1) 0 [] (by omega) (by omega) (by omega) ⟨by simp, by simp⟩
  exact this
def dsDr (ds : List De) : Prop := ds.length ≤ 100 ∧ ∀ d ∈ ds, rDr d.Row ∧ -1000 ≤ d.Many ∧ d.Many ≤ 1000
theorem T_l11Sum {ds : List De} (h : ds.length ≤ 50) (hd : ∀ d ∈ ds, rDr d.Row ∧ -1 ≤ d.Many ∧ d.Many ≤ 1) : Tot (m_spec_l11Sum ds) fun r => r.length ≤ 50 ∧ ∀ d ∈ r, rDr d.Row ∧ -1000 ≤ d.Many ∧ d.Many ≤ 1000 := by
  unfold m_spec_l11Sum
  have h1 := scanM (f := fun d : De => d.Row) (J := fun o => m_spec_l11Sum_j1 ds o) ds (fun n k o => m_spec_l11Sum_l1 n ds k o) (fun n k x o hx ho => by
    have hlt := lt_of_at hx
    rw [m_spec_l11Sum_l1, dlt hlt, cond_true, at_of hx, Option.bind_some, app_of (by simp; omega), Option.bind_some, ck1 (by omega), Option.bind_some]) (fun n o ho => by
    rw [m_spec_l11Sum_l1, dnlt, cond_false]) _ fuel0
  rw [h1]
  unfold m_spec_l11Sum_j1
  have hrs : rsSm (ds.map fun d => d.Row) := ⟨by simp; omega, fun r hr => by
    obtain ⟨d, hd', rfl⟩ := List.mem_map.1 hr; exact rDr_sm (hd d hd').1⟩
  refine Tot.bind (T_spec_RowsOnce hrs (by simp; omega)) fun rs hr => ?_
  have hl : rs.length ≤ 50 := by have := hr.1; simp at this; omega
  have hrd : ∀ r ∈ rs, rDr r := fun r hm => by
    obtain ⟨d, hd', rfl⟩ := List.mem_map.1 (hr.2 r hm); exact (hd d hd').1
  obtain ⟨s1, s2, s3⟩ := E_spec_RowsSorted (rs := rs) ⟨by omega, fun r hm => rDr_sm (hrd r hm)⟩
  refine Tot.eq s1 ?_
  have hs : ∀ r ∈ sortR rs, rDr r := fun r hm => hrd r ((sortR_mem _ _).1 hm)
  refine Tot.up ((sortR rs).length : Int) (fun f t (s : List De) => m_spec_l11Sum_l2 f ds t (sortR rs) s) (fun t s => (s.length : Int) ≤ t ∧ ∀ d ∈ s, rDr d.Row ∧ -1000 ≤ d.Many ∧ d.Many ≤ 1000) (fun f s h => by
    rw [m_spec_l11Sum_l2, dnlt, cond_false]
    exact Tot.ret ⟨by omega, h.2⟩) (fun f t s h0 ht hI ih => ?_) ((((sortR rs).length : Int) - 0).toNat + 1) 0 [] (by omega) (by omega) (by omega) ⟨by simp, by simp⟩
  rw [m_spec_l11Sum_l2, decide_eq_true ht, cond_true]
  refine Tot.up (ds.length : Int) (fun f2 t2 (m : Int) => m_spec_l11Sum_l3 (m_spec_l11Sum_l2 f) f2 ds t m t2 (sortR rs) s) (fun t2 m => -t2 ≤ m ∧ m ≤ t2) (fun f2 m hm => ?_) (fun f2 t2 m g0 gt gI ih2 => ?_) (((ds.length : Int) - 0).toNat + 1) 0 0 (by omega) (by omega) (by omega) ⟨by omega, by omega⟩
  · rw [m_spec_l11Sum_l3, dnlt, cond_false]
    unfold m_spec_l11Sum_j3 m_spec_l11Sum_j4
    refine Tot.bif (fun _ => Tot.at h0 ht fun x hx => Tot.at h0 ht fun y hy => Tot.app (by simp; omega) (Tot.ck (by omega) (by omega) (ih _ ⟨by simp; omega, fun d hd' => ?_⟩))) (fun _ => Tot.ck (by omega) (by omega) (ih s ⟨by omega, hI.2⟩))
    rcases List.mem_append.1 hd' with hd' | hd'
    · exact hI.2 d hd'
    · rw [List.mem_singleton.1 hd']; exact ⟨hs y hy, by show -1000 ≤ m; omega, by show m ≤ 1000; omega⟩
  · rw [m_spec_l11Sum_l3, decide_eq_true gt, cond_true]
    refine Tot.at g0 gt fun x hx => Tot.at h0 ht fun y hy => Tot.at h0 ht fun z hz => ?_
    have hxs := (hd x hx).1.1
    rw [E_l3Same (by omega), Option.bind_some]
    unfold m_spec_l11Sum_j2
    refine Tot.bif (fun _ => Tot.at g0 gt fun w hw => ?_) (fun _ => Tot.ck (by omega) (by omega) (ih2 m ⟨by omega, by omega⟩))
    have := (hd w hw).2
    exact Tot.ck (by omega) (by omega) (Tot.ck (by omega) (by omega) (ih2 _ ⟨by omega, by omega⟩))
theorem T_DeltaOf {a b : Rows} (ha : rsDr 12 a) (hb : rsDr 12 b) : Tot (m_spec_DeltaOf a b) fun r => r.length ≤ 50 ∧ ∀ d ∈ r, rDr d.Row ∧ -1000 ≤ d.Many ∧ d.Many ≤ 1000 := by
  obtain ⟨a1, a2⟩ := ha
  obtain ⟨b1, b2⟩ := hb
  unfold m_spec_DeltaOf
  have nil : Tot (some ([] : List De)) fun r => r.length ≤ 50 ∧ ∀ d ∈ r, rDr d.Row ∧ -1000 ≤ d.Many ∧ d.Many ≤ 1000 := Tot.ret ⟨by simp, by simp⟩
  refine Tot.up (a.length : Int) (fun f t (s : List De) => m_spec_DeltaOf_l1 f a b t s) (fun t s => (s.length : Int) ≤ t ∧ ∀ d ∈ s, rDr d.Row ∧ -1 ≤ d.Many ∧ d.Many ≤ 1) (fun f s hI => ?_) (fun f t s h0 ht hI ih => ?_) (((a.length : Int) - 0).toNat + 1) 0 [] (by omega) (by omega) (by omega) ⟨by simp, by simp⟩
  · rw [m_spec_DeltaOf_l1, dnlt, cond_false]
    unfold m_spec_DeltaOf_j1
    refine Tot.up (b.length : Int) (fun f2 t2 (s2 : List De) => m_spec_DeltaOf_l2 f2 b t2 s2) (fun t2 s2 => (s2.length : Int) ≤ 12 + t2 ∧ ∀ d ∈ s2, rDr d.Row ∧ -1 ≤ d.Many ∧ d.Many ≤ 1) (fun f2 s2 gI => ?_) (fun f2 t2 s2 g0 gt gI ih2 => ?_) (((b.length : Int) - 0).toNat + 1) 0 s (by omega) (by omega) (by omega) ⟨by omega, hI.2⟩
    · rw [m_spec_DeltaOf_l2, dnlt, cond_false]
      unfold m_spec_DeltaOf_j2
      exact Tot.bind (T_l11Sum (by omega) gI.2) fun r hr => Tot.ret hr
    · rw [m_spec_DeltaOf_l2, decide_eq_true gt, cond_true]
      refine Tot.at g0 gt fun x hx => ?_
      rw [E_spec_RowOk (rDr_sm (b2 x hx)), Option.bind_some]
      refine Tot.bif (fun _ => nil) (fun _ => Tot.at g0 gt fun y hy => Tot.app (by simp; omega) (Tot.ck (by omega) (by omega) (ih2 _ ⟨by simp; omega, fun d hd => ?_⟩)))
      rcases List.mem_append.1 hd with hd | hd
      · exact gI.2 d hd
      · rw [List.mem_singleton.1 hd]; exact ⟨b2 y hy, by show (-1 : Int) ≤ 1; omega, by show (1 : Int) ≤ 1; omega⟩
  · rw [m_spec_DeltaOf_l1, decide_eq_true ht, cond_true]
    refine Tot.at h0 ht fun x hx => ?_
    rw [E_spec_RowOk (rDr_sm (a2 x hx)), Option.bind_some]
    refine Tot.bif (fun _ => nil) (fun _ => Tot.at h0 ht fun y hy => Tot.app (by simp; omega) (Tot.ck (by omega) (by omega) (ih _ ⟨by simp; omega, fun d hd => ?_⟩)))
    rcases List.mem_append.1 hd with hd | hd
    · exact hI.2 d hd
    · rw [List.mem_singleton.1 hd]; exact ⟨a2 y hy, by show (-1 : Int) ≤ -1; omega, by show (-1 : Int) ≤ 1; omega⟩
def tsDr (l : List Ta) : Prop := l.length ≤ 1000 ∧ ∀ x ∈ l, rSm x.Key ∧ tNum x
theorem talliesOf_dr {rs : Rows} (h : rsDr 12 rs) : tsDr (talliesOf rs) := by
  unfold talliesOf
  split
  · rename_i hc
    obtain ⟨n1, n2⟩ := (tallOf_inv hc.2).num (by omega)
    exact ⟨n1, fun x hx => ⟨(n2 x hx).1, (n2 x hx).2.2.2⟩⟩
  · exact ⟨by simp, by simp⟩
theorem talliesOf_len {rs : Rows} (h : rsDr 12 rs) : (talliesOf rs).length ≤ 12 := by
  unfold talliesOf
  split
  · rename_i hc
    have hI := tallOf_inv hc.2
    have h1 := rsum_len hI.ok
    rw [hI.sum] at h1
    have := h.1
    omega
  · simp
theorem T_l20Tallies {o : Rd} {n : Int} (ho : 0 ≤ o.p ∧ o.p ≤ 1000000000 - 100000) (hn : -1000000 ≤ n ∧ n ≤ 1000000) : Tot (m_spec_l20Tallies o n) fun r => r.1.length ≤ 13 ∧ tsDr r.1 := by
  unfold m_spec_l20Tallies
  refine Tot.bind (T_l20Twos (by omega) (by omega)) fun a ha => Tot.eq (E_spec_TalliesOf2 (rsDr_sm ha.1 (by omega))) ?_
  have hl := talliesOf_len ha.1
  obtain ⟨g1, g2⟩ := talliesOf_dr ha.1
  generalize talliesOf a.1 = l at hl g1 g2 ⊢
  have out : ∀ (r : Rd) (l' : List Ta), l'.length ≤ 13 → (∀ x ∈ l', rSm x.Key ∧ tNum x) → Tot (m_spec_l20Tallies_j2 r l') fun r => r.1.length ≤ 13 ∧ tsDr r.1 := fun r l' h1 h2 => by
    unfold m_spec_l20Tallies_j2; exact Tot.ret ⟨h1, by show l'.length ≤ 1000; omega, h2⟩
  have set : ∀ (k : Nat) (u : Ta), rSm u.Key ∧ tNum u → ∀ (r : Rd), Tot (m_spec_l20Tallies_j2 r (l.set k u)) fun r => r.1.length ≤ 13 ∧ tsDr r.1 := fun k u hu r => out r _ (by rw [List.length_set]; omega) fun y hy => by
    rcases List.mem_or_eq_of_mem_set hy with hy | rfl
    · exact g2 y hy
    · exact hu
  unfold m_spec_l20Tallies_j1
  refine Tot.bif (fun hpos => ?_) (fun _ => by rw [cond_false]; exact out _ _ (by omega) g2)
  have hpos' : (l.length : Int) > 0 := of_decide_eq_true hpos
  refine Tot.bind (T_odd (by omega) hn) fun q hq => Tot.bif (fun _ => ?_) (fun _ => out _ _ (by omega) g2)
  refine Tot.bind (T_pick (by omega)) fun x hx => Tot.bind (T_pick (by omega)) fun y hy => Tot.bif (fun _ => ?_) (fun _ => Tot.bif (fun _ => ?_) (fun _ => Tot.bif (fun _ => ?_) (fun _ => ?_)))
  · refine Tot.bind (T_pick (by omega)) fun c hc => Tot.ck (by omega) (by omega) (Tot.at (by omega) (by omega) fun z hz => Tot.at (by omega) (by omega) fun w hw => Tot.lt (set _ _ (by have := (g2 w hw).2; unfold tNum at *; exact ⟨(g2 w hw).1, by simp only; omega⟩) _))
  · refine Tot.at (by omega) (by omega) fun z hz => Tot.at (by omega) (by omega) fun w hw => Tot.lt (set _ _ (by have := (g2 w hw).2; unfold tNum at *; exact ⟨(g2 w hw).1, by simp only; omega⟩) _)
  · refine Tot.bind (T_pick (by omega)) fun c hc => Tot.ck (by omega) (by omega) (Tot.at (by omega) (by omega) fun z hz => Tot.at (by omega) (by omega) fun w hw => Tot.lt (set _ _ (by have := (g2 w hw).2; unfold tNum at *; exact ⟨(g2 w hw).1, by simp only; omega⟩) _))
  · refine Tot.at (by omega) (by omega) fun z hz => Tot.at (by omega) (by omega) fun w hw => Tot.app (by simp; omega) (out _ _ (by simp; omega) fun u hu => ?_)
    rcases List.mem_append.1 hu with hu | hu
    · exact g2 u hu
    · rw [List.mem_singleton.1 hu]; exact g2 w hw
theorem T_DrawTalliesTurned {l : List UInt8} : Tot (m_spec_DrawTalliesTurned l) fun r => tsDr r.1 ∧ dsDr r.2 := by
  unfold m_spec_DrawTalliesTurned
  refine Tot.bind T_l20Open fun o ho => Tot.bind (T_l20Twos (by omega) (by omega)) fun a ha => Tot.bind (T_l20Twos (by omega) (by omega)) fun b hb => Tot.bind (T_DeltaOf ha.1 hb.1) fun ds hds => ?_
  have fin : ∀ (r : Rd) (d : List De), 0 ≤ r.p ∧ r.p ≤ 10000 → dsDr d → Tot (m_spec_DrawTalliesTurned_j2 a.1 r d) fun r => tsDr r.1 ∧ dsDr r.2 := by
    intro r d hr hd
    unfold m_spec_DrawTalliesTurned_j2 m_spec_DrawTalliesTurned_j3
    refine Tot.eq (E_spec_TalliesOf2 (rsDr_sm ha.1 (by omega))) (Tot.bind (T_pick (by omega)) fun x hx => Tot.bif (fun _ => ?_) (fun _ => Tot.ret ⟨talliesOf_dr ha.1, hd⟩))
    exact Tot.bind (T_l20Tallies (by omega) (by omega)) fun t ht => Tot.ret ⟨ht.2, hd⟩
  have hd0 : dsDr ds := ⟨by omega, hds.2⟩
  unfold m_spec_DrawTalliesTurned_j1
  refine Tot.bif (fun hpos => ?_) (fun _ => by rw [cond_false]; exact fin _ _ (by omega) hd0)
  have hpos' : (ds.length : Int) > 0 := of_decide_eq_true hpos
  refine Tot.bind (T_pick (by omega)) fun x hx => Tot.bif (fun _ => ?_) (fun _ => fin _ _ (by omega) hd0)
  refine Tot.bind (T_pick (by omega)) fun y hy => Tot.bind (T_pick (by omega)) fun z hz => Tot.ck (by omega) (by omega) (Tot.at (by omega) (by omega) fun u hu => Tot.at (by omega) (by omega) fun v hv => Tot.lt (fin _ _ (by omega) ⟨by rw [List.length_set]; omega, fun d hd => ?_⟩))
  rcases List.mem_or_eq_of_mem_set hd with hd | rfl
  · exact hds.2 d hd
  · exact ⟨(hds.2 v hv).1, by show -1000 ≤ z.1 - 6; omega, by show z.1 - 6 ≤ 1000; omega⟩
theorem pure_FnTalliesTurned (l : List UInt8) : m_laws_FnTalliesTurned l = some true := by
  unfold m_laws_FnTalliesTurned
  cases hlen : decide ((l.length : Int) > 1048576)
  · rw [cond_false]
    obtain ⟨⟨ts, ds⟩, hd, ht, hds⟩ := T_DrawTalliesTurned (l := l)
    replace ht : tsDr ts := ht
    replace hds : dsDr ds := hds
    have hdsm : dsSm ds := ⟨by have := hds.1; omega, fun d h => rDr_sm (hds.2 d h).1⟩
    have hl := ht.1
    rw [hd, Option.bind_some]
    show ((m_impl_TalliesTurned ts ds).bind fun x9 => (m_spec_TalliesTurned ts ds).bind fun x11 => _) = _
    rw [E_impl_TalliesTurned (by omega) ht.2 hdsm, Option.bind_some, E_spec_TalliesTurned (by omega) ht.2 hdsm, Option.bind_some, show ((talT ts ds).2 != (talT ts ds).2) = false by simp, cond_false]
    by_cases hok : tlOk ts = true ∧ (trn ts ds).2 = true
    · obtain ⟨h1, h2⟩ := hok
      obtain ⟨out, hout⟩ : ∃ out, trn ts ds = (out, true) := ⟨(trn ts ds).1, Prod.ext rfl h2⟩
      obtain ⟨b1, b2⟩ := trn_back ds ts out h1 hout
      obtain ⟨k1, k2⟩ := tlOk_inv b2
      have hlen2 : ∀ (ds : List De) (l o : List Ta), trn l ds = (o, true) → o.length ≤ l.length + ds.length := by
        intro ds
        induction ds with
        | nil => intro l o h; rw [trn] at h; have : l = o := congrArg Prod.fst h; subst this; simp
        | cons d ds ih =>
          intro l o h
          rw [trn] at h
          split at h
          · have := ih _ _ h
            have := turnT_len l (dT d.Row d.Many)
            rw [List.length_cons]; omega
          · exact absurd (congrArg Prod.snd h) (by simp)
      have hol := hlen2 ds ts out hout
      have hds1 := hds.1
      have hT : talT ts ds = (out, true) := by unfold talT; rw [if_pos h1]; exact hout
      rw [hT]
      show ((m_laws_sameTallies out out).bind _) = _
      rw [E_sameTallies (by omega) (fun x h => by have := (tOk_num (k2 x h)).1.1; omega), Option.bind_some, decide_eq_true rfl]
      unfold m_laws_FnTalliesTurned_j1
      show (bif (!true) then _ else (bif (!true) then _ else ((ckI ((ds.length : Int) - 1)).bind fun x27 => m_laws_FnTalliesTurned_l1 ((x27 - 0).toNat + 2) ts ds out x27 []))) = _
      rw [Bool.not_true, cond_false, cond_false, ckI_of (by omega) (by omega), Option.bind_some]
      -- the deltas, the last one first
      have key : ∀ (k n : Nat) (o : List De), k ≤ ds.length → k < n → o.length + k ≤ 1000 → m_laws_FnTalliesTurned_l1 n ts ds out ((k : Int) - 1) o = m_laws_FnTalliesTurned_j3 ts out (o ++ ((ds.take k).reverse.map negD)) := by
        intro k
        induction k with
        | zero =>
          intro n o hk hn ho
          obtain ⟨n, rfl⟩ : ∃ q, n = q + 1 := ⟨n - 1, by omega⟩
          rw [m_laws_FnTalliesTurned_l1, decide_eq_false (by omega), cond_false]; simp
        | succ k ih =>
          intro n o hk hn ho
          obtain ⟨n, rfl⟩ : ∃ q, n = q + 1 := ⟨n - 1, by omega⟩
          have hx : ds[k]? = some ds[k] := List.getElem?_eq_getElem (by omega)
          have hm := (hds.2 _ (List.mem_of_getElem? hx)).2
          rw [m_laws_FnTalliesTurned_l1, decide_eq_true (by omega), cond_true, show ((k + 1 : Nat) : Int) - 1 = (k : Int) by omega, at_of hx, Option.bind_some, Option.bind_some, ckI_of (by omega) (by omega), Option.bind_some, app_of (by simp; omega), Option.bind_some, ckI_of (by omega) (by omega), Option.bind_some, ih n _ (by omega) (by omega) (by simp; omega)]
          have e : (ds.take (k + 1)).reverse.map negD = negD ds[k] :: (ds.take k).reverse.map negD := by rw [List.take_succ_eq_append_getElem (by omega), List.reverse_append]; rfl
          rw [e, List.append_assoc, show (⟨ds[k].Row, 0 - ds[k].Many⟩ : De) = negD ds[k] by unfold negD; rw [Int.zero_sub]]; rfl
      have hk := key ds.length (((ds.length : Int) - 1 - 0).toNat + 2) [] (by omega) (by omega) (by simp; omega)
      rw [hk, List.take_length, List.nil_append]
      unfold m_laws_FnTalliesTurned_j3 m_laws_FnTalliesTurned_j4
      have hdr : dsSm (ds.reverse.map negD) := ⟨by simp; omega, fun d h => by
        obtain ⟨e, he, rfl⟩ := List.mem_map.1 h
        exact hdsm.2 e (by simpa using he)⟩
      have hT2 : talT out (ds.reverse.map negD) = (ts, true) := by unfold talT; rw [if_pos b2]; exact b1
      have hnum : ∀ x ∈ out, rSm x.Key ∧ tNum x := fun x h => ⟨(tOk_num (k2 x h)).1, (tOk_num (k2 x h)).2.2.2⟩
      rw [E_impl_TalliesTurned (by omega) hnum hdr, Option.bind_some, E_impl_TalliesOk (by omega) hnum, Option.bind_some, b2, cond_true, hT2]
      show (bif true then ((m_laws_sameTallies ts ts).bind _) else _) = _
      rw [cond_true, E_sameTallies (by omega) (fun x h => by have := (ht.2 x h).1.1; omega), Option.bind_some, decide_eq_true rfl, cond_true, E_alive]; rfl
    · have hT : talT ts ds = ([], false) := by
        unfold talT
        split
        · rename_i h1
          have key : ∀ (ds : List De) (l : List Ta), (trn l ds).2 = false → trn l ds = ([], false) := by
            intro ds
            induction ds with
            | nil => intro l h; rw [trn] at h; cases h
            | cons d ds ih =>
              intro l h
              rw [trn] at h ⊢
              split
              · rename_i hc
                rw [if_pos hc] at h
                exact ih _ h
              · rfl
          refine key ds ts ?_
          cases h2 : (trn ts ds).2 with
          | false => rfl
          | true => exact absurd ⟨h1, h2⟩ hok
        · rfl
      rw [hT, E_sameTallies (by simp) (by simp), Option.bind_some, decide_eq_true rfl]
      unfold m_laws_FnTalliesTurned_j1 m_laws_FnTalliesTurned_j2
      rw [Bool.not_true, cond_false, Bool.not_false, cond_true]
      show (bif ((((([] : List Ta).length : Nat) : Int)) == 0) then _ else _) = _
      rw [show ((((([] : List Ta).length : Nat) : Int)) == 0) = true from rfl, cond_true, E_alive]; rfl
  · rfl
end Go.Proofs.Ytijihchddhikhaa
