/- What the mirrors come to, in plain Lean: the law itself at the end. -/
import Derived.Test.YtkgmomocjkmipaaXW3
import Derived.Test.YtkgmomocjkmipaaLd
set_option linter.unusedVariables false
set_option linter.unusedSimpArgs false
set_option linter.unnecessarySimpa false
namespace Go.Proofs.Ytkgmomocjkmipaa
open Go.Proofs Go.Lift
abbrev V := S_impl_Value
abbrev Row := List V
abbrev Rows := List Row

def cmpI (a b : Int) : Int := if a < b then -1 else if b < a then 1 else 0
def cmpS (a b : ByteArray) : Int := if sLt a b then -1 else if sLt a b || sEq a b then 0 else 1
def orI (l : List Int) : Int := (l.find? (· != 0)).getD 0
def lower (l : List UInt8) : Bool := l.all fun b => decide (97 ≤ b.toNat) && decide (b.toNat ≤ 122)
/-- A value is one. -/
def vOk (v : V) : Bool :=
  if v.Kind = 0 then decide (v = ⟨0, 0, ⟨#[]⟩⟩)
  else if v.Kind = 1 then decide (v.S = ⟨#[]⟩) && (decide (-9999 ≤ v.N) && decide (v.N ≤ 9999))
  else if v.Kind = 2 then decide (v.N = 0) && decide (v.S.size ≤ 6) && lower v.S.data.toList
  else if v.Kind = 3 then decide (v.S = ⟨#[]⟩) && (decide (0 ≤ v.N) && decide (v.N ≤ 1))
  else false
def vOrd (v w : V) : Int := orI [cmpI v.Kind w.Kind, cmpI v.N w.N, cmpS v.S w.S]
def rowOk (l : Row) : Bool := decide (l.length ≤ 4) && l.all vOk
/-- As memory holds it with ease. -/
def vSm (v : V) : Prop := v.S.size ≤ 1100000
def rSm (l : Row) : Prop := l.length ≤ 1100000 ∧ ∀ v ∈ l, vSm v
def rsSm (l : Rows) : Prop := l.length ≤ 1100000 ∧ ∀ r ∈ l, rSm r
def cmpL {α : Type} (p : α → α → Int) : List α → List α → Int
  | [], [] => 0
  | [], _ :: _ => -1
  | _ :: _, [] => 1
  | a :: x, b :: y => if p a b = 0 then cmpL p x y else p a b
def vvOrd (a b : V) : Int := if vOk a && vOk b then vOrd a b else 0
def rOrd (a b : Row) : Int := orI [cmpL vOrd a b, cmpI a.length b.length]
def rrOrd (a b : Row) : Int := if rowOk a && rowOk b then rOrd a b else 0

theorem E_IndexFunc_V {l : Row} {p : V → Option Bool} {q : V → Bool} (hl : l.length ≤ 3000000) (hp : ∀ v ∈ l, p v = some (q v)) : m_slices_ContainsFunc_Limpl_Value_impl_Value l p = some (l.any q) := by
  unfold m_slices_ContainsFunc_Limpl_Value_impl_Value m_slices_IndexFunc_Limpl_Value_impl_Value
  have key : ∀ (ys : Row) (k n : Nat), l.drop k = ys → k ≤ l.length → ys.length < n → ∃ i : Int, m_slices_IndexFunc_Limpl_Value_impl_Value_l1 p n l (l.length : Int) (k : Int) = some i ∧ decide (i ≥ 0) = ys.any q := by
    intro ys
    induction ys with
    | nil =>
      intro k n hd hk hn
      have : k = l.length := by
        have := congrArg List.length hd
        simp at this; omega
      subst this
      obtain ⟨m, rfl⟩ : ∃ m, n = m + 1 := ⟨n - 1, by simp at hn; omega⟩
      exact ⟨-1, by simp only [m_slices_IndexFunc_Limpl_Value_impl_Value_l1, dnlt]; rfl, rfl⟩
    | cons y ys ih =>
      intro k n hd hk hn
      have hlt : k < l.length := by
        have := congrArg List.length hd
        simp at this; omega
      have hc := List.drop_eq_getElem_cons hlt
      rw [hd] at hc
      simp only [List.cons.injEq] at hc
      have hx : l[k]? = some y := by rw [List.getElem?_eq_getElem hlt, hc.1]
      obtain ⟨m, rfl⟩ : ∃ m, n = m + 1 := ⟨n - 1, by simp at hn; omega⟩
      simp only [m_slices_IndexFunc_Limpl_Value_impl_Value_l1, dlt hlt, at_of hx, hp y (List.mem_of_getElem? hx), ck1 (show k < 1000000000000 by omega), Option.bind_some, cond_true]
      cases hq : q y
      · obtain ⟨i, h1, h2⟩ := ih (k + 1) m hc.2.symm (by omega) (by simp at hn; omega)
        exact ⟨i, by simpa using h1, by rw [h2]; simp [hq]⟩
      · exact ⟨(k : Int), rfl, by simp [hq]⟩
  obtain ⟨i, h1, h2⟩ := key l 0 _ rfl (by omega) (show l.length < (((l.length : Int) - 0).toNat + 1) by omega)
  rw [show ((0 : Nat) : Int) = 0 from rfl] at h1
  rw [h1]
  simp only [Option.bind_some, h2]
theorem E_between (a b c : Int) : m_impl_between a b c = some (decide (b ≤ a) && decide (a ≤ c)) := by
  unfold m_impl_between m_impl_between_j1
  by_cases h : a ≥ b <;> simp [h]
theorem E_l1In (a b c : Int) : m_spec_l1In a b c = some (decide (b ≤ a) && decide (a ≤ c)) := by
  unfold m_spec_l1In m_spec_l1In_j1
  by_cases h : a ≥ b <;> simp [h]
theorem lower_any (l : List UInt8) : lower l = !(l.any fun b => !(decide (97 ≤ (b.toNat : Int)) && decide ((b.toNat : Int) ≤ 122))) := by
  unfold lower
  rw [List.all_eq_not_any_not]
  congr 2
  funext b
  congr 1
  have h1 : decide (97 ≤ b.toNat) = decide (97 ≤ (b.toNat : Int)) := by rw [decide_eq_decide]; omega
  have h2 : decide (b.toNat ≤ 122) = decide ((b.toNat : Int) ≤ 122) := by rw [decide_eq_decide]; omega
  rw [h1, h2]
theorem E_letters {s : ByteArray} (h : s.size ≤ 3000000) : m_impl_letters s = some (lower s.data.toList) := by
  unfold m_impl_letters sBytes?
  rw [if_pos (by omega)]
  simp only [Option.bind_some]
  have hl : s.data.toList.length ≤ 3000000 := h
  have := scanA (p := fun b : UInt8 => !(decide (97 ≤ (b.toNat : Int)) && decide ((b.toNat : Int) ≤ 122))) (r0 := false) (r1 := true) s.data.toList (fun n k => m_impl_letters_l1 n s.data.toList (s.data.toList.length : Int) k) (fun n k x hx => by
    have := lt_of_at hx
    simp only [m_impl_letters_l1, dlt this, at_of hx, E_between, ck1 (show k < 1000000000000 by omega), Option.bind_some, cond_true]) (fun n => by simp only [m_impl_letters_l1, dnlt]; rfl) _ fuel0
  rw [this, lower_any]
  cases s.data.toList.any fun b => !(decide (97 ≤ (b.toNat : Int)) && decide ((b.toNat : Int) ≤ 122)) <;> rfl
theorem sAt_of {s : ByteArray} {k : Nat} {x : UInt8} (h : s.data.toList[k]? = some x) : sAt? s (k : Int) = some x := by
  unfold sAt?
  rw [if_pos (by omega)]
  obtain ⟨h1, h2⟩ := List.getElem?_eq_some_iff.1 h
  have hs : k < s.size := by have := h1; rwa [Array.length_toList] at this
  have : s[k]? = some (s[k]'hs) := by simp [hs]
  rw [Int.toNat_natCast, this]
  congr 1
theorem E_l1Text {s : ByteArray} (h : s.size ≤ 3000000) : m_spec_l1Text s = some (lower s.data.toList && decide (s.size ≤ 6)) := by
  unfold m_spec_l1Text
  have hl : s.data.toList.length = s.size := rfl
  rw [← hl]
  have := scanA (p := fun b : UInt8 => !(decide (97 ≤ (b.toNat : Int)) && decide ((b.toNat : Int) ≤ 122))) (r0 := false) (r1 := decide ((s.size : Int) ≤ 6)) s.data.toList (fun n k => m_spec_l1Text_l1 n s k) (fun n k x hx => by
    have := lt_of_at hx
    have hd : decide ((k : Int) < (s.size : Int)) = true := by rw [← hl]; exact dlt this
    simp only [m_spec_l1Text_l1, m_spec_l1Text_j1, hd, sAt_of hx, ck1 (show k < 1000000000000 by omega), Option.bind_some, cond_true]
    have e1 : ((97 : UInt8).toNat : Int) = 97 := rfl
    have e2 : ((122 : UInt8).toNat : Int) = 122 := rfl
    rw [e1, e2]
    by_cases h1 : (x.toNat : Int) < 97
    · have : ¬ (97 ≤ (x.toNat : Int)) := by omega
      simp [h1, this]
    · have h1' : 97 ≤ (x.toNat : Int) := by omega
      by_cases h2 : (x.toNat : Int) > 122
      · have : ¬ ((x.toNat : Int) ≤ 122) := by omega
        simp [h1, h2, this]
      · have : (x.toNat : Int) ≤ 122 := by omega
        simp [h1, h2, this, h1']) (fun n => by simp only [m_spec_l1Text_l1, hl, dnlt]; rfl) _ fuel0
  rw [this, lower_any]
  have e : decide ((s.size : Int) ≤ 6) = decide (s.size ≤ 6) := by rw [decide_eq_decide]; omega
  rw [e]
  cases s.data.toList.any fun b => !(decide (97 ≤ (b.toNat : Int)) && decide ((b.toNat : Int) ≤ 122)) <;> simp
theorem E_Value_ok {v : V} (h : v.S.size ≤ 3000000) : m_impl_Value_ok v = some (vOk v) := by
  unfold m_impl_Value_ok m_impl_Value_ok_j1 m_impl_Value_ok_j2 m_impl_Value_ok_j3 vOk
  simp only [E_between, E_letters h, Option.bind_some, sEq_eq]
  by_cases h0 : v.Kind = 0
  · simp [h0]
  · by_cases h1 : v.Kind = 1
    · by_cases hs : v.S = ⟨#[]⟩ <;> simp [beqF h0, h0, h1, hs]
    · by_cases h2 : v.Kind = 2
      · by_cases hn : v.N = 0
        · by_cases hs : v.S.size ≤ 6
          · have : (v.S.size : Int) ≤ 6 := by omega
            simp [beqF h0, beqF h1, h0, h1, h2, hn, hs, this]
          · have : ¬ (v.S.size : Int) ≤ 6 := by omega
            simp [beqF h0, beqF h1, h0, h1, h2, hn, hs, this]
        · simp [beqF h0, beqF h1, h0, h1, h2, beqF hn, hn]
      · by_cases h3 : v.Kind = 3
        · by_cases hs : v.S = ⟨#[]⟩ <;> simp [beqF h0, beqF h1, beqF h2, h0, h1, h2, h3, hs]
        · simp [beqF h0, beqF h1, beqF h2, beqF h3, h0, h1, h2, h3]
theorem E_spec_ValueOk {v : V} (h : v.S.size ≤ 3000000) : m_spec_ValueOk v = some (vOk v) := by
  unfold m_spec_ValueOk m_spec_ValueOk_j1 m_spec_ValueOk_j2 m_spec_ValueOk_j3 m_spec_ValueOk_j4 vOk
  simp only [E_l1In, E_l1Text h, Option.bind_some, sEq_eq]
  obtain ⟨k, n, s⟩ := v
  simp only [S_impl_Value.mk.injEq]
  by_cases h0 : k = 0
  · by_cases hn : n = 0
    · simp [h0, hn]
    · simp [h0, hn, beqF hn]
  · by_cases h1 : k = 1
    · by_cases hs : s = ⟨#[]⟩ <;> by_cases ha : -9999 ≤ n <;> by_cases hb : n ≤ 9999 <;> simp [beqF h0, h0, h1, hs, ha, hb]
    · by_cases h2 : k = 2
      · by_cases hn : n = 0
        · simp [beqF h0, beqF h1, h0, h1, h2, hn, Bool.and_comm]
        · simp [beqF h0, beqF h1, h0, h1, h2, beqF hn, hn]
      · by_cases h3 : k = 3
        · by_cases hs : s = ⟨#[]⟩ <;> by_cases ha : 0 ≤ n <;> by_cases hb : n ≤ 1 <;> simp [beqF h0, beqF h1, beqF h2, h0, h1, h2, h3, hs, ha, hb]
        · simp [beqF h0, beqF h1, beqF h2, beqF h3, h0, h1, h2, h3]
theorem E_impl_RowOk {l : Row} (h : rSm l) : m_impl_RowOk l = some (rowOk l) := by
  unfold m_impl_RowOk m_impl_RowOk_j1 rowOk
  obtain ⟨h1, h2⟩ := h
  rw [E_IndexFunc_V (q := fun v => !(vOk v)) (by omega) (fun v hv => by unfold m_impl_RowOk_1; rw [E_Value_ok (by have := h2 v hv; unfold vSm at this; omega)]; rfl)]
  simp only [Option.bind_some]
  rw [List.all_eq_not_any_not]
  by_cases h : l.length ≤ 4
  · have : (l.length : Int) ≤ 4 := by omega
    simp [h, this]
  · have : ¬ (l.length : Int) ≤ 4 := by omega
    simp [h, this]
theorem E_spec_RowOk {l : Row} (h : rSm l) : m_spec_RowOk l = some (rowOk l) := by
  unfold m_spec_RowOk rowOk
  obtain ⟨h1, h2⟩ := h
  have := scanA (p := fun v => !(vOk v)) (r0 := false) (r1 := decide ((l.length : Int) ≤ 4)) l (fun n k => m_spec_RowOk_l1 n l k) (fun n k x hx => by
    have := lt_of_at hx
    have hsm := h2 x (List.mem_of_getElem? hx)
    unfold vSm at hsm
    simp only [m_spec_RowOk_l1, dlt this, at_of hx, E_spec_ValueOk (show x.S.size ≤ 3000000 by omega), ck1 (show k < 1000000000000 by omega), Option.bind_some, cond_true]) (fun n => by simp only [m_spec_RowOk_l1, dnlt]; rfl) _ fuel0
  rw [this, List.all_eq_not_any_not]
  have e : decide ((l.length : Int) ≤ 4) = decide (l.length ≤ 4) := by rw [decide_eq_decide]; omega
  rw [e]
  cases l.any fun v => !(vOk v) <;> simp
theorem E_CompareI (a b : Int) : m_cmp_Compare_int a b = some (cmpI a b) := by
  unfold m_cmp_Compare_int m_cmp_isNaN_int cmpI
  have e : ∀ x : Int, (x != x) = false := fun x => by simp
  simp only [e, Option.bind_some, cond_false]
  by_cases h : a < b
  · simp [h]
  · by_cases h2 : a > b
    · simp [h, h2]
    · simp [h, h2]
theorem E_CompareS (a b : ByteArray) : m_cmp_Compare_string a b = some (cmpS a b) := by
  unfold m_cmp_Compare_string m_cmp_isNaN_string cmpS
  have e : ∀ x : ByteArray, (!(sEq x x)) = false := fun x => by simp [sEq_eq]
  simp only [e, Option.bind_some, cond_false]
  cases h1 : sLt a b <;> cases h2 : sEq a b <;> simp
theorem E_l1Cmp (a b : ByteArray) : m_spec_l1Cmp a b = some (cmpS a b) := by
  unfold m_spec_l1Cmp cmpS
  cases h1 : sLt a b <;> cases h2 : sEq a b <;> simp
theorem E_Or {l : List Int} (h : l.length ≤ 3000000) : m_cmp_Or_int l = some (orI l) := by
  unfold m_cmp_Or_int
  rw [scanC l (fun n k (_ : Unit) => m_cmp_Or_int_l1 n 0 l (l.length : Int) k) (fun x s k => bif (x != 0) then some x else k s) (fun _ => some 0) (fun n k x s hx => by
    have := lt_of_at hx
    rw [m_cmp_Or_int_l1, dlt this, cond_true, at_of hx, Option.bind_some, ck1 (show k < 1000000000000 by omega), Option.bind_some]) (fun n s => by rw [m_cmp_Or_int_l1, dnlt]; rfl) _ fuel0 ()]
  clear h
  unfold orI
  induction l with
  | nil => rfl
  | cons x l ih =>
    simp only [foldC, List.find?_cons]
    cases hx : (x != 0)
    · simpa using ih
    · rfl
theorem E_order (v w : V) : m_impl_Value_order v w = some (vOrd v w) := by
  unfold m_impl_Value_order vOrd
  rw [E_CompareI, Option.bind_some, E_CompareI, Option.bind_some, E_CompareS, Option.bind_some, E_Or (by simp)]
  rfl
theorem E_CompareFunc {a b : Row} {p : V → V → Option Int} {q : V → V → Int} (ha : a.length ≤ 3000000) (hp : ∀ v w, p v w = some (q v w)) : m_slices_CompareFunc_Limpl_Value_Limpl_Value_impl_Value_impl_Value a b p = some (cmpL q a b) := by
  unfold m_slices_CompareFunc_Limpl_Value_Limpl_Value_impl_Value_impl_Value
  have key : ∀ (ys : Row) (k n : Nat), a.drop k = ys → k ≤ a.length → k ≤ b.length → ys.length < n → m_slices_CompareFunc_Limpl_Value_Limpl_Value_impl_Value_impl_Value_l1 p n a b a (a.length : Int) (k : Int) = some (cmpL q ys (b.drop k)) := by
    intro ys
    induction ys with
    | nil =>
      intro k n hd hk hk2 hn
      have : k = a.length := by
        have := congrArg List.length hd
        simp at this; omega
      subst this
      obtain ⟨m, rfl⟩ : ∃ m, n = m + 1 := ⟨n - 1, by simp at hn; omega⟩
      rw [m_slices_CompareFunc_Limpl_Value_Limpl_Value_impl_Value_impl_Value_l1, dnlt, cond_false]
      unfold m_slices_CompareFunc_Limpl_Value_Limpl_Value_impl_Value_impl_Value_j1
      by_cases h : a.length < b.length
      · rw [List.drop_eq_getElem_cons h]
        have : (a.length : Int) < (b.length : Int) := by omega
        simp [this, cmpL]
      · rw [List.drop_eq_nil_of_le (by omega)]
        have : ¬ (a.length : Int) < (b.length : Int) := by omega
        simp [this, cmpL]
    | cons y ys ih =>
      intro k n hd hk hk2 hn
      have hlt : k < a.length := by
        have := congrArg List.length hd
        simp at this; omega
      have hc := List.drop_eq_getElem_cons hlt
      rw [hd] at hc
      simp only [List.cons.injEq] at hc
      have hx : a[k]? = some y := by rw [List.getElem?_eq_getElem hlt, hc.1]
      obtain ⟨m, rfl⟩ : ∃ m, n = m + 1 := ⟨n - 1, by simp at hn; omega⟩
      rw [m_slices_CompareFunc_Limpl_Value_Limpl_Value_impl_Value_impl_Value_l1, dlt hlt, cond_true, at_of hx, Option.bind_some]
      show (bif decide ((k : Int) ≥ (b.length : Int)) then _ else _) = _
      by_cases h : k < b.length
      · have hd2 : decide ((k : Int) ≥ (b.length : Int)) = false := by simp; omega
        have hb : b[k]? = some b[k] := by simp [h]
        rw [hd2, cond_false, at_of hb, Option.bind_some]
        show ((p y b[k]).bind _) = _
        rw [hp, Option.bind_some, ck1 (show k < 1000000000000 by omega), Option.bind_some, List.drop_eq_getElem_cons h]
        simp only [cmpL]
        have := ih (k + 1) m hc.2.symm (by omega) (by omega) (by simp at hn; omega)
        by_cases hq : q y b[k] = 0
        · rw [if_pos hq]
          have hq' : (q y b[k] != 0) = false := by simp [hq]
          rw [hq', cond_false]
          exact this
        · rw [if_neg hq, beqF' hq, cond_true]
      · have hd2 : decide ((k : Int) ≥ (b.length : Int)) = true := by simp; omega
        rw [hd2, cond_true, List.drop_eq_nil_of_le (by omega)]
        rfl
  have := key a 0 _ rfl (by omega) (by omega) (show a.length < (((a.length : Int) - 0).toNat + 1) by omega)
  simpa using this
theorem E_rowOrder {a b : Row} (ha : a.length ≤ 3000000) : m_impl_rowOrder a b = some (rOrd a b) := by
  unfold m_impl_rowOrder rOrd
  rw [E_CompareFunc ha (fun v w => E_order v w), Option.bind_some, E_CompareI, Option.bind_some, E_Or (by simp)]
  rfl
def lessI (a b : Int) : Int := if a < b then 1 else 0
theorem E_Less (a b : Int) : m_spec_l1Less a b = some (lessI a b) := by
  unfold m_spec_l1Less lessI
  by_cases h : a < b <;> simp [h]
theorem less_b (a b : Int) : 0 ≤ lessI a b ∧ lessI a b ≤ 1 := by unfold lessI; split <;> omega
theorem orI_1 {x : Int} {l : List Int} (h : x ≠ 0) : orI (x :: l) = x := by simp [orI, h]
theorem orI_0 {l : List Int} : orI (0 :: l) = orI l := by simp [orI]
theorem cmpI_0 {a b : Int} : cmpI a b = 0 ↔ a = b := by unfold cmpI; split <;> (try split) <;> omega
theorem less_cmp {a b : Int} (h : a ≠ b) : 2 * lessI b a - 1 = cmpI a b := by unfold lessI cmpI; split <;> split <;> (try split) <;> omega
theorem E_ValueOrder {a b : V} (ha : vSm a) (hb : vSm b) : m_spec_ValueOrder a b = some (vvOrd a b) := by
  unfold m_spec_ValueOrder m_spec_ValueOrder_j1 vvOrd vOrd
  unfold vSm at ha hb
  rw [E_spec_ValueOk (by omega), Option.bind_some, E_spec_ValueOk (by omega), Option.bind_some]
  cases vOk a
  · rfl
  cases vOk b
  · rfl
  simp only [Bool.not_true, cond_false, Bool.and_self, if_true, E_Less, E_l1Cmp, Option.bind_some]
  by_cases h1 : a.Kind = b.Kind
  · have : (a.Kind != b.Kind) = false := by simp [h1]
    rw [this, cond_false, cmpI_0.2 h1, orI_0]
    by_cases h2 : a.N = b.N
    · have : (a.N != b.N) = false := by simp [h2]
      rw [this, cond_false, cmpI_0.2 h2, orI_0]
      by_cases h3 : cmpS a.S b.S = 0
      · rw [h3, orI_0]; rfl
      · rw [orI_1 h3]
    · rw [beqF' h2, cond_true, orI_1 (by rw [ne_eq, cmpI_0]; exact h2), ← less_cmp h2]
      have := less_b b.N a.N
      rw [ckI_of (by omega) (by omega), Option.bind_some, ckI_of (by omega) (by omega), Option.bind_some]
  · rw [beqF' h1, cond_true, orI_1 (by rw [ne_eq, cmpI_0]; exact h1), ← less_cmp h1]
    have := less_b b.Kind a.Kind
    rw [ckI_of (by omega) (by omega), Option.bind_some, ckI_of (by omega) (by omega), Option.bind_some]
theorem cmpL_0 {α : Type} {p : α → α → Int} : ∀ {a b : List α}, cmpL p a b = 0 → a.length = b.length
  | [], [], _ => rfl
  | [], _ :: _, h => by simp [cmpL] at h
  | _ :: _, [], h => by simp [cmpL] at h
  | x :: a, y :: b, h => by
    simp only [cmpL] at h
    split at h
    · simpa using cmpL_0 h
    · exact absurd h (by assumption)
theorem rOrd_cmpL (a b : Row) : rOrd a b = cmpL vOrd a b := by
  unfold rOrd
  by_cases h : cmpL vOrd a b = 0
  · have := cmpL_0 h
    simp [orI, h, cmpI, this]
  · simp [orI, h]
theorem E_spec_RowOrder {a b : Row} (ha : rSm a) (hb : rSm b) : m_spec_RowOrder a b = some (rrOrd a b) := by
  unfold m_spec_RowOrder m_spec_RowOrder_j1 rrOrd
  rw [E_spec_RowOk ha, Option.bind_some, E_spec_RowOk hb, Option.bind_some]
  cases hoa : rowOk a
  · rfl
  cases hob : rowOk b
  · rfl
  simp only [Bool.not_true, cond_false, Bool.and_self, if_true]
  obtain ⟨ha1, ha2⟩ := ha
  obtain ⟨hb1, hb2⟩ := hb
  unfold rowOk at hoa hob
  simp only [Bool.and_eq_true, List.all_eq_true] at hoa hob
  rw [rOrd_cmpL]
  have key : ∀ (ys : Row) (k n : Nat), a.drop k = ys → k ≤ a.length → k ≤ b.length → ys.length < n → m_spec_RowOrder_l1 n a b (k : Int) = some (cmpL vOrd ys (b.drop k)) := by
    intro ys
    induction ys with
    | nil =>
      intro k n hd hk hk2 hn
      have : k = a.length := by
        have := congrArg List.length hd
        simp at this; omega
      subst this
      obtain ⟨m, rfl⟩ : ∃ m, n = m + 1 := ⟨n - 1, by simp at hn; omega⟩
      rw [m_spec_RowOrder_l1, dnlt, cond_false]
      unfold m_spec_RowOrder_j2 m_spec_RowOrder_j3
      rw [cond_false, E_Less, Option.bind_some, E_Less, Option.bind_some]
      have := less_b b.length a.length
      have := less_b a.length b.length
      rw [ckI_of (by omega) (by omega), Option.bind_some]
      congr 1
      by_cases h : a.length < b.length
      · rw [List.drop_eq_getElem_cons h]
        unfold lessI
        rw [if_neg (by omega), if_pos (by omega)]; rfl
      · rw [List.drop_eq_nil_of_le (by omega)]
        unfold lessI
        rw [if_neg (by omega), if_neg (by omega)]; rfl
    | cons y ys ih =>
      intro k n hd hk hk2 hn
      have hlt : k < a.length := by
        have := congrArg List.length hd
        simp at this; omega
      have hc := List.drop_eq_getElem_cons hlt
      rw [hd] at hc
      simp only [List.cons.injEq] at hc
      have hx : a[k]? = some y := by rw [List.getElem?_eq_getElem hlt, hc.1]
      obtain ⟨m, rfl⟩ : ∃ m, n = m + 1 := ⟨n - 1, by simp at hn; omega⟩
      rw [m_spec_RowOrder_l1, dlt hlt, cond_true]
      unfold m_spec_RowOrder_j2
      by_cases h : k < b.length
      · have hb : b[k]? = some b[k] := by simp [h]
        rw [dlt h, cond_true, at_of hx, Option.bind_some, at_of hb, Option.bind_some, E_ValueOrder (ha2 y (List.mem_of_getElem? hx)) (hb2 _ (List.getElem_mem h)), Option.bind_some, ck1 (show k < 1000000000000 by omega), Option.bind_some, List.drop_eq_getElem_cons h]
        have hv : vvOrd y b[k] = vOrd y b[k] := by
          unfold vvOrd
          rw [hoa.2 y (List.mem_of_getElem? hx), hob.2 _ (List.getElem_mem h)]; rfl
        rw [hv]
        simp only [cmpL]
        have := ih (k + 1) m hc.2.symm (by omega) (by omega) (by simp at hn; omega)
        by_cases hq : vOrd y b[k] = 0
        · rw [if_pos hq]
          have hq' : (vOrd y b[k] != 0) = false := by simp [hq]
          rw [hq', cond_false]
          exact this
        · rw [if_neg hq, beqF' hq, cond_true]
      · have hd2 : decide ((k : Int) < (b.length : Int)) = false := by simp; omega
        have hkb : k = b.length := by omega
        unfold m_spec_RowOrder_j3
        rw [hd2, cond_false, E_Less, Option.bind_some, E_Less, Option.bind_some]
        have := less_b b.length a.length
        have := less_b a.length b.length
        rw [ckI_of (by omega) (by omega), Option.bind_some]
        congr 1
        rw [List.drop_eq_nil_of_le (by omega)]
        unfold lessI
        rw [if_pos (by omega), if_neg (by omega)]; rfl
  have := key a 0 1000000000 rfl (by omega) (by omega) (by omega)
  simpa using this
theorem E_clone {l : Row} (h : l.length ≤ 3000000) : m_impl_clone_impl_Value l = some l := by
  unfold m_impl_clone_impl_Value appN?
  cases l with
  | nil => rfl
  | cons x l =>
    have e : (((x :: l).length : Int) == 0) = false := by simp; omega
    rw [e, cond_false, if_pos ⟨by simp, by omega⟩, Option.bind_some]; rfl
theorem foldl_snoc {α : Type} : ∀ (l a : List α), l.foldl (fun s x => s ++ [x]) a = a ++ l
  | [], a => by simp
  | x :: l, a => by rw [List.foldl_cons, foldl_snoc l]; simp
abbrev Rd := S_spec_l20Rd
def Rd.ok (o : Rd) : Prop := 0 ≤ o.p ∧ o.p ≤ 1000000000
/-- A total order, told by numbers. -/
structure TO {α : Type} (p : α → α → Int) : Prop where
  eq0 : ∀ a b, p a b = 0 ↔ a = b
  anti : ∀ a b, p a b < 0 ↔ 0 < p b a
  trans : ∀ a b c, p a b < 0 → p b c < 0 → p a c < 0
theorem TO.comap {α β : Type} {p : β → β → Int} (h : TO p) (f : α → β) (hf : ∀ a b, f a = f b → a = b) : TO fun a b => p (f a) (f b) where
  eq0 a b := ⟨fun e => hf a b ((h.eq0 _ _).1 e), fun e => (h.eq0 _ _).2 (by rw [e])⟩
  anti a b := h.anti _ _
  trans a b c := h.trans _ _ _
theorem TO.total {α : Type} {p : α → α → Int} (h : TO p) (a b : α) : 0 < p a b ↔ p b a < 0 := (h.anti b a).symm
def lx (x y : Int) : Int := if x = 0 then y else x
theorem TO.lex {α β : Type} {p : α → α → Int} {q : β → β → Int} (h : TO p) (k : TO q) : TO fun (a b : α × β) => lx (p a.1 b.1) (q a.2 b.2) where
  eq0 a b := by
    have h1 := h.eq0 a.1 b.1
    have h2 := k.eq0 a.2 b.2
    unfold lx
    split
    · rename_i e; rw [h2]; exact ⟨fun e2 => Prod.ext (h1.1 e) e2, fun e2 => by rw [e2]⟩
    · rename_i e; exact ⟨fun e2 => absurd e2 e, fun e2 => absurd (h1.2 (by rw [e2])) e⟩
  anti a b := by
    have h1 := h.anti a.1 b.1
    have h2 := k.anti a.2 b.2
    have h3 := h.eq0 a.1 b.1
    have h4 := h.eq0 b.1 a.1
    unfold lx
    by_cases e : a.1 = b.1
    · rw [if_pos (h3.2 e), if_pos (h4.2 e.symm)]; exact h2
    · rw [if_neg (fun x => e (h3.1 x)), if_neg (fun x => e (h4.1 x).symm)]; exact h1
  trans a b c := by
    have h1 := h.trans a.1 b.1 c.1
    have h2 := k.trans a.2 b.2 c.2
    unfold lx
    by_cases e1 : a.1 = b.1
    · rw [if_pos ((h.eq0 _ _).2 e1), e1]
      by_cases e2 : b.1 = c.1
      · rw [if_pos ((h.eq0 _ _).2 e2), if_pos ((h.eq0 _ _).2 e2)]; exact h2
      · rw [if_neg (fun x => e2 ((h.eq0 _ _).1 x)), if_neg (fun x => e2 ((h.eq0 _ _).1 x))]; exact fun _ g => g
    · rw [if_neg (fun x => e1 ((h.eq0 _ _).1 x))]
      by_cases e2 : b.1 = c.1
      · rw [← e2, if_pos ((h.eq0 _ _).2 rfl), if_neg (fun x => e1 ((h.eq0 _ _).1 x))]; exact fun g _ => g
      · rw [if_neg (fun x => e2 ((h.eq0 _ _).1 x))]
        intro g1 g2
        have := h1 g1 g2
        rw [if_neg (by omega)]; exact this
theorem TO_int : TO cmpI where
  eq0 a b := by unfold cmpI; split <;> (try split) <;> omega
  anti a b := by unfold cmpI; split <;> split <;> (try split) <;> (try split) <;> omega
  trans a b c := by unfold cmpI; split <;> split <;> (try split) <;> (try split) <;> (try split) <;> omega
def cmpB : List UInt8 → List UInt8 → Int
  | [], [] => 0
  | [], _ :: _ => -1
  | _ :: _, [] => 1
  | a :: x, b :: y => lx (cmpI a.toNat b.toNat) (cmpB x y)
theorem cmpB_less : ∀ a b : List UInt8, (if Op.bytesLess a b then (-1 : Int) else if Op.bytesLess a b || a == b then 0 else 1) = cmpB a b
  | [], [] => rfl
  | [], _ :: _ => rfl
  | _ :: _, [] => rfl
  | a :: x, b :: y => by
    have ih := cmpB_less x y
    simp only [cmpB, ← ih]
    unfold lx cmpI
    simp only [Op.bytesLess]
    rcases Nat.lt_trichotomy a.toNat b.toNat with h | h | h
    · have h' : a < b := UInt8.lt_iff_toNat_lt.2 h
      have h2 : (a.toNat : Int) < b.toNat := by omega
      simp [h', h2]
    · have h' : a = b := UInt8.toNat_inj.1 h
      subst h'
      simp
    · have h' : ¬ a < b := fun e => by have := UInt8.lt_iff_toNat_lt.1 e; omega
      have h2 : ¬ (a.toNat : Int) < b.toNat := by omega
      have h3 : (b.toNat : Int) < a.toNat := by omega
      have h4 : ¬ a = b := fun e => by rw [e] at h; omega
      simp [h', h2, h3, h4]
theorem TO_list {α : Type} {p : α → α → Int} (h : TO p) : TO (cmpL p) where
  eq0 := by
    intro a
    induction a with
    | nil => intro b; cases b <;> simp [cmpL]
    | cons x a ih =>
      intro b
      cases b with
      | nil => simp [cmpL]
      | cons y b =>
        simp only [cmpL]
        split
        · rename_i e; rw [ih b, List.cons.injEq]; exact ⟨fun e2 => ⟨(h.eq0 _ _).1 e, e2⟩, fun e2 => e2.2⟩
        · rename_i e; rw [List.cons.injEq]; exact ⟨fun e2 => absurd e2 e, fun e2 => absurd ((h.eq0 _ _).2 e2.1) e⟩
  anti := by
    intro a
    induction a with
    | nil => intro b; cases b <;> simp [cmpL]
    | cons x a ih =>
      intro b
      cases b with
      | nil => simp [cmpL]
      | cons y b =>
        simp only [cmpL]
        by_cases e : x = y
        · rw [if_pos ((h.eq0 _ _).2 e), if_pos ((h.eq0 _ _).2 e.symm)]; exact ih b
        · rw [if_neg (fun g => e ((h.eq0 _ _).1 g)), if_neg (fun g => e ((h.eq0 _ _).1 g).symm)]; exact h.anti x y
  trans := by
    intro a
    induction a with
    | nil => intro b c; cases b <;> cases c <;> simp [cmpL]
    | cons x a ih =>
      intro b c
      cases b with
      | nil => simp [cmpL]
      | cons y b =>
        cases c with
        | nil => simp [cmpL]
        | cons z c =>
          simp only [cmpL]
          by_cases e1 : x = y
          · rw [if_pos ((h.eq0 _ _).2 e1), e1]
            by_cases e2 : y = z
            · rw [if_pos ((h.eq0 _ _).2 e2), if_pos ((h.eq0 _ _).2 e2)]; exact ih b c
            · rw [if_neg (fun g => e2 ((h.eq0 _ _).1 g)), if_neg (fun g => e2 ((h.eq0 _ _).1 g))]; exact fun _ g => g
          · rw [if_neg (fun g => e1 ((h.eq0 _ _).1 g))]
            by_cases e2 : y = z
            · rw [← e2, if_pos ((h.eq0 _ _).2 rfl), if_neg (fun g => e1 ((h.eq0 _ _).1 g))]; exact fun g _ => g
            · rw [if_neg (fun g => e2 ((h.eq0 _ _).1 g))]
              intro g1 g2
              have := h.trans x y z g1 g2
              rw [if_neg (by omega)]; exact this
theorem TO_byte : TO fun (a b : UInt8) => cmpI a.toNat b.toNat := TO_int.comap (fun b : UInt8 => (b.toNat : Int)) fun a b h => UInt8.toNat_inj.1 (by omega)
theorem cmpB_L : ∀ a b : List UInt8, cmpB a b = cmpL (fun (a b : UInt8) => cmpI a.toNat b.toNat) a b
  | [], [] => rfl
  | [], _ :: _ => rfl
  | _ :: _, [] => rfl
  | a :: x, b :: y => by simp only [cmpB, cmpL, lx, cmpB_L x y]
theorem TO_str : TO cmpS := by
  have h := (TO_list TO_byte).comap (fun s : ByteArray => s.data.toList) (fun a b h => ByteArray.ext (Array.toList_inj.1 h))
  have e : cmpS = fun a b : ByteArray => cmpL (fun (a b : UInt8) => cmpI a.toNat b.toNat) a.data.toList b.data.toList := by
    funext a b
    unfold cmpS sLt sEq
    rw [ByteArray.toList_eq, ByteArray.toList_eq, cmpB_less, cmpB_L]
  rw [e]; exact h
theorem orI_2 (a b : Int) : orI [a, b] = lx a b := by
  unfold lx; split
  · rename_i h; subst h; rw [orI_0]
    by_cases h : b = 0
    · subst h; rfl
    · rw [orI_1 h]
  · rename_i h; rw [orI_1 h]
theorem orI_3 (a b c : Int) : orI [a, b, c] = lx a (lx b c) := by
  by_cases h : a = 0
  · subst h; rw [orI_0, orI_2]; rfl
  · rw [orI_1 h]; unfold lx; rw [if_neg h]
theorem TO_value : TO vOrd := by
  have h := (TO_int.lex (TO_int.lex TO_str)).comap (fun v : V => (v.Kind, (v.N, v.S))) (fun a b h => by
    cases a; cases b; simp only [Prod.mk.injEq] at h; simp [h])
  have e : vOrd = fun a b : V => lx (cmpI a.Kind b.Kind) (lx (cmpI a.N b.N) (cmpS a.S b.S)) := by
    funext a b; unfold vOrd; rw [orI_3]
  rw [e]; exact h
theorem TO_row : TO rOrd := by
  have e : rOrd = cmpL vOrd := by funext a b; exact rOrd_cmpL a b
  rw [e]; exact TO_list TO_value
theorem rr_ok {a b : Row} (ha : rowOk a = true) (hb : rowOk b = true) : rrOrd a b = rOrd a b := by unfold rrOrd; rw [ha, hb]; rfl
theorem L_slices_IndexFunc_LLimpl_Value_Limpl_Value {l : List (List S_impl_Value)} {p : (List S_impl_Value) → Option Bool} {q : (List S_impl_Value) → Bool} (hl : l.length ≤ 3000000) (hp : ∀ v ∈ l, p v = some (q v)) : m_slices_IndexFunc_LLimpl_Value_Limpl_Value l p = some (idxI q l) := by
  unfold m_slices_IndexFunc_LLimpl_Value_Limpl_Value
  exact scanI (q := q) (g := fun i => some i) l (fun n k => m_slices_IndexFunc_LLimpl_Value_Limpl_Value_l1 p n l (l.length : Int) k) (fun n k x hx => by
    have := lt_of_at hx
    rw [m_slices_IndexFunc_LLimpl_Value_Limpl_Value_l1, dlt this, cond_true]
    simp only [at_of hx, Option.bind_some, hp x (List.mem_of_getElem? hx), ck1 (show k < 1000000000000 by omega)]) (fun n => by rw [m_slices_IndexFunc_LLimpl_Value_Limpl_Value_l1, dnlt]; rfl) _ fuel0
theorem L_slices_ContainsFunc_LLimpl_Value_Limpl_Value {l : List (List S_impl_Value)} {p : (List S_impl_Value) → Option Bool} {q : (List S_impl_Value) → Bool} (hl : l.length ≤ 3000000) (hp : ∀ v ∈ l, p v = some (q v)) : m_slices_ContainsFunc_LLimpl_Value_Limpl_Value l p = some (l.any q) := by
  unfold m_slices_ContainsFunc_LLimpl_Value_Limpl_Value
  rw [L_slices_IndexFunc_LLimpl_Value_Limpl_Value hl hp, Option.bind_some, (idxI_ge q l).2.2]
theorem L_slices_BinarySearchFunc_Limpl_Tally_impl_Tally_Limpl_Value {l : List S_impl_Tally} {t1 : (List S_impl_Value)} {p : S_impl_Tally → (List S_impl_Value) → Option Int} {q : S_impl_Tally → Int} (hl : l.length ≤ 3000000) (hp : ∀ x ∈ l, p x t1 = some (q x)) (k : Nat) (hk : k ≤ l.length) (h1 : ∀ (i : Nat) x, i < k → l[i]? = some x → q x < 0) (h2 : ∀ (i : Nat) x, k ≤ i → l[i]? = some x → ¬ q x < 0) :
    m_slices_BinarySearchFunc_Limpl_Tally_impl_Tally_Limpl_Value l t1 p = some ((k : Int), match l[k]? with | some x => q x == 0 | none => false) := by
  unfold m_slices_BinarySearchFunc_Limpl_Tally_impl_Tally_Limpl_Value
  have fin : m_slices_BinarySearchFunc_Limpl_Tally_impl_Tally_Limpl_Value_j1 p l t1 (l.length : Int) (k : Int) = some ((k : Int), match l[k]? with | some x => q x == 0 | none => false) := by
    unfold m_slices_BinarySearchFunc_Limpl_Tally_impl_Tally_Limpl_Value_j1 m_slices_BinarySearchFunc_Limpl_Tally_impl_Tally_Limpl_Value_j2
    rcases Nat.lt_or_ge k l.length with h | h
    · have hx : l[k]? = some l[k] := List.getElem?_eq_getElem h
      rw [dlt h, cond_true, at_of hx, Option.bind_some, hp _ (List.mem_of_getElem? hx), Option.bind_some, hx]
    · have hx : l[k]? = none := List.getElem?_eq_none h
      rw [decide_eq_false (by omega), cond_false, hx]
  have key : ∀ (d a b n : Nat), b - a ≤ d → d < n → a ≤ k → k ≤ b → b ≤ l.length → m_slices_BinarySearchFunc_Limpl_Tally_impl_Tally_Limpl_Value_l1 p n l t1 (l.length : Int) (a : Int) (b : Int) = some ((k : Int), match l[k]? with | some x => q x == 0 | none => false) := by
    intro d
    induction d with
    | zero =>
      intro a b n hd hn ha hb hbl
      obtain ⟨n, rfl⟩ : ∃ q, n = q + 1 := ⟨n - 1, by omega⟩
      obtain rfl : a = k := by omega
      rw [m_slices_BinarySearchFunc_Limpl_Tally_impl_Tally_Limpl_Value_l1, decide_eq_false (by omega), cond_false, fin]
    | succ d ih =>
      intro a b n hd hn ha hb hbl
      obtain ⟨n, rfl⟩ : ∃ q, n = q + 1 := ⟨n - 1, by omega⟩
      by_cases hab : a < b
      · have hlt : (a + b) / 2 < l.length := by omega
        have hx : l[(a + b) / 2]? = some l[(a + b) / 2] := List.getElem?_eq_getElem hlt
        rw [m_slices_BinarySearchFunc_Limpl_Tally_impl_Tally_Limpl_Value_l1, dlt hab, cond_true, show ((a : Int) + (b : Int)) = ((a + b : Nat) : Int) by omega, ckI_of (by omega) (by omega), Option.bind_some, uI_of (by omega) (by omega), Option.bind_some, shr_half, Option.bind_some, uI_of (by omega) (by omega), Option.bind_some, at_of hx, Option.bind_some, hp _ (List.mem_of_getElem? hx), Option.bind_some]
        by_cases hq : q l[(a + b) / 2] < 0
        · have : (a + b) / 2 < k := by
            rcases Nat.lt_or_ge ((a + b) / 2) k with h | h
            · exact h
            · exact absurd hq (h2 _ _ h hx)
          rw [decide_eq_true hq, cond_true, ck1 (by omega), Option.bind_some, show ((((a + b) / 2 : Nat) : Int) + 1) = (((a + b) / 2 + 1 : Nat) : Int) by omega]
          exact ih _ b n (by omega) (by omega) (by omega) hb hbl
        · have : k ≤ (a + b) / 2 := by
            rcases Nat.lt_or_ge ((a + b) / 2) k with h | h
            · exact absurd (h1 _ _ h hx) hq
            · exact h
          rw [decide_eq_false hq, cond_false]
          exact ih a _ n (by omega) (by omega) ha this (by omega)
      · obtain rfl : a = k := by omega
        rw [m_slices_BinarySearchFunc_Limpl_Tally_impl_Tally_Limpl_Value_l1, decide_eq_false (by omega), cond_false, fin]
  exact key l.length 0 l.length _ (by omega) (by omega) (by omega) hk (Nat.le_refl _)
theorem ltE {α β : Type} {x : α} {f : α → β} : lt x f = f x := rfl
theorem bneD {a b : Int} : (a != b) = !decide (a = b) := by by_cases h : a = b <;> simp [h]
def wt_laws_Value (v : S_laws_Value) : Nat := v.S.size
theorem sz_laws_Value {a : S_laws_Value} {left : Int} (hB : B_laws_Value a) (h0 : 0 ≤ left) (h1 : left ≤ 1048576) : m_laws_szValue a left = some (szR left (wt_laws_Value a)) := by
  unfold m_laws_szValue wt_laws_Value
  unfold B_laws_Value at hB
  rw [ckSz' h0 h1 hB.2.2]
  exact szE h0
def wt_Llaws_Value (l : (List S_laws_Value)) : Nat := l.length + (l.map fun x => wt_laws_Value x).sum
theorem wt_Llaws_Value_len {l : (List S_laws_Value)} : l.length ≤ wt_Llaws_Value l := by unfold wt_Llaws_Value; omega
theorem wt_Llaws_Value_mem {l : (List S_laws_Value)} {x : S_laws_Value} (h : x ∈ l) : wt_laws_Value x ≤ wt_Llaws_Value l := by have := sum_mem (wt := fun x : S_laws_Value => wt_laws_Value x) h; unfold wt_Llaws_Value; omega
theorem sz_Llaws_Value {a : (List S_laws_Value)} {left : Int} (hB : (B_list B_laws_Value) a) (h0 : 0 ≤ left) (h1 : left ≤ 1048576) : m_laws_szValueS a left = some (szR left (wt_Llaws_Value a)) := by
  unfold m_laws_szValueS wt_Llaws_Value
  rw [ckSz' h0 h1 hB.1]
  refine szC (k := fun z => m_laws_szValueS_l1 (((a.length : Int) - (0 : Int)).toNat + 1) a z 0) h0 (fun e => ?_)
  refine szLoop0 (fun x => wt_laws_Value x) a (fun f z k => m_laws_szValueS_l1 f a z k) (fun f k z x hx hk h2 h3 => ?_) (fun f z => by rw [m_laws_szValueS_l1, dnlt]; rfl) (by omega) _ (szR_0 e) (szR_le h1)
  rw [m_laws_szValueS_l1, dlt (lt_of_at hx), cond_true, at_of hx, Option.bind_some, sz_laws_Value (hB.2 x (List.mem_of_getElem? hx)) h2 h3, Option.bind_some]
  rw [ck1 (by omega)]
  rfl
def wt_LLlaws_Value (l : (List (List S_laws_Value))) : Nat := l.length + (l.map fun x => wt_Llaws_Value x).sum
theorem wt_LLlaws_Value_len {l : (List (List S_laws_Value))} : l.length ≤ wt_LLlaws_Value l := by unfold wt_LLlaws_Value; omega
theorem wt_LLlaws_Value_mem {l : (List (List S_laws_Value))} {x : (List S_laws_Value)} (h : x ∈ l) : wt_Llaws_Value x ≤ wt_LLlaws_Value l := by have := sum_mem (wt := fun x : (List S_laws_Value) => wt_Llaws_Value x) h; unfold wt_LLlaws_Value; omega
theorem sz_LLlaws_Value {a : (List (List S_laws_Value))} {left : Int} (hB : (B_list (B_list B_laws_Value)) a) (h0 : 0 ≤ left) (h1 : left ≤ 1048576) : m_laws_szValueSS a left = some (szR left (wt_LLlaws_Value a)) := by
  unfold m_laws_szValueSS wt_LLlaws_Value
  rw [ckSz' h0 h1 hB.1]
  refine szC (k := fun z => m_laws_szValueSS_l1 (((a.length : Int) - (0 : Int)).toNat + 1) a z 0) h0 (fun e => ?_)
  refine szLoop0 (fun x => wt_Llaws_Value x) a (fun f z k => m_laws_szValueSS_l1 f a z k) (fun f k z x hx hk h2 h3 => ?_) (fun f z => by rw [m_laws_szValueSS_l1, dnlt]; rfl) (by omega) _ (szR_0 e) (szR_le h1)
  rw [m_laws_szValueSS_l1, dlt (lt_of_at hx), cond_true, at_of hx, Option.bind_some, sz_Llaws_Value (hB.2 x (List.mem_of_getElem? hx)) h2 h3, Option.bind_some]
  rw [ck1 (by omega)]
  rfl
def cv_laws_Value (v : S_laws_Value) : S_impl_Value := ⟨v.Kind, v.N, v.S⟩
theorem to_laws_Value {a : S_laws_Value} (h : wt_laws_Value a ≤ 100000000) : m_laws_toValue a = some (cv_laws_Value a) := by
  unfold wt_laws_Value at h
  unfold m_laws_toValue cv_laws_Value
  all_goals rfl
def wt_impl_Value (v : S_impl_Value) : Nat := v.S.size
theorem wc_laws_Value {v : S_laws_Value} : wt_impl_Value (cv_laws_Value v) = wt_laws_Value v := rfl
def cv_Llaws_Value (l : (List S_laws_Value)) : (List S_impl_Value) := l.map cv_laws_Value
theorem to_Llaws_Value {a : (List S_laws_Value)} (h : wt_Llaws_Value a ≤ 100000000) : m_laws_toValueS a = some (cv_Llaws_Value a) := by
  have hl : a.length ≤ 100000000 := by have := wt_Llaws_Value_len (l := a); omega
  unfold m_laws_toValueS cv_Llaws_Value
  refine toLoop0 cv_laws_Value a _ (fun f k o => m_laws_toValueS_l1 f a k o) (fun f k o x hx hk ho => ?_) (fun f o => by rw [m_laws_toValueS_l1, dnlt]; rfl) (by omega)
  have hy := at_some (l := o) (k := k) (by have := lt_of_at hx; omega)
  rw [m_laws_toValueS_l1, dlt (lt_of_at hx), cond_true, at_of hx, Option.bind_some, to_laws_Value (by have := wt_Llaws_Value_mem (List.mem_of_getElem? hx); omega), Option.bind_some, hy, Option.bind_some, Option.bind_some]
  try rw [ltE]
  rw [ck1 (by omega), Option.bind_some, Int.toNat_natCast]
  rfl
def wt_Limpl_Value (l : (List S_impl_Value)) : Nat := l.length + (l.map fun x => wt_impl_Value x).sum
theorem wt_Limpl_Value_len {l : (List S_impl_Value)} : l.length ≤ wt_Limpl_Value l := by unfold wt_Limpl_Value; omega
theorem wt_Limpl_Value_mem {l : (List S_impl_Value)} {x : S_impl_Value} (h : x ∈ l) : wt_impl_Value x ≤ wt_Limpl_Value l := by have := sum_mem (wt := fun x : S_impl_Value => wt_impl_Value x) h; unfold wt_Limpl_Value; omega
theorem wc_Llaws_Value {l : (List S_laws_Value)} : wt_Limpl_Value (cv_Llaws_Value l) = wt_Llaws_Value l := by
  unfold wt_Limpl_Value cv_Llaws_Value wt_Llaws_Value
  rw [List.length_map, List.map_map]
  first | done | (congr 2; exact List.map_congr_left fun x _ => wc_laws_Value) | rfl
def cv_LLlaws_Value (l : (List (List S_laws_Value))) : (List (List S_impl_Value)) := l.map cv_Llaws_Value
theorem to_LLlaws_Value {a : (List (List S_laws_Value))} (h : wt_LLlaws_Value a ≤ 100000000) : m_laws_toValueSS a = some (cv_LLlaws_Value a) := by
  have hl : a.length ≤ 100000000 := by have := wt_LLlaws_Value_len (l := a); omega
  unfold m_laws_toValueSS cv_LLlaws_Value
  refine toLoop0 cv_Llaws_Value a _ (fun f k o => m_laws_toValueSS_l1 f a k o) (fun f k o x hx hk ho => ?_) (fun f o => by rw [m_laws_toValueSS_l1, dnlt]; rfl) (by omega)
  have hy := at_some (l := o) (k := k) (by have := lt_of_at hx; omega)
  rw [m_laws_toValueSS_l1, dlt (lt_of_at hx), cond_true, at_of hx, Option.bind_some, to_Llaws_Value (by have := wt_LLlaws_Value_mem (List.mem_of_getElem? hx); omega), Option.bind_some, hy, Option.bind_some, Option.bind_some]
  try rw [ltE]
  rw [ck1 (by omega), Option.bind_some, Int.toNat_natCast]
  rfl
def wt_LLimpl_Value (l : (List (List S_impl_Value))) : Nat := l.length + (l.map fun x => wt_Limpl_Value x).sum
theorem wt_LLimpl_Value_len {l : (List (List S_impl_Value))} : l.length ≤ wt_LLimpl_Value l := by unfold wt_LLimpl_Value; omega
theorem wt_LLimpl_Value_mem {l : (List (List S_impl_Value))} {x : (List S_impl_Value)} (h : x ∈ l) : wt_Limpl_Value x ≤ wt_LLimpl_Value l := by have := sum_mem (wt := fun x : (List S_impl_Value) => wt_Limpl_Value x) h; unfold wt_LLimpl_Value; omega
theorem wc_LLlaws_Value {l : (List (List S_laws_Value))} : wt_LLimpl_Value (cv_LLlaws_Value l) = wt_LLlaws_Value l := by
  unfold wt_LLimpl_Value cv_LLlaws_Value wt_LLlaws_Value
  rw [List.length_map, List.map_map]
  first | done | (congr 2; exact List.map_congr_left fun x _ => wc_Llaws_Value) | rfl
theorem eq_impl_Value {a b : S_impl_Value} (h : wt_impl_Value a ≤ 100000000) : m_laws_eqValue a b = some (decide (a = b)) := by
  unfold wt_impl_Value at h
  unfold m_laws_eqValue
  rw [bneD]
  by_cases g0 : a.Kind = b.Kind
  case neg => rw [decide_eq_false g0, Bool.not_false, cond_true, decide_eq_false (fun e => g0 (by rw [e]))]
  rw [decide_eq_true g0, Bool.not_true, cond_false]
  rw [bneD]
  by_cases g1 : a.N = b.N
  case neg => rw [decide_eq_false g1, Bool.not_false, cond_true, decide_eq_false (fun e => g1 (by rw [e]))]
  rw [decide_eq_true g1, Bool.not_true, cond_false]
  rw [sEq_eq]
  by_cases g2 : a.S = b.S
  case neg => rw [decide_eq_false g2, Bool.not_false, cond_true, decide_eq_false (fun e => g2 (by rw [e]))]
  rw [decide_eq_true g2, Bool.not_true, cond_false]
  rw [decide_eq_true (show a = b by cases a; cases b; simp only at g0 g1 g2; subst g0 g1 g2; rfl)]
theorem eq_Limpl_Value {a b : (List S_impl_Value)} (h : wt_Limpl_Value a ≤ 100000000) : m_laws_eqValueS a b = some (decide (a = b)) := by
  have hl : a.length ≤ 100000000 := by have := wt_Limpl_Value_len (l := a); omega
  unfold m_laws_eqValueS
  refine eqLoop a b (fun f k => m_laws_eqValueS_l1 f a b k) (fun f k x y hx hy hk => ?_) (fun f => by rw [m_laws_eqValueS_l1, dnlt]; rfl) (by omega)
  rw [m_laws_eqValueS_l1, dlt (lt_of_at hx), cond_true, at_of hx, Option.bind_some, at_of hy, Option.bind_some, eq_impl_Value (by have := wt_Limpl_Value_mem (List.mem_of_getElem? hx); omega), Option.bind_some, ck1 (by omega), Option.bind_some]
  rfl
def wt_impl_Tally (v : S_impl_Tally) : Nat := wt_Limpl_Value v.Key
theorem eq_impl_Tally {a b : S_impl_Tally} (h : wt_impl_Tally a ≤ 100000000) : m_laws_eqTally a b = some (decide (a = b)) := by
  unfold wt_impl_Tally at h
  unfold m_laws_eqTally
  rw [eq_Limpl_Value (by omega), Option.bind_some]
  by_cases g0 : a.Key = b.Key
  case neg => rw [decide_eq_false g0, Bool.not_false, cond_true, decide_eq_false (fun e => g0 (by rw [e]))]
  rw [decide_eq_true g0, Bool.not_true, cond_false]
  rw [bneD]
  by_cases g1 : a.Rows = b.Rows
  case neg => rw [decide_eq_false g1, Bool.not_false, cond_true, decide_eq_false (fun e => g1 (by rw [e]))]
  rw [decide_eq_true g1, Bool.not_true, cond_false]
  rw [bneD]
  by_cases g2 : a.Many = b.Many
  case neg => rw [decide_eq_false g2, Bool.not_false, cond_true, decide_eq_false (fun e => g2 (by rw [e]))]
  rw [decide_eq_true g2, Bool.not_true, cond_false]
  rw [bneD]
  by_cases g3 : a.Sum = b.Sum
  case neg => rw [decide_eq_false g3, Bool.not_false, cond_true, decide_eq_false (fun e => g3 (by rw [e]))]
  rw [decide_eq_true g3, Bool.not_true, cond_false]
  rw [decide_eq_true (show a = b by cases a; cases b; simp only at g0 g1 g2 g3; subst g0 g1 g2 g3; rfl)]
def wt_Limpl_Tally (l : (List S_impl_Tally)) : Nat := l.length + (l.map fun x => wt_impl_Tally x).sum
theorem wt_Limpl_Tally_len {l : (List S_impl_Tally)} : l.length ≤ wt_Limpl_Tally l := by unfold wt_Limpl_Tally; omega
theorem wt_Limpl_Tally_mem {l : (List S_impl_Tally)} {x : S_impl_Tally} (h : x ∈ l) : wt_impl_Tally x ≤ wt_Limpl_Tally l := by have := sum_mem (wt := fun x : S_impl_Tally => wt_impl_Tally x) h; unfold wt_Limpl_Tally; omega
theorem eq_Limpl_Tally {a b : (List S_impl_Tally)} (h : wt_Limpl_Tally a ≤ 100000000) : m_laws_eqTallyS a b = some (decide (a = b)) := by
  have hl : a.length ≤ 100000000 := by have := wt_Limpl_Tally_len (l := a); omega
  unfold m_laws_eqTallyS
  refine eqLoop a b (fun f k => m_laws_eqTallyS_l1 f a b k) (fun f k x y hx hy hk => ?_) (fun f => by rw [m_laws_eqTallyS_l1, dnlt]; rfl) (by omega)
  rw [m_laws_eqTallyS_l1, dlt (lt_of_at hx), cond_true, at_of hx, Option.bind_some, at_of hy, Option.bind_some, eq_impl_Tally (by have := wt_Limpl_Tally_mem (List.mem_of_getElem? hx); omega), Option.bind_some, ck1 (by omega), Option.bind_some]
  rfl
theorem eq_LLimpl_Value {a b : (List (List S_impl_Value))} (h : wt_LLimpl_Value a ≤ 100000000) : m_laws_eqValueSS a b = some (decide (a = b)) := by
  have hl : a.length ≤ 100000000 := by have := wt_LLimpl_Value_len (l := a); omega
  unfold m_laws_eqValueSS
  refine eqLoop a b (fun f k => m_laws_eqValueSS_l1 f a b k) (fun f k x y hx hy hk => ?_) (fun f => by rw [m_laws_eqValueSS_l1, dnlt]; rfl) (by omega)
  rw [m_laws_eqValueSS_l1, dlt (lt_of_at hx), cond_true, at_of hx, Option.bind_some, at_of hy, Option.bind_some, eq_Limpl_Value (by have := wt_LLimpl_Value_mem (List.mem_of_getElem? hx); omega), Option.bind_some, ck1 (by omega), Option.bind_some]
  rfl
def v0 : V := ⟨0, 0, ⟨#[]⟩⟩
def total (left : List Rows) : Nat := left.flatten.length
def eqR (a b : Row) : Bool := decide (a = b)
abbrev Ta := S_impl_Tally
def kLt (a b : Ta) : Prop := rOrd a.Key b.Key < 0
def ks (l : List Ta) : Prop := l.Pairwise kLt
def addT (x t : Ta) : Ta := ⟨x.Key, x.Rows + t.Rows, x.Many + t.Many, x.Sum + t.Sum⟩
def nz (t : Ta) : Bool := !(decide (t.Rows = 0) && (decide (t.Many = 0) && decide (t.Sum = 0)))
/-- What a row, so many times, turns. -/
def dT (r : Row) (m : Int) : Ta := if (r.getD 1 v0).Kind = 1 then ⟨r.take 1, m, m, m * (r.getD 1 v0).N⟩ else ⟨r.take 1, m, 0, 0⟩
def turnT : List Ta → Ta → List Ta
  | [], t => [t]
  | x :: l, t => if rOrd x.Key t.Key < 0 then x :: turnT l t else if x.Key = t.Key then (if nz (addT x t) then addT x t :: l else l) else t :: x :: l
theorem dT_key (r : Row) (m : Int) : (dT r m).Key = r.take 1 ∧ (dT r m).Rows = m := by unfold dT; split <;> exact ⟨rfl, rfl⟩
theorem turnT_mem {l : List Ta} {t x : Ta} (h : x ∈ turnT l t) : x ∈ l ∨ x = t ∨ ∃ y ∈ l, y.Key = t.Key ∧ x = addT y t := by
  induction l with
  | nil => rw [turnT] at h; exact .inr (.inl (List.mem_singleton.1 h))
  | cons y l ih =>
    rw [turnT] at h
    split at h
    · rcases List.mem_cons.1 h with rfl | h
      · exact .inl (by simp)
      · rcases ih h with h | h | ⟨z, hz, h⟩
        · exact .inl (by simp [h])
        · exact .inr (.inl h)
        · exact .inr (.inr ⟨z, by simp [hz], h⟩)
    · split at h
      · rename_i he
        split at h
        · rcases List.mem_cons.1 h with rfl | h
          · exact .inr (.inr ⟨y, by simp, he, rfl⟩)
          · exact .inl (by simp [h])
        · exact .inl (by simp [h])
      · rcases List.mem_cons.1 h with rfl | h
        · exact .inr (.inl rfl)
        · exact .inl h
theorem turnT_key {l : List Ta} {t x : Ta} (h : x ∈ turnT l t) : (∃ y ∈ l, y.Key = x.Key) ∨ x.Key = t.Key := by
  rcases turnT_mem h with h | rfl | ⟨y, hy, _, rfl⟩
  · exact .inl ⟨x, h, rfl⟩
  · exact .inr rfl
  · exact .inl ⟨y, hy, rfl⟩
theorem turnT_ks {l : List Ta} {t : Ta} (h : ks l) : ks (turnT l t) := by
  induction l with
  | nil => exact List.pairwise_singleton _ _
  | cons x l ih =>
    obtain ⟨h1, h2⟩ := List.pairwise_cons.1 h
    rw [turnT]
    split
    · rename_i hlt
      refine List.pairwise_cons.2 ⟨fun y hy => ?_, ih h2⟩
      rcases turnT_key hy with ⟨z, hz, e⟩ | e
      · have := h1 z hz
        unfold kLt at this ⊢; rw [← e]; exact this
      · unfold kLt; rw [e]; exact hlt
    · rename_i hnlt
      split
      · rename_i he
        split
        · exact List.pairwise_cons.2 ⟨fun y hy => h1 y hy, h2⟩
        · exact h2
      · rename_i hne
        refine List.pairwise_cons.2 ⟨fun y hy => ?_, h⟩
        have htx : rOrd t.Key x.Key < 0 := by
          have h3 := TO_row.anti x.Key t.Key
          have h4 := TO_row.anti t.Key x.Key
          have h5 := (TO_row.eq0 x.Key t.Key)
          have : ¬ rOrd x.Key t.Key = 0 := fun e => hne (h5.1 e)
          omega
        rcases List.mem_cons.1 hy with rfl | hy
        · exact htx
        · exact TO_row.trans _ _ _ htx (h1 y hy)
/-- Ahead of what is less all stays. -/
theorem turnT_split {A B : List Ta} {t : Ta} (h : ∀ x ∈ A, rOrd x.Key t.Key < 0) : turnT (A ++ B) t = A ++ turnT B t := by
  induction A with
  | nil => rfl
  | cons x A ih =>
    rw [List.cons_append, turnT, if_pos (h x (by simp)), ih fun y hy => h y (by simp [hy])]; rfl
/-- Where a key stands in tallies in order. -/
theorem ks_split {l : List Ta} (h : ks l) (k : Row) : ∃ A B, l = A ++ B ∧ (∀ x ∈ A, rOrd x.Key k < 0) ∧ ∀ x ∈ B, ¬ rOrd x.Key k < 0 := by
  induction l with
  | nil => exact ⟨[], [], rfl, by simp, by simp⟩
  | cons x l ih =>
    obtain ⟨h1, h2⟩ := List.pairwise_cons.1 h
    by_cases hx : rOrd x.Key k < 0
    · obtain ⟨A, B, rfl, hA, hB⟩ := ih h2
      exact ⟨x :: A, B, rfl, fun y hy => by rcases List.mem_cons.1 hy with rfl | hy; exact hx; exact hA y hy, hB⟩
    · refine ⟨[], x :: l, rfl, by simp, fun y hy => ?_⟩
      rcases List.mem_cons.1 hy with rfl | hy
      · exact hx
      · intro hlt
        exact hx (TO_row.trans _ _ _ (h1 y hy) hlt)

def t3 (t : Ta) : Int × Int × Int := (t.Rows, t.Many, t.Sum)
theorem nz_false {t : Ta} (h : ¬ nz t = true) : t3 t = (0, 0, 0) := by
  unfold nz at h
  simp at h
  unfold t3; rw [h.1, h.2.1, h.2.2]
theorem at_mid {α : Type} {A B : List α} {x : α} : at? (A ++ x :: B) (A.length : Int) = some x := at_of (by simp)
theorem set_mid {α : Type} {A B : List α} {x y : α} : (A ++ x :: B).set A.length y = A ++ y :: B := by
  rw [List.set_append_right _ _ (Nat.le_refl _)]; simp
def tNum (t : Ta) : Prop := -1000000000 ≤ t.Rows ∧ t.Rows ≤ 1000000000 ∧ -1000000000 ≤ t.Many ∧ t.Many ≤ 1000000000 ∧ -100000000000000 ≤ t.Sum ∧ t.Sum ≤ 100000000000000

theorem j4_nz {k1 : List Ta → Bool → Int → Ta → List Ta → Option (List Ta)} {t0 : List Ta} {b : Bool} {t12 : Int} {t x : Ta} {out : List Ta} : m_spec_l32Turn_j4 k1 t0 b t12 t x out = m_spec_l32Turn_j5 k1 t0 b t12 (nz x) t x out := by
  unfold m_spec_l32Turn_j4 nz
  rw [neB, neB, neB]
  cases h1 : decide (x.Rows = 0)
  · rw [Bool.not_false, cond_true]; rfl
  · rw [Bool.not_true, cond_false]
    cases h2 : decide (x.Many = 0)
    · rw [Bool.not_false, cond_true]; rfl
    · rw [Bool.not_true, cond_false]; simp
theorem E_l32_loop {l : List Ta} {t : Ta} (hl : l.length ≤ 100000) (hk : ks l) (hx : ∀ x ∈ l, rSm x.Key ∧ rowOk x.Key = true ∧ nz x = true ∧ tNum x) (ht : rSm t.Key ∧ rowOk t.Key = true ∧ tNum t) : ∀ (d k n : Nat) (out : List Ta), k + d = l.length → d < n → out.length ≤ k + 1 →
    ((∀ i x, k ≤ i → l[i]? = some x → 0 < rOrd x.Key t.Key) → m_spec_l32Turn_l1 n l true (k : Int) t out = some (out ++ l.drop k)) ∧ m_spec_l32Turn_l1 n l false (k : Int) t out = some (out ++ turnT (l.drop k) t) := by
  intro d
  induction d with
  | zero =>
    intro k n out hkd hn ho
    obtain ⟨n, rfl⟩ : ∃ q, n = q + 1 := ⟨n - 1, by omega⟩
    obtain rfl : k = l.length := by omega
    refine ⟨fun _ => ?_, ?_⟩
    · rw [m_spec_l32Turn_l1, dnlt, cond_false]
      unfold m_spec_l32Turn_j7 m_spec_l32Turn_j8
      rw [Bool.not_true, cond_false]; simp
    · rw [m_spec_l32Turn_l1, dnlt, cond_false]
      unfold m_spec_l32Turn_j7 m_spec_l32Turn_j8
      rw [Bool.not_false, cond_true, app_of (by rw [List.length_singleton]; omega), Option.bind_some]
      simp [turnT]
  | succ d ih =>
    intro k n out hkd hn ho
    obtain ⟨n, rfl⟩ : ∃ q, n = q + 1 := ⟨n - 1, by omega⟩
    have hlt : k < l.length := by omega
    have hg : l[k]? = some l[k] := List.getElem?_eq_getElem hlt
    obtain ⟨x1, x2, x3, x4⟩ := hx _ (List.mem_of_getElem? hg)
    obtain ⟨u1, u2, u3, u4, u5, u6⟩ := x4
    obtain ⟨w1, w2, w3, w4, w5, w6⟩ := ht.2.2
    have hd : l.drop k = l[k] :: l.drop (k + 1) := List.drop_eq_getElem_cons hlt
    have next : ∀ (b : Bool) (y : Ta) (out' : List Ta), m_spec_l32Turn_j5 (m_spec_l32Turn_l1 n) l b (k : Int) true t y out' = (app? out' [y]).bind fun x48 => m_spec_l32Turn_l1 n l b ((k + 1 : Nat) : Int) t x48 := by
      intro b y out'
      unfold m_spec_l32Turn_j5 m_spec_l32Turn_j6
      rw [cond_true, ck1 (by omega)]; rfl
    have skip : ∀ (b : Bool) (y : Ta) (out' : List Ta), m_spec_l32Turn_j5 (m_spec_l32Turn_l1 n) l b (k : Int) false t y out' = m_spec_l32Turn_l1 n l b ((k + 1 : Nat) : Int) t out' := by
      intro b y out'
      unfold m_spec_l32Turn_j5 m_spec_l32Turn_j6
      rw [cond_false, ck1 (by omega)]; rfl
    have head : ∀ b, m_spec_l32Turn_l1 (n + 1) l b (k : Int) t out = bif decide (rOrd l[k].Key t.Key > 0) then m_spec_l32Turn_j2 (m_spec_l32Turn_l1 n) l b (k : Int) (rOrd l[k].Key t.Key) (!b) t l[k] out else m_spec_l32Turn_j2 (m_spec_l32Turn_l1 n) l b (k : Int) (rOrd l[k].Key t.Key) false t l[k] out := by
      intro b
      rw [m_spec_l32Turn_l1, dlt hlt, cond_true, at_of hg, Option.bind_some]
      simp only [Go.Lift.lt]
      rw [E_spec_RowOrder x1 ht.1, Option.bind_some, rr_ok x2 ht.2.1]
    -- behind it: done
    have past : ∀ out' : List Ta, out'.length ≤ k + 1 + 1 → 0 < rOrd l[k].Key t.Key → (∀ i x, k + 1 ≤ i → l[i]? = some x → 0 < rOrd x.Key t.Key) → m_spec_l32Turn_j3 (m_spec_l32Turn_l1 n) l true (k : Int) (rOrd l[k].Key t.Key) t l[k] out' = some (out' ++ l[k] :: l.drop (k + 1)) ∨ out'.length = k + 2 := by
      intro out' h1 h2 h3
      by_cases h4 : out'.length = k + 2
      · exact .inr h4
      · left
        unfold m_spec_l32Turn_j3
        rw [beqF (by omega), cond_false, j4_nz, x3, next, app_of (by rw [List.length_singleton]; omega), Option.bind_some, (ih (k + 1) n _ (by omega) (by omega) (by rw [List.length_append, List.length_singleton]; omega)).1 h3]
        simp
    refine ⟨fun hpos => ?_, ?_⟩
    · have h0 := hpos k _ (Nat.le_refl _) hg
      rw [head true, decide_eq_true h0, cond_true]
      unfold m_spec_l32Turn_j2
      rw [Bool.not_true, cond_false, hd]
      rcases past out (by omega) h0 (fun i x hi hix => hpos i x (by omega) hix) with h | h
      · exact h
      · omega
    · rw [head false, hd, turnT]
      by_cases hpos : rOrd l[k].Key t.Key > 0
      · have hne : ¬ l[k].Key = t.Key := fun e => by have := (TO_row.eq0 l[k].Key t.Key).2 e; omega
        have hrest : ∀ i x, k + 1 ≤ i → l[i]? = some x → 0 < rOrd x.Key t.Key := by
          intro i x hi hix
          obtain ⟨g1, g2⟩ := List.getElem?_eq_some_iff.1 hix
          have := List.pairwise_iff_getElem.1 hk k i hlt g1 (by omega)
          rw [g2] at this
          unfold kLt at this
          have a1 := TO_row.anti t.Key l[k].Key
          have a2 := TO_row.anti t.Key x.Key
          exact a2.1 (TO_row.trans _ _ _ (a1.2 hpos) this)
        rw [decide_eq_true hpos, cond_true]
        unfold m_spec_l32Turn_j2
        rw [Bool.not_false, cond_true, app_of (by rw [List.length_singleton]; omega), Option.bind_some, if_neg (by omega), if_neg hne]
        unfold m_spec_l32Turn_j3
        rw [beqF (by omega), cond_false, j4_nz, x3, next, app_of (by rw [List.length_append, List.length_singleton, List.length_singleton]; omega), Option.bind_some]
        have hdone : ∀ (d' k' n' : Nat) (out' : List Ta), k' + d' = l.length → d' < n' → out'.length ≤ 100000 + k' → k + 1 ≤ k' → m_spec_l32Turn_l1 n' l true (k' : Int) t out' = some (out' ++ l.drop k') := by
          intro d'
          induction d' with
          | zero =>
            intro k' n' out' e1 e2 e3 e4
            obtain ⟨n', rfl⟩ : ∃ q, n' = q + 1 := ⟨n' - 1, by omega⟩
            obtain rfl : k' = l.length := by omega
            rw [m_spec_l32Turn_l1, dnlt, cond_false]
            unfold m_spec_l32Turn_j7 m_spec_l32Turn_j8
            rw [Bool.not_true, cond_false]; simp
          | succ d' ih' =>
            intro k' n' out' e1 e2 e3 e4
            obtain ⟨n', rfl⟩ : ∃ q, n' = q + 1 := ⟨n' - 1, by omega⟩
            have hlt' : k' < l.length := by omega
            have hg' : l[k']? = some l[k'] := List.getElem?_eq_getElem hlt'
            obtain ⟨y1, y2, y3, _⟩ := hx _ (List.mem_of_getElem? hg')
            have hp' := hrest k' _ e4 hg'
            rw [m_spec_l32Turn_l1, dlt hlt', cond_true, at_of hg', Option.bind_some]
            simp only [Go.Lift.lt]
            rw [E_spec_RowOrder y1 ht.1, Option.bind_some, rr_ok y2 ht.2.1, decide_eq_true hp', cond_true]
            unfold m_spec_l32Turn_j2
            rw [Bool.not_true, cond_false]
            unfold m_spec_l32Turn_j3
            rw [beqF (by omega), cond_false, j4_nz, y3]
            unfold m_spec_l32Turn_j5 m_spec_l32Turn_j6
            rw [cond_true, app_of (by rw [List.length_singleton]; omega), Option.bind_some, ck1 (by omega), Option.bind_some, show ((k' : Int) + 1) = ((k' + 1 : Nat) : Int) by omega, ih' (k' + 1) n' _ (by omega) (by omega) (by rw [List.length_append, List.length_singleton]; omega) (by omega), List.drop_eq_getElem_cons hlt']
            simp
        rw [hdone d (k + 1) n _ (by omega) (by omega) (by rw [List.length_append, List.length_append, List.length_singleton, List.length_singleton]; omega) (Nat.le_refl _)]
        simp
      · rw [decide_eq_false hpos, cond_false]
        unfold m_spec_l32Turn_j2
        rw [cond_false]
        unfold m_spec_l32Turn_j3
        by_cases h0 : rOrd l[k].Key t.Key = 0
        · have he : l[k].Key = t.Key := (TO_row.eq0 _ _).1 h0
          rw [if_neg (by omega), if_pos he, h0, show ((0 : Int) == 0) = true from rfl, cond_true]
          simp only [Go.Lift.lt]
          rw [ckI_of (by omega) (by omega), Option.bind_some, ckI_of (by omega) (by omega), Option.bind_some, ckI_of (by omega) (by omega), Option.bind_some, j4_nz]
          have hrest : ∀ i x, k + 1 ≤ i → l[i]? = some x → 0 < rOrd x.Key t.Key := by
            intro i x hi hix
            obtain ⟨g1, g2⟩ := List.getElem?_eq_some_iff.1 hix
            have := List.pairwise_iff_getElem.1 hk k i hlt g1 (by omega)
            rw [g2] at this
            unfold kLt at this
            rw [he] at this
            exact (TO_row.anti t.Key x.Key).1 this
          show m_spec_l32Turn_j5 (m_spec_l32Turn_l1 n) l true (k : Int) (nz (addT l[k] t)) t (addT l[k] t) out = _
          cases hz : nz (addT l[k] t) with
          | true =>
            rw [next, app_of (by rw [List.length_singleton]; omega), Option.bind_some, (ih (k + 1) n _ (by omega) (by omega) (by rw [List.length_append, List.length_singleton]; omega)).1 hrest, if_pos rfl]
            simp
          | false =>
            rw [skip, (ih (k + 1) n _ (by omega) (by omega) (by omega)).1 hrest, if_neg (by simp)]
        · rw [beqF h0, cond_false, j4_nz, x3, next, app_of (by rw [List.length_singleton]; omega), Option.bind_some, (ih (k + 1) n _ (by omega) (by omega) (by rw [List.length_append, List.length_singleton]; omega)).2, if_pos (by omega)]
          simp
theorem dT_num {a b : V} {m : Int} (hm : -1000 ≤ m ∧ m ≤ 1000) (hb : -10000 ≤ b.N ∧ b.N ≤ 10000) : tNum (dT [a, b] m) := by
  have h1 : -10000000 ≤ m * b.N ∧ m * b.N ≤ 10000000 := by
    have e1 : (m * b.N).natAbs = m.natAbs * b.N.natAbs := Int.natAbs_mul _ _
    have e2 : m.natAbs * b.N.natAbs ≤ 1000 * 10000 := Nat.mul_le_mul (by omega) (by omega)
    omega
  have e : ([a, b] : Row).getD 1 v0 = b := rfl
  unfold dT tNum
  rw [e]
  split <;> refine ⟨?_, ?_, ?_, ?_, ?_, ?_⟩ <;> simp only <;> omega
theorem E_l32Turn {l : List Ta} {a b : V} {m : Int} (hl : l.length ≤ 100000) (hk : ks l) (hx : ∀ x ∈ l, rSm x.Key ∧ rowOk x.Key = true ∧ nz x = true ∧ tNum x) (ha : rSm [a]) (ha2 : rowOk [a] = true) (hm : -1000 ≤ m ∧ m ≤ 1000) (hb : -10000 ≤ b.N ∧ b.N ≤ 10000) :
    m_spec_l32Turn l a b m = some (turnT l (dT [a, b] m)) := by
  have hd := dT_num (a := a) hm hb
  have h1 : -10000000 ≤ m * b.N ∧ m * b.N ≤ 10000000 := by
    have e1 : (m * b.N).natAbs = m.natAbs * b.N.natAbs := Int.natAbs_mul _ _
    have e2 : m.natAbs * b.N.natAbs ≤ 1000 * 10000 := Nat.mul_le_mul (by omega) (by omega)
    omega
  have e : ([a, b] : Row).getD 1 v0 = b := rfl
  have loop : ∀ t : Ta, t.Key = [a] → tNum t → m_spec_l32Turn_j1 l t = some (turnT l t) := by
    intro t ht hn
    unfold m_spec_l32Turn_j1
    have := (E_l32_loop hl hk hx ⟨ht ▸ ha, ht ▸ ha2, hn⟩ l.length 0 (((l.length : Int) - 0).toNat + 1) [] (by omega) (by omega) (by simp)).2
    simpa using this
  unfold m_spec_l32Turn
  simp only [Go.Lift.lt]
  unfold dT at hd ⊢
  rw [e] at hd ⊢
  by_cases hk1 : b.Kind = 1
  · rw [if_pos hk1] at hd ⊢
    rw [hk1, show ((1 : Int) == 1) = true from rfl, cond_true, ckI_of (by omega) (by omega), Option.bind_some]
    exact loop _ rfl hd
  · rw [if_neg hk1] at hd ⊢
    rw [beqF hk1, cond_false]
    exact loop _ rfl hd
theorem tell_j1 {A B : List Ta} {x : Ta} {a b : V} {m : Int} (hl : (A ++ x :: B).length ≤ 3000000) (hn : tNum x) (hm : -1000 ≤ m ∧ m ≤ 1000) (hb : -10000 ≤ b.N ∧ b.N ≤ 10000) :
    m_impl_tell_j1 [a, b] m (A.length : Int) (A ++ x :: B) = some (A ++ (if nz (addT x (dT [a, b] m)) then addT x (dT [a, b] m) :: B else B)) := by
  have h1 : -10000000 ≤ m * b.N ∧ m * b.N ≤ 10000000 := by
    have e1 : (m * b.N).natAbs = m.natAbs * b.N.natAbs := Int.natAbs_mul _ _
    have e2 : m.natAbs * b.N.natAbs ≤ 1000 * 10000 := Nat.mul_le_mul (by omega) (by omega)
    omega
  obtain ⟨n1, n2, n3, n4, n5, n6⟩ := hn
  have ll : A.length ≤ 3000000 := by simp at hl; omega
  have e : ([a, b] : Row).getD 1 v0 = b := rfl
  have j2 : ∀ y : Ta, m_impl_tell_j2 (A.length : Int) (A.length : Int) (A ++ y :: B) = some (A ++ (if nz y then y :: B else B)) := by
    intro y
    have j3 : ∀ b', m_impl_tell_j3 (A.length : Int) b' (A ++ y :: B) = some (A ++ (if !b' then y :: B else B)) := by
      intro b'
      unfold m_impl_tell_j3 m_impl_tell_j4
      cases b' with
      | true =>
        have hl2 : (A ++ y :: B).length ≤ 3000000 := by simp at hl ⊢; omega
        rw [cond_true, ck1 (by omega), Option.bind_some]
        unfold m_slices_Delete_Limpl_Tally_impl_Tally
        rw [if_pos (by simp at hl2 ⊢; omega), Option.bind_some, if_neg (by simp)]
        congr 1
        rw [Int.toNat_natCast, show ((A.length : Int) + 1).toNat = A.length + 1 by omega]
        simp
      | false =>
        rw [cond_false, if_pos (by simp)]
    unfold m_impl_tell_j2 nz
    rw [at_mid, Option.bind_some, Option.bind_some, Option.bind_some]
    simp only [j3]
    by_cases g1 : y.Rows = 0
    · rw [g1, show ((0 : Int) == 0) = true from rfl, cond_true]
      by_cases g2 : y.Many = 0
      · rw [g2, show ((0 : Int) == 0) = true from rfl, cond_true]
        by_cases g3 : y.Sum = 0
        · rw [g3]; simp
        · rw [beqF g3]; simp [g3]
      · rw [beqF g2, cond_false]; simp [g2]
    · rw [beqF g1, cond_false]; simp [g1]
  have a1 : at? ([a, b] : Row) (1 : Int) = some b := rfl
  unfold m_impl_tell_j1
  rw [at_mid]
  simp only [Option.bind_some, a1, Go.Lift.lt, Int.toNat_natCast, set_mid, at_mid]
  rw [ckI_of (by omega) (by omega)]
  simp only [Option.bind_some, set_mid, at_mid]
  unfold dT
  rw [e]
  by_cases hk : b.Kind = 1
  · rw [hk, show ((1 : Int) == 1) = true from rfl, cond_true, ckI_of (by omega) (by omega)]
    simp only [Option.bind_some, set_mid, at_mid]
    rw [ckI_of (x := m * b.N) (by omega) (by omega)]
    simp only [Option.bind_some, set_mid, at_mid]
    rw [ckI_of (by omega) (by omega)]
    simp only [Option.bind_some, set_mid, at_mid]
    rw [j2, if_pos trivial]
    rfl
  · rw [beqF hk, cond_false, j2, if_neg hk]
    simp only [addT, Int.add_zero]
theorem E_tell {l : List Ta} {a b : V} {m : Int} (hl : l.length ≤ 100000) (hk : ks l) (hx : ∀ x ∈ l, rSm x.Key ∧ tNum x) (hm : -1000 ≤ m ∧ m ≤ 1000) (hm0 : m ≠ 0) (hb : -10000 ≤ b.N ∧ b.N ≤ 10000) :
    m_impl_tell l [a, b] m = some (turnT l (dT [a, b] m)) := by
  have hcut : cut? ([a, b] : Row) 0 1 = some [a] := rfl
  have hkey : (dT [a, b] m).Key = [a] := (dT_key _ _).1
  obtain ⟨A, B, rfl, hA, hB⟩ := ks_split hk [a]
  unfold m_impl_tell
  rw [hcut, Option.bind_some, L_slices_BinarySearchFunc_Limpl_Tally_impl_Tally_Limpl_Value (q := fun x => rOrd x.Key [a]) (by omega) (fun x hx' => by
    unfold m_impl_tell_1
    rw [E_rowOrder (by have := (hx x hx').1.1; omega)]; rfl) A.length (by simp) (fun i x hi hix => hA x (by
    rw [List.getElem?_append_left hi] at hix; exact List.mem_of_getElem? hix)) (fun i x hi hix => hB x (by
    rw [List.getElem?_append_right hi] at hix; exact List.mem_of_getElem? hix)), Option.bind_some]
  rw [turnT_split (fun x hx' => by rw [hkey]; exact hA x hx')]
  have notfound : (∀ x t, B = x :: t → ¬ x.Key = [a]) → (m_slices_Insert_Limpl_Tally_impl_Tally (A ++ B) (A.length : Int) [⟨[a], 0, 0, 0⟩]).bind (fun x10 => m_impl_tell_j1 [a, b] m (A.length : Int) x10) = some (A ++ turnT B (dT [a, b] m)) := by
    intro hne
    unfold m_slices_Insert_Limpl_Tally_impl_Tally
    simp only
    rw [if_pos (by simp at hl ⊢; omega), Option.bind_some, Int.toNat_natCast]
    have e1 : (A ++ B).take A.length ++ (⟨[a], 0, 0, 0⟩ : Ta) :: (A ++ B).drop A.length = A ++ (⟨[a], 0, 0, 0⟩ : Ta) :: B := by simp
    rw [e1, tell_j1 (by simp at hl ⊢; omega) (by unfold tNum; refine ⟨?_, ?_, ?_, ?_, ?_, ?_⟩ <;> simp only <;> omega) hm hb]
    have e2 : addT ⟨[a], 0, 0, 0⟩ (dT [a, b] m) = dT [a, b] m := by
      unfold addT
      have : (dT [a, b] m) = ⟨(dT [a, b] m).Key, (dT [a, b] m).Rows, (dT [a, b] m).Many, (dT [a, b] m).Sum⟩ := rfl
      rw [this, hkey]
      simp
    have e3 : nz (dT [a, b] m) = true := by
      unfold nz
      rw [(dT_key _ _).2, decide_eq_false hm0]; rfl
    rw [e2, if_pos e3]
    congr 2
    cases B with
    | nil => rfl
    | cons x t =>
      have h1 := hB x (by simp)
      have h2 := hne x t rfl
      rw [turnT, hkey, if_neg h1, if_neg h2]
  cases B with
  | nil =>
    have e0 : (A ++ ([] : List Ta))[A.length]? = none := by simp
    rw [e0]
    simp only
    rw [Bool.not_false, cond_true, Option.bind_some, E_clone (by simp), Option.bind_some]
    exact notfound (fun x t h => by cases h)
  | cons x t =>
    have e0 : (A ++ x :: t)[A.length]? = some x := by simp
    rw [e0]
    simp only
    by_cases he : x.Key = [a]
    · rw [he, (TO_row.eq0 [a] [a]).2 rfl, show ((0 : Int) == 0) = true from rfl, Bool.not_true, cond_false, tell_j1 (by omega) (hx x (by simp)).2 hm hb, turnT, hkey, if_neg (hB x (by simp)), if_pos he]
    · have : ¬ rOrd x.Key [a] = 0 := fun h => he ((TO_row.eq0 _ _).1 h)
      rw [beqF this, Bool.not_false, cond_true, Option.bind_some, E_clone (by simp), Option.bind_some]
      exact notfound (fun y s h => by cases h; exact he)
def numK (v : V) : Bool := decide (v.Kind = 1) || decide (v.Kind = 0)
def counted (r : Row) : Bool := decide (r.length = 2) && (rowOk r && numK (r.getD 1 v0))
theorem eqB (a b : Int) : (a == b) = decide (a = b) := by by_cases h : a = b <;> simp [h]
theorem eqN (a b : Nat) : (((a : Nat) : Int) == ((b : Nat) : Int)) = decide (a = b) := by rw [eqB]; rw [decide_eq_decide]; omega
theorem two {r : Row} (h : r.length = 2) : ∃ a b, r = [a, b] := by
  match r, h with
  | [a, b], _ => exact ⟨a, b, rfl⟩
theorem E_impl_counted {r : Row} (h : rSm r) : m_impl_counted r = some (counted r) := by
  unfold m_impl_counted m_impl_counted_j1 counted numK
  rw [show (2 : Int) = ((2 : Nat) : Int) from rfl, eqN]
  by_cases hl : r.length = 2
  · obtain ⟨a, b, rfl⟩ := two hl
    rw [decide_eq_true hl, cond_true, E_impl_RowOk h, Option.bind_some]
    cases rowOk [a, b]
    · rfl
    · have a1 : at? ([a, b] : Row) (1 : Int) = some b := rfl
      rw [cond_true, a1, Option.bind_some, Option.bind_some]
      have e : ([a, b] : Row).getD 1 v0 = b := rfl
      rw [e, eqB, eqB]
      cases decide (b.Kind = 1) <;> rfl
  · rw [decide_eq_false hl]; rfl
theorem E_spec_l32Row {r : Row} (h : rSm r) : m_spec_l32Row r = some (counted r) := by
  unfold m_spec_l32Row m_spec_l32Row_j1 counted numK
  rw [E_spec_RowOk h, Option.bind_some, show (2 : Int) = ((2 : Nat) : Int) from rfl, eqN]
  cases hok : rowOk r
  · rw [cond_false]; simp
  rw [cond_true]
  by_cases hl : r.length = 2
  · obtain ⟨a, b, rfl⟩ := two hl
    have a1 : at? ([a, b] : Row) (1 : Int) = some b := rfl
    rw [decide_eq_true hl, cond_true, a1, Option.bind_some, Option.bind_some]
    have e : ([a, b] : Row).getD 1 v0 = b := rfl
    rw [e, eqB, eqB]
    cases decide (b.Kind = 1) <;> rfl
  · rw [decide_eq_false hl]; rfl
theorem vok_b {v : V} (h : vOk v = true) : v.S.size ≤ 6 ∧ -9999 ≤ v.N ∧ v.N ≤ 9999 := by
  have e0 : (⟨#[]⟩ : ByteArray).size = 0 := rfl
  unfold vOk at h
  by_cases h0 : v.Kind = 0
  · rw [if_pos h0, decide_eq_true_eq] at h
    rw [h]
    exact ⟨by show (0 : Nat) ≤ 6; omega, by show (-9999 : Int) ≤ 0; omega, by show (0 : Int) ≤ 9999; omega⟩
  rw [if_neg h0] at h
  by_cases h1 : v.Kind = 1
  · rw [if_pos h1, Bool.and_eq_true, Bool.and_eq_true, decide_eq_true_eq, decide_eq_true_eq, decide_eq_true_eq] at h
    refine ⟨by rw [h.1, e0]; omega, h.2.1, h.2.2⟩
  rw [if_neg h1] at h
  by_cases h2 : v.Kind = 2
  · rw [if_pos h2, Bool.and_eq_true, Bool.and_eq_true, decide_eq_true_eq, decide_eq_true_eq] at h
    exact ⟨h.1.2, by omega, by omega⟩
  rw [if_neg h2] at h
  by_cases h3 : v.Kind = 3
  · rw [if_pos h3, Bool.and_eq_true, Bool.and_eq_true, decide_eq_true_eq, decide_eq_true_eq, decide_eq_true_eq] at h
    exact ⟨by rw [h.1, e0]; omega, by omega, by omega⟩
  rw [if_neg h3] at h
  cases h
theorem rowOk_b {r : Row} (h : rowOk r = true) : r.length ≤ 4 ∧ ∀ v ∈ r, vOk v = true := by
  unfold rowOk at h
  rw [Bool.and_eq_true, decide_eq_true_eq, List.all_eq_true] at h
  exact h
theorem ok_sm {r : Row} (h : rowOk r = true) : rSm r := by
  obtain ⟨h1, h2⟩ := rowOk_b h
  refine ⟨by omega, fun v hv => ?_⟩
  have := (vok_b (h2 v hv)).1
  unfold vSm; omega
/-- A tally that is one, but for how many rows there may be. -/
def tOkW (t : Ta) : Prop := t.Key.length = 1 ∧ rowOk t.Key = true ∧ 1 ≤ t.Rows ∧ 0 ≤ t.Many ∧ t.Many ≤ t.Rows ∧ -9999 * t.Many ≤ t.Sum ∧ t.Sum ≤ 9999 * t.Many
theorem tOkW_nz {t : Ta} (h : tOkW t) : nz t = true := by
  unfold nz
  rw [decide_eq_false (by have := h.2.2.1; omega)]; rfl
theorem tOkW_num {t : Ta} (h : tOkW t) (hr : t.Rows ≤ 1000) : tNum t := by
  obtain ⟨h1, h2, h3, h4, h5, h6, h7⟩ := h
  unfold tNum
  omega
theorem dT_ok {a b : V} (ha : rowOk [a, b] = true) (hb : numK b = true) : tOkW (dT [a, b] 1) := by
  have h := (rowOk_b ha).2
  have hva := h a (by simp)
  have hvb := vok_b (h b (by simp))
  have ka : rowOk [a] = true := by unfold rowOk; simp [hva]
  have e : ([a, b] : Row).getD 1 v0 = b := rfl
  unfold dT tOkW
  rw [e]
  split
  · exact ⟨rfl, ka, by simp only; omega, by simp only; omega, by simp only; omega, by simp only; omega, by simp only; omega⟩
  · exact ⟨rfl, ka, by simp only; omega, by simp only; omega, by simp only; omega, by simp only; omega, by simp only; omega⟩
theorem addT_ok {x t : Ta} (hx : tOkW x) (ht : tOkW t) : tOkW (addT x t) := by
  obtain ⟨h1, h2, h3, h4, h5, h6, h7⟩ := hx
  obtain ⟨g1, g2, g3, g4, g5, g6, g7⟩ := ht
  unfold addT tOkW
  exact ⟨h1, h2, by simp only; omega, by simp only; omega, by simp only; omega, by simp only; omega, by simp only; omega⟩
def rsum (l : List Ta) : Int := (l.map (·.Rows)).sum
theorem rsum_cons (x : Ta) (l : List Ta) : rsum (x :: l) = x.Rows + rsum l := by simp [rsum]
theorem rsum_turn (l : List Ta) (t : Ta) : rsum (turnT l t) = rsum l + t.Rows := by
  induction l with
  | nil => simp [turnT, rsum]
  | cons x l ih =>
    rw [turnT]
    split
    · rw [rsum_cons, rsum_cons, ih]; omega
    · split
      · split
        · rw [rsum_cons, rsum_cons]; simp only [addT]; omega
        · rename_i hz
          have := nz_false hz
          simp only [t3, addT, Prod.mk.injEq] at this
          rw [rsum_cons]; omega
      · rw [rsum_cons, rsum_cons]; omega
theorem rsum_ge {l : List Ta} (h : ∀ x ∈ l, tOkW x) : 0 ≤ rsum l ∧ ∀ x ∈ l, x.Rows ≤ rsum l := by
  induction l with
  | nil => exact ⟨by simp [rsum], by simp⟩
  | cons y l ih =>
    obtain ⟨h1, h2⟩ := ih fun x hx => h x (by simp [hx])
    have hy := (h y (by simp)).2.2.1
    rw [rsum_cons]
    refine ⟨by omega, fun x hx => ?_⟩
    rcases List.mem_cons.1 hx with rfl | hx
    · omega
    · have := h2 x hx; omega
theorem rsum_len {l : List Ta} (h : ∀ x ∈ l, tOkW x) : (l.length : Int) ≤ rsum l := by
  induction l with
  | nil => simp [rsum]
  | cons y l ih =>
    have := ih fun x hx => h x (by simp [hx])
    have hy := (h y (by simp)).2.2.1
    rw [rsum_cons, List.length_cons]
    omega
def tallOf (rs : Rows) : List Ta := rs.foldl (fun l r => turnT l (dT r 1)) []
structure TInv (n : Nat) (l : List Ta) : Prop where
  ks : ks l
  ok : ∀ x ∈ l, tOkW x
  sum : rsum l = n
theorem TInv.turn {n : Nat} {l : List Ta} {a b : V} (h : TInv n l) (ha : rowOk [a, b] = true) (hb : numK b = true) : TInv (n + 1) (turnT l (dT [a, b] 1)) where
  ks := turnT_ks h.ks
  ok := fun x hx => by
    rcases turnT_mem hx with hx | rfl | ⟨y, hy, _, rfl⟩
    · exact h.ok x hx
    · exact dT_ok ha hb
    · exact addT_ok (h.ok y hy) (dT_ok ha hb)
  sum := by rw [rsum_turn, h.sum, (dT_key _ _).2]; omega
theorem TInv.num {n : Nat} {l : List Ta} (h : TInv n l) (hn : n ≤ 1000) : l.length ≤ 1000 ∧ ∀ x ∈ l, rSm x.Key ∧ rowOk x.Key = true ∧ nz x = true ∧ tNum x := by
  have h1 := rsum_len h.ok
  have h2 := (rsum_ge h.ok).2
  rw [h.sum] at h1 h2
  refine ⟨by omega, fun x hx => ?_⟩
  have hk := h.ok x hx
  exact ⟨ok_sm hk.2.1, hk.2.1, tOkW_nz hk, tOkW_num hk (by have := h2 x hx; omega)⟩
theorem counted_b {r : Row} (h : counted r = true) : ∃ a b, r = [a, b] ∧ rowOk [a, b] = true ∧ numK b = true ∧ rSm [a] ∧ rowOk [a] = true ∧ -10000 ≤ b.N ∧ b.N ≤ 10000 := by
  unfold counted at h
  simp only [Bool.and_eq_true, decide_eq_true_eq] at h
  obtain ⟨h1, h2, h3⟩ := h
  obtain ⟨a, b, rfl⟩ := two h1
  have h4 := (rowOk_b h2).2
  have ka : rowOk [a] = true := by unfold rowOk; simp [h4 a (by simp)]
  have hb := vok_b (h4 b (by simp))
  exact ⟨a, b, rfl, h2, h3, ok_sm ka, ka, by omega, by omega⟩
theorem E_tallies {l : List Ta} (hl : l.length ≤ 3000000) (hk : ∀ x ∈ l, x.Key.length ≤ 3000000) : m_impl_tallies l = some l := by
  unfold m_impl_tallies
  have := (scanF (f := fun (s : List Ta) x => s ++ [x]) (J := fun s => some s) (fun k s => s.length = k) l (fun n k s => m_impl_tallies_l1 n l (l.length : Int) k s) (fun n k x s hx hI => by
    have := lt_of_at hx
    rw [m_impl_tallies_l1, dlt this, cond_true, at_of hx, Option.bind_some]
    simp only [Go.Lift.lt]
    rw [E_clone (hk x (List.mem_of_getElem? hx)), Option.bind_some, app_of (by simp; omega), Option.bind_some, ck1 (show k < 1000000000000 by omega), Option.bind_some]
    exact ⟨rfl, by simp [hI]⟩) (fun n s _ => by
      rw [m_impl_tallies_l1, dnlt, cond_false]
      unfold m_impl_tallies_j1
      rfl) _ fuel0 [] rfl).1
  rw [this, foldl_snoc]; rfl
def talliesOf (rs : Rows) : List Ta := if rs.length ≤ 100 ∧ rs.all counted = true then tallOf rs else []
theorem TInv.nil : TInv 0 [] where
  ks := List.Pairwise.nil
  ok := by simp
  sum := rfl
theorem tallOf_inv {rs : Rows} (h : rs.all counted = true) : TInv rs.length (tallOf rs) := by
  have key : ∀ (l : Rows) (s : List Ta) (n : Nat), l.all counted = true → TInv n s → TInv (n + l.length) (l.foldl (fun l r => turnT l (dT r 1)) s) := by
    intro l
    induction l with
    | nil => intro s n _ h; exact h
    | cons r l ih =>
      intro s n hc hI
      rw [List.all_cons, Bool.and_eq_true] at hc
      obtain ⟨a, b, rfl, h1, h2, _⟩ := counted_b hc.1
      have := ih _ (n + 1) hc.2 (hI.turn h1 h2)
      rw [List.foldl_cons, List.length_cons, show n + (l.length + 1) = n + 1 + l.length by omega]
      exact this
  have := key rs [] 0 h TInv.nil
  rwa [Nat.zero_add] at this
theorem E_impl_TalliesOf {rs : Rows} (h : rsSm rs) : m_impl_TalliesOf rs = some (talliesOf rs) := by
  obtain ⟨h1, h2⟩ := h
  unfold m_impl_TalliesOf talliesOf m_impl_TalliesOf_j1
  by_cases hl : rs.length ≤ 100
  · rw [decide_eq_false (by omega), cond_false, L_slices_ContainsFunc_LLimpl_Value_Limpl_Value (q := fun r => !(counted r)) (by omega) (fun r hr => by unfold m_impl_TalliesOf_1; rw [E_impl_counted (h2 r hr)]; rfl), Option.bind_some]
    rw [List.all_eq_not_any_not]
    cases hc : rs.any fun r => !(counted r)
    · rw [cond_false, if_pos ⟨hl, rfl⟩]
      have hall : rs.all counted = true := by rw [List.all_eq_not_any_not, hc]; rfl
      have hh := scanF (f := fun (l : List Ta) r => turnT l (dT r 1)) (J := fun s => m_impl_TalliesOf_j2 s) (fun k s => TInv k s) rs (fun n k s => m_impl_TalliesOf_l1 n rs (rs.length : Int) k s) (fun n k x s hx hI => by
        have hlt := lt_of_at hx
        obtain ⟨a, b, rfl, g1, g2, g3, g4, g5, g6⟩ := counted_b (List.all_eq_true.1 hall x (List.mem_of_getElem? hx))
        obtain ⟨n1, n2⟩ := hI.num (by omega)
        rw [m_impl_TalliesOf_l1, dlt hlt, cond_true, at_of hx, Option.bind_some, E_tell (by omega) hI.ks (fun x hx => ⟨(n2 x hx).1, (n2 x hx).2.2.2⟩) (by omega) (by omega) ⟨g5, g6⟩, Option.bind_some, ck1 (by omega), Option.bind_some]
        exact ⟨rfl, hI.turn g1 g2⟩) (fun n s _ => by rw [m_impl_TalliesOf_l1, dnlt, cond_false]) _ fuel0 [] TInv.nil
      obtain ⟨n1, n2⟩ := hh.2.num (by omega)
      rw [hh.1]
      unfold m_impl_TalliesOf_j2
      rw [E_tallies (by omega) (fun x hx => by have := (n2 x hx).1.1; omega)]
      rfl
    · rw [cond_true, if_neg (by simp)]
  · rw [decide_eq_true (by omega), cond_true, cond_true, if_neg (fun k => hl k.1)]
theorem E_spec_TalliesOf2 {rs : Rows} (h : rsSm rs) : m_spec_TalliesOf rs = some (talliesOf rs) := by
  obtain ⟨h1, h2⟩ := h
  unfold m_spec_TalliesOf talliesOf
  have fin : rs.length ≤ 100 → rs.all counted = true → m_spec_TalliesOf_j2 rs [] = some (tallOf rs) := by
    intro hl hall
    unfold m_spec_TalliesOf_j2
    have hh := scanF (f := fun (l : List Ta) r => turnT l (dT r 1)) (J := fun s => m_spec_TalliesOf_j3 s) (fun k s => TInv k s) rs (fun n k s => m_spec_TalliesOf_l2 n rs k s) (fun n k x s hx hI => by
      have hlt := lt_of_at hx
      obtain ⟨a, b, rfl, g1, g2, g3, g4, g5, g6⟩ := counted_b (List.all_eq_true.1 hall x (List.mem_of_getElem? hx))
      obtain ⟨n1, n2⟩ := hI.num (by omega)
      have a0 : at? ([a, b] : Row) (0 : Int) = some a := rfl
      have a1 : at? ([a, b] : Row) (1 : Int) = some b := rfl
      rw [m_spec_TalliesOf_l2, dlt hlt, cond_true, at_of hx, Option.bind_some, a0, Option.bind_some, Option.bind_some, a1, Option.bind_some, E_l32Turn (by omega) hI.ks n2 g3 g4 (by omega) ⟨g5, g6⟩, Option.bind_some, ck1 (by omega), Option.bind_some]
      exact ⟨rfl, hI.turn g1 g2⟩) (fun n s _ => by rw [m_spec_TalliesOf_l2, dnlt, cond_false]) _ fuel0 [] TInv.nil
    rw [hh.1]; rfl
  by_cases hl : rs.length ≤ 100
  · rw [scanC rs (fun n k (_ : Unit) => m_spec_TalliesOf_l1 n rs k []) (fun x s k => bif !(counted x) then some [] else k s) (fun _ => m_spec_TalliesOf_j2 rs []) (fun n k x s hx => by
      have hlt := lt_of_at hx
      rw [m_spec_TalliesOf_l1, dlt hlt, cond_true, at_of hx, Option.bind_some, E_spec_l32Row (h2 x (List.mem_of_getElem? hx)), Option.bind_some]
      unfold m_spec_TalliesOf_j1
      rw [decide_eq_false (by omega), ck1 (by omega), Option.bind_some, cond_true, cond_false]) (fun n s => by rw [m_spec_TalliesOf_l1, dnlt, cond_false]) _ fuel0 ()]
    have : ∀ l : Rows, foldC (S := Unit) (fun x s k => bif !(counted x) then some [] else k s) (fun _ => m_spec_TalliesOf_j2 rs []) l () = bif l.all counted then m_spec_TalliesOf_j2 rs [] else some [] := by
      intro l
      induction l with
      | nil => rfl
      | cons x l ih =>
        simp only [foldC, List.all_cons]
        cases counted x
        · rfl
        · rw [Bool.not_true, cond_false, ih, Bool.true_and]
    rw [this]
    cases hall : rs.all counted
    · rw [cond_false, if_neg (by simp)]
    · rw [cond_true, fin hl hall, if_pos ⟨hl, rfl⟩]
  · rw [if_neg (fun k => hl k.1)]
    obtain ⟨n, hn⟩ : ∃ n, ((rs.length : Int) - 0).toNat + 1 = n + 1 := ⟨_, rfl⟩
    have hx : rs[0]? = some rs[0] := List.getElem?_eq_getElem (by omega)
    have a0 : at? rs (0 : Int) = some rs[0] := at_of hx
    rw [hn, m_spec_TalliesOf_l1, decide_eq_true (by omega), cond_true, a0, Option.bind_some, E_spec_l32Row (h2 _ (List.mem_of_getElem? hx)), Option.bind_some]
    unfold m_spec_TalliesOf_j1
    cases counted rs[0]
    · rfl
    · rw [Bool.not_true, cond_false, decide_eq_true (by omega), cond_true]
def markM {α : Type} (mk : Int → α → α) (w : α → Int) : Int → List α → List α
  | _, [] => []
  | c, x :: r => mk c x :: markM mk w (c + w x) r
def endM {α : Type} (w : α → Int) : Int → List α → Int
  | c, [] => c
  | c, x :: r => endM w (c + w x) r
theorem markM_len {α : Type} {mk : Int → α → α} {w : α → Int} : ∀ (c : Int) (l : List α), (markM mk w c l).length = l.length
  | _, [] => rfl
  | c, x :: l => by rw [markM, List.length_cons, List.length_cons, markM_len]
theorem endM_ge {α : Type} {w : α → Int} (hw : ∀ x, 0 ≤ w x) : ∀ (c : Int) (l : List α), c ≤ endM w c l
  | c, [] => Int.le_refl _
  | c, x :: l => by
    have := endM_ge hw (c + w x) l
    have := hw x
    rw [endM]; omega
theorem endM_sum {α : Type} {w : α → Int} {m : α → Nat} (hm : ∀ x, w x ≤ 3 * (m x : Int)) : ∀ (c : Int) (l : List α), endM w c l ≤ c + 3 * ((l.map m).sum : Int)
  | c, [] => by simp [endM]
  | c, x :: l => by
    have h1 := endM_sum hm (c + w x) l
    have h2 := hm x
    rw [endM, List.map_cons, List.sum_cons]
    push_cast
    omega
theorem markLoop {α : Type} {mk : Int → α → α} {w : α → Int} {B : Int} {ok : α → Prop} (hw : ∀ x, 0 ≤ w x) (L : Nat → Int → Int → List α → Option (Int × List α))
    (hs : ∀ (f : Nat) (d : List α) (x : α) (r : List α) (c : Int), d.length < 1000000000 → 0 ≤ c → c + w x ≤ B → ok x → L (f + 1) c (d.length : Int) (d ++ x :: r) = L f (c + w x) ((d.length + 1 : Nat) : Int) (d ++ mk c x :: r))
    (he : ∀ (f : Nat) (c : Int) (o : List α), L (f + 1) c (o.length : Int) o = some (c, o)) :
    ∀ (r d : List α) (c : Int) (f : Nat), r.length < f → (∀ x ∈ r, ok x) → 0 ≤ c → endM w c r ≤ B → d.length + r.length ≤ 900000000 → L f c (d.length : Int) (d ++ r) = some (endM w c r, d ++ markM mk w c r)
  | [], d, c, f, hf, _, _, _, _ => by
    obtain ⟨f, rfl⟩ : ∃ q, f = q + 1 := ⟨f - 1, by omega⟩
    rw [List.append_nil, he]; simp [markM, endM]
  | x :: r, d, c, f, hf, hok, hc, hB, hl => by
    obtain ⟨f, rfl⟩ : ∃ q, f = q + 1 := ⟨f - 1, by omega⟩
    rw [endM] at hB ⊢
    have h1 := endM_ge hw (c + w x) r
    have h2 := hw x
    rw [List.length_cons] at hf hl
    rw [hs f d x r c (by omega) hc (by omega) (hok x (by simp))]
    have ih := markLoop hw L hs he r (d ++ [mk c x]) (c + w x) f (by omega) (fun y hy => hok y (by simp [hy])) (by omega) hB (by rw [List.length_append, List.length_singleton]; omega)
    rw [List.append_assoc, List.singleton_append, List.length_append, List.length_singleton] at ih
    rw [ih, markM, List.append_assoc, List.singleton_append]
theorem heldLoop {α : Type} {mk : Int → α → α} {w : α → Int} {B : Int} {ok : α → Prop} (hw : ∀ x, 0 ≤ w x) (t0 : List α) (L : Nat → Int → Int → Option Int)
    (hs : ∀ (f k : Nat) (c : Int) (x : α), t0[k]? = some (mk c x) → k < 1000000000 → 0 ≤ c → c + w x ≤ B → ok x → L (f + 1) c (k : Int) = L f (c + w x) ((k + 1 : Nat) : Int))
    (he : ∀ (f : Nat) (c : Int), L (f + 1) c (t0.length : Int) = some c) :
    ∀ (r d : List α) (c : Int) (f : Nat), t0 = d ++ markM mk w c r → r.length < f → (∀ x ∈ r, ok x) → 0 ≤ c → endM w c r ≤ B → d.length + r.length ≤ 900000000 → L f c (d.length : Int) = some (endM w c r)
  | [], d, c, f, ht, hf, _, _, _, _ => by
    obtain ⟨f, rfl⟩ : ∃ q, f = q + 1 := ⟨f - 1, by omega⟩
    rw [markM, List.append_nil] at ht
    rw [← ht, he]; rfl
  | x :: r, d, c, f, ht, hf, hok, hc, hB, hl => by
    obtain ⟨f, rfl⟩ : ∃ q, f = q + 1 := ⟨f - 1, by omega⟩
    rw [endM] at hB ⊢
    have h1 := endM_ge hw (c + w x) r
    have h2 := hw x
    rw [List.length_cons] at hf hl
    rw [markM] at ht
    have hx : t0[d.length]? = some (mk c x) := by rw [ht]; simp
    rw [hs f d.length c x hx (by omega) hc (by omega) (hok x (by simp))]
    have ih := heldLoop hw t0 L hs he r (d ++ [mk c x]) (c + w x) f (by rw [ht, List.append_assoc, List.singleton_append]) (by omega) (fun y hy => hok y (by simp [hy])) (by omega) hB (by rw [List.length_append, List.length_singleton]; omega)
    rw [List.length_append, List.length_singleton] at ih
    exact ih
theorem T_markText {k : Int} (hk : k ≤ 1000000000) : Tot (m_laws_markText k) fun _ => True := by
  unfold m_laws_markText
  refine Tot.bif (fun _ => Tot.ret trivial) (fun h0 => ?_)
  have hk0 : 0 < k := by simpa using h0
  have key : ∀ (n : Nat) (t : Int) (a : ByteArray) (f : Nat), t ≤ n → 0 ≤ t → n < f → (a.size : Int) + t ≤ 2000000000 → Tot (m_laws_markText_l1 f t a) fun _ => True := by
    intro n
    induction n with
    | zero =>
      intro t a f h1 h2 h3 h4
      obtain ⟨f, rfl⟩ : ∃ q, f = q + 1 := ⟨f - 1, by omega⟩
      rw [m_laws_markText_l1, decide_eq_false (by omega), cond_false]
      unfold m_laws_markText_j1
      exact Tot.cat (by rw [show ByteArray.size ⟨#[109]⟩ = 1 from rfl]; omega) (Tot.ret trivial)
    | succ n ih =>
      intro t a f h1 h2 h3 h4
      obtain ⟨f, rfl⟩ : ∃ q, f = q + 1 := ⟨f - 1, by omega⟩
      rw [m_laws_markText_l1]
      refine Tot.bif (fun ht => ?_) (fun _ => ?_)
      · have ht' : 0 < t := by simpa using ht
        have e1 : t.tmod 10 = t % 10 := Int.tmod_eq_emod_of_nonneg (by omega)
        have e2 : t.tdiv 10 = t / 10 := Int.tdiv_eq_ediv_of_nonneg (by omega)
        refine Tot.rem (by omega) (Tot.ck (by omega) (by omega) (Tot.cat ?_ (Tot.quo (by omega) (by omega) (by omega) ?_)))
        · have : ∀ b : UInt8, (bStr [b]).size = 1 := fun b => rfl
          rw [this]; omega
        · refine ih _ _ f (by omega) (by omega) (by omega) ?_
          have : ∀ b : UInt8, (bStr [b]).size = 1 := fun b => rfl
          rw [ByteArray.size_append, this]
          push_cast
          omega
      · unfold m_laws_markText_j1
        exact Tot.cat (by rw [show ByteArray.size ⟨#[109]⟩ = 1 from rfl]; omega) (Tot.ret trivial)
  exact key k.toNat k ⟨#[]⟩ _ (by omega) (by omega) (by omega) (by rw [show ByteArray.size ⟨#[]⟩ = 0 from rfl]; omega)
def mtx (k : Int) : ByteArray := (m_laws_markText k).getD ⟨#[]⟩
theorem E_markText {k : Int} (hk : k ≤ 1000000000) : m_laws_markText k = some (mtx k) := by
  obtain ⟨t, ht, _⟩ := T_markText hk
  unfold mtx; rw [ht]; rfl
def mkV (c : Int) (_ : V) : V := ⟨c, c + 1, mtx (c + 2)⟩
abbrev markV (c : Int) (l : Row) : Row := markM mkV (fun _ => 3) c l
theorem endV (c : Int) : ∀ l : Row, endM (fun _ : V => 3) c l = c + 3 * l.length
  | [] => by simp [endM]
  | x :: l => by rw [endM, endV (c + 3) l, List.length_cons]; push_cast; omega
theorem set_at {α : Type} {d r : List α} {x y : α} : (d ++ x :: r).set d.length y = d ++ y :: r := by rw [List.set_append_right _ _ (Nat.le_refl _)]; simp
theorem at_at {α : Type} {d r : List α} {x : α} : at? (d ++ x :: r) (d.length : Int) = some x := at_of (by simp)
theorem lt_at {α : Type} {d r : List α} {x : α} : decide ((d.length : Int) < ((d ++ x :: r).length : Int)) = true := decide_eq_true (by rw [List.length_append, List.length_cons]; omega)
theorem E_markV {l : Row} {k : Int} (hk : 0 ≤ k) (hB : k + 3 * l.length ≤ 1000000000) : m_laws_markValueS l k = some (k + 3 * l.length, markV k l) := by
  unfold m_laws_markValueS
  have := markLoop (mk := mkV) (w := fun _ => 3) (B := 1000000000) (ok := fun _ => True) (fun _ => by decide) (fun f c i o => m_laws_markValueS_l1 f c i o) (fun f d x r c hd hc hB _ => by
    rw [m_laws_markValueS_l1, lt_at, cond_true, at_at, Option.bind_some, Option.bind_some, ltE, ckI_of (by omega) (by omega), Option.bind_some, Int.toNat_natCast, set_at, at_at, Option.bind_some, Option.bind_some, ltE, ckI_of (by omega) (by omega), Option.bind_some, E_markText (by omega), Option.bind_some, set_at, at_at, Option.bind_some, Option.bind_some, ltE, ckI_of (by omega) (by omega), Option.bind_some, ckI_of (by omega) (by omega), Option.bind_some, set_at]
    unfold mkV
    rw [show c + 1 + 1 + 1 = c + 3 by omega, show c + 1 + 1 = c + 2 by omega, show ((d.length : Int) + 1) = ((d.length + 1 : Nat) : Int) by omega]) (fun f c o => by rw [m_laws_markValueS_l1, dnlt]; rfl) l [] k _ fuel0 (fun _ _ => trivial) hk (by rw [endV]; exact hB) (by simp only [List.length_nil]; omega)
  rw [endV] at this
  exact this
theorem E_heldV {l : Row} {k : Int} (hk : 0 ≤ k) (hB : k + 3 * l.length ≤ 1000000000) : m_laws_heldValueS (markV k l) k = some (k + 3 * l.length) := by
  unfold m_laws_heldValueS
  have := heldLoop (mk := mkV) (w := fun _ => 3) (B := 1000000000) (ok := fun _ => True) (fun _ => by decide) (markV k l) (fun f c i => m_laws_heldValueS_l1 f (markV k l) c i) (fun f i c x hx hi hc hB _ => by
    rw [m_laws_heldValueS_l1, dlt (lt_of_at hx), cond_true, at_of hx, Option.bind_some]
    unfold mkV
    simp only [bne_self_eq_false, cond_false, Option.bind_some]
    rw [ckI_of (by omega) (by omega), Option.bind_some]
    simp only [bne_self_eq_false, cond_false, Option.bind_some]
    rw [ckI_of (by omega) (by omega), Option.bind_some, E_markText (by omega), Option.bind_some, show c + 1 + 1 = c + 2 by omega]
    rw [show sEq (mtx (c + 2)) (mtx (c + 2)) = true by rw [sEq_eq]; exact decide_eq_true rfl, Bool.not_true, cond_false, ckI_of (by omega) (by omega), Option.bind_some, ck1 (by omega), Option.bind_some, show c + 2 + 1 = c + 3 by omega]
    rfl) (fun f c => by rw [m_laws_heldValueS_l1, dnlt]; rfl) l [] k (((markV k l).length : Int) - 0).toNat.succ rfl (by rw [markM_len]; omega) (fun _ _ => trivial) hk (by rw [endV]; exact hB) (by simp only [List.length_nil]; omega)
  rw [endV] at this
  exact this
def wR (r : Row) : Int := 3 * r.length
def mkR (c : Int) (r : Row) : Row := markV c r
theorem E_markR {l : Rows} {k : Int} (hk : 0 ≤ k) (hB : endM wR k l ≤ 1000000000) (hl : l.length ≤ 900000000) : m_laws_markValueSS l k = some (endM wR k l, markM mkR wR k l) := by
  unfold m_laws_markValueSS
  exact markLoop (mk := mkR) (w := wR) (B := 1000000000) (ok := fun _ => True) (fun x => by unfold wR; omega) (fun f c i o => m_laws_markValueSS_l1 f c i o) (fun f d x r c hd hc hB _ => by
    have hB' : c + 3 * (x.length : Int) ≤ 1000000000 := hB
    rw [m_laws_markValueSS_l1, lt_at, cond_true, at_at, Option.bind_some, Option.bind_some, E_markV hc hB', Option.bind_some, lenQ_ok (markM_len _ _), Option.bind_some, ltE, ckI_of (by omega) (by omega), Option.bind_some, Int.toNat_natCast, set_at]
    rfl) (fun f c o => by rw [m_laws_markValueSS_l1, dnlt]; rfl) l [] k _ fuel0 (fun _ _ => trivial) hk hB (by simp only [List.length_nil]; omega)
theorem smE_Value {v : S_laws_Value} (h : wt_laws_Value v ≤ 1048576) : vSm (cv_laws_Value v) := by unfold wt_laws_Value at h; unfold vSm cv_laws_Value; simp only; omega
theorem smE_row {l : List S_laws_Value} (h : wt_Llaws_Value l ≤ 1048576) : rSm (cv_Llaws_Value l) := by
  refine ⟨?_, ?_⟩
  · have := wt_Llaws_Value_len (l := l); unfold cv_Llaws_Value; rw [List.length_map]; omega
  · intro v hv
    obtain ⟨x, hx, rfl⟩ := List.mem_map.1 hv
    exact smE_Value (by have := wt_Llaws_Value_mem hx; omega)
theorem smE_rows {l : List (List S_laws_Value)} (h : wt_LLlaws_Value l ≤ 1048576) : rsSm (cv_LLlaws_Value l) := by
  refine ⟨?_, ?_⟩
  · have := wt_LLlaws_Value_len (l := l); unfold cv_LLlaws_Value; rw [List.length_map]; omega
  · intro v hv
    obtain ⟨x, hx, rfl⟩ := List.mem_map.1 hv
    exact smE_row (by have := wt_LLlaws_Value_mem hx; omega)
def wTa (t : Ta) : Int := 3 * t.Key.length + 3
def mkTa (c : Int) (t : Ta) : Ta := ⟨markV c t.Key, c + 3 * t.Key.length, c + 3 * t.Key.length + 1, c + 3 * t.Key.length + 2⟩
theorem E_markTa {l : List Ta} {k : Int} (hk : 0 ≤ k) (hB : endM wTa k l ≤ 1000000000) (hl : l.length ≤ 900000000) : m_laws_markTallyS l k = some (endM wTa k l, markM mkTa wTa k l) := by
  unfold m_laws_markTallyS
  exact markLoop (mk := mkTa) (w := wTa) (B := 1000000000) (ok := fun _ => True) (fun x => by unfold wTa; omega) (fun f c i o => m_laws_markTallyS_l1 f c i o) (fun f d x r c hd hc hB _ => by
    have hB' : c + (3 * (x.Key.length : Int) + 3) ≤ 1000000000 := hB
    rw [m_laws_markTallyS_l1, lt_at, cond_true, at_at, Option.bind_some, Option.bind_some, E_markV hc (by omega), Option.bind_some, lenQ_ok (markM_len _ _), Option.bind_some, ltE]
    simp only []
    rw [Int.toNat_natCast, set_at, at_at, Option.bind_some, Option.bind_some, ckI_of (by omega) (by omega), Option.bind_some, set_at, at_at, Option.bind_some, Option.bind_some, ckI_of (by omega) (by omega), Option.bind_some, set_at, at_at, Option.bind_some, Option.bind_some, ckI_of (by omega) (by omega), Option.bind_some, ckI_of (by omega) (by omega), Option.bind_some, set_at]
    unfold mkTa wTa
    rw [show c + 3 * (x.Key.length : Int) + 1 + 1 + 1 = c + (3 * (x.Key.length : Int) + 3) by omega, show c + 3 * (x.Key.length : Int) + 1 + 1 = c + 3 * (x.Key.length : Int) + 2 by omega, show ((d.length : Int) + 1) = ((d.length + 1 : Nat) : Int) by omega]) (fun f c o => by rw [m_laws_markTallyS_l1, dnlt]; rfl) l [] k _ fuel0 (fun _ _ => trivial) hk hB (by simp only [List.length_nil]; omega)
theorem E_heldTa {l : List Ta} {k : Int} (hk : 0 ≤ k) (hB : endM wTa k l ≤ 1000000000) (hl : l.length ≤ 900000000) : m_laws_heldTallyS (markM mkTa wTa k l) k = some (endM wTa k l) := by
  unfold m_laws_heldTallyS
  exact heldLoop (mk := mkTa) (w := wTa) (B := 1000000000) (ok := fun _ => True) (fun x => by unfold wTa; omega) (markM mkTa wTa k l) (fun f c i => m_laws_heldTallyS_l1 f (markM mkTa wTa k l) c i) (fun f i c x hx hi hc hB _ => by
    have hB' : c + (3 * (x.Key.length : Int) + 3) ≤ 1000000000 := hB
    rw [m_laws_heldTallyS_l1, dlt (lt_of_at hx), cond_true, at_of hx, Option.bind_some]
    unfold mkTa
    simp only []
    rw [E_heldV hc (by omega), Option.bind_some, decide_eq_false (by omega), cond_false, Option.bind_some]
    simp only [bne_self_eq_false, cond_false]
    rw [ckI_of (by omega) (by omega), Option.bind_some, Option.bind_some]
    simp only [bne_self_eq_false, cond_false]
    rw [ckI_of (by omega) (by omega), Option.bind_some, Option.bind_some, show c + 3 * (x.Key.length : Int) + 1 + 1 = c + 3 * (x.Key.length : Int) + 2 by omega]
    simp only [bne_self_eq_false, cond_false]
    rw [ckI_of (by omega) (by omega), Option.bind_some, ck1 (by omega), Option.bind_some]
    unfold wTa
    rw [show c + 3 * (x.Key.length : Int) + 2 + 1 = c + (3 * (x.Key.length : Int) + 3) by omega]
    rfl) (fun f c => by rw [m_laws_heldTallyS_l1, dnlt]; rfl) l [] k (((markM mkTa wTa k l).length : Int) - 0).toNat.succ rfl (by rw [markM_len]; omega) (fun _ _ => trivial) hk hB (by simp only [List.length_nil]; omega)
theorem sumL {α : Type} {f g : α → Nat} : ∀ {l : List α}, (∀ x ∈ l, f x ≤ g x) → (l.map f).sum ≤ (l.map g).sum
  | [], _ => Nat.le_refl _
  | x :: l, h => by
    rw [List.map_cons, List.sum_cons, List.map_cons, List.sum_cons]
    have := sumL (f := f) (g := g) (l := l) fun y hy => h y (by simp [hy])
    have := h x (by simp)
    omega
theorem endR_b {l : Rows} (h : wt_LLimpl_Value l ≤ 100000000) : endM wR 1 l ≤ 1000000000 := by
  have h1 := endM_sum (w := wR) (m := fun r => r.length) (fun x => by unfold wR; omega) 1 l
  have h2 : (l.map fun r : Row => r.length).sum ≤ (l.map fun x => wt_Limpl_Value x).sum := sumL fun x _ => wt_Limpl_Value_len
  unfold wt_LLimpl_Value at h
  omega
theorem sumB {α : Type} {f : α → Nat} {B : Nat} : ∀ {l : List α}, (∀ x ∈ l, f x ≤ B) → (l.map f).sum ≤ l.length * B
  | [], _ => Nat.zero_le _
  | x :: l, h => by
    rw [List.map_cons, List.sum_cons, List.length_cons, Nat.succ_mul]
    have := sumB (f := f) (B := B) (l := l) fun y hy => h y (by simp [hy])
    have := h x (by simp)
    omega
theorem talliesOf_b (rs : Rows) : (talliesOf rs).length ≤ 1000 ∧ ∀ x ∈ talliesOf rs, rowOk x.Key = true := by
  unfold talliesOf
  split
  · rename_i h
    obtain ⟨n1, n2⟩ := (tallOf_inv h.2).num (by omega)
    exact ⟨n1, fun x hx => (n2 x hx).2.1⟩
  · exact ⟨by simp, by simp⟩
theorem wt_row {r : Row} (h : rowOk r = true) : wt_Limpl_Value r ≤ 28 := by
  obtain ⟨h1, h2⟩ := rowOk_b h
  have h3 : (r.map fun v => wt_impl_Value v).sum ≤ r.length * 6 := sumB fun v hv => (vok_b (h2 v hv)).1
  unfold wt_Limpl_Value
  omega
theorem wt_tal {l : List Ta} (hl : l.length ≤ 1000) (h : ∀ x ∈ l, rowOk x.Key = true) : wt_Limpl_Tally l ≤ 100000000 := by
  have h3 : (l.map fun t => wt_impl_Tally t).sum ≤ l.length * 28 := sumB fun t ht => wt_row (h t ht)
  unfold wt_Limpl_Tally
  omega
theorem endTa_b {l : List Ta} (hl : l.length ≤ 1000) (h : ∀ x ∈ l, rowOk x.Key = true) : endM wTa 1 l ≤ 1000000000 := by
  have h1 := endM_sum (w := wTa) (m := fun t => t.Key.length + 1) (fun x => by unfold wTa; push_cast; omega) 1 l
  have h2 : (l.map fun t : Ta => t.Key.length + 1).sum ≤ l.length * 5 := sumB fun t ht => by have := (rowOk_b (h t ht)).1; omega
  omega
theorem pure_FnExactTalliesOf (a0 : List (List S_laws_Value)) (b0 : B_list (B_list B_laws_Value) a0) : m_laws_FnExactTalliesOf a0 = some true := by
  unfold m_laws_FnExactTalliesOf
  rw [sz_LLlaws_Value b0 (by decide) (by decide), Option.bind_some]
  by_cases h0 : (wt_LLlaws_Value a0 : Int) ≤ 1048576
  case neg => rw [szR_lt' h0, cond_true]
  have hsm := smE_rows (l := a0) (by omega)
  have hto := to_LLlaws_Value (a := a0) (by omega)
  have hwt : wt_LLimpl_Value (cv_LLlaws_Value a0) ≤ 100000000 := by rw [wc_LLlaws_Value]; omega
  rw [szR_lt h0, cond_false, hto, Option.bind_some]
  generalize cv_LLlaws_Value a0 = R at hsm hto hwt
  obtain ⟨hC, hCk⟩ := talliesOf_b R
  have eC := E_impl_TalliesOf (rs := R) hsm
  have eS := E_spec_TalliesOf2 (rs := R) hsm
  generalize talliesOf R = C at hC hCk eC eS
  have hw := wt_tal hC hCk
  have hB := endTa_b hC hCk
  have hB2 := endR_b hwt
  have hge := endM_ge (w := wTa) (fun x => by unfold wTa; omega) 1 C
  have hge2 := endM_ge (w := wR) (fun x => by unfold wR; omega) 1 R
  have hRl : R.length ≤ 900000000 := by have := hsm.1; omega
  have eqC : m_laws_eqTallyS C C = some true := by rw [eq_Limpl_Tally hw]; exact congrArg some (decide_eq_true rfl)
  have eqR : m_laws_eqValueSS R R = some true := by rw [eq_LLimpl_Value hwt]; exact congrArg some (decide_eq_true rfl)
  rw [eS, Option.bind_some, Option.bind_some, eC, Option.bind_some, eqC, Option.bind_some, Bool.not_true, cond_false, Option.bind_some, eqR, Option.bind_some, Bool.not_true, cond_false, E_markR (by omega) hB2 hRl, Option.bind_some, lenQ_ok (markM_len _ _), Option.bind_some, decide_eq_false (by simp only; omega), cond_false, Option.bind_some, Bool.not_true]
  unfold m_laws_FnExactTalliesOf_j1
  rw [cond_false, E_markTa (by omega) hB (by omega), Option.bind_some, lenQ_ok (markM_len _ _), Option.bind_some, E_heldTa (by omega) hB (by omega), Option.bind_some, decide_eq_false (by omega), cond_false]
  simp only [bne_self_eq_false, cond_false]
  rw [hto, Option.bind_some, eC, Option.bind_some, eqC, Option.bind_some, Bool.not_true, cond_false, Option.bind_some, decide_eq_false (by omega), cond_false, bne_self_eq_false, cond_false]
end Go.Proofs.Ytkgmomocjkmipaa
