/- What the mirrors come to, in plain Lean: the law itself at the end. -/
import Derived.Test.YtemfdnnhknepbaaXW4
import Derived.Test.YtemfdnnhknepbaaLd
set_option linter.unusedVariables false
set_option linter.unusedSimpArgs false
namespace Go.Proofs.Ytemfdnnhknepbaa
open Go.Proofs Go.Lift
abbrev V := S_impl_Value
abbrev Row := List V
abbrev Rows := List Row

def cmpI (a b : Int) : Int := if a < b then -1 else if b < a then 1 else 0
def cmpS (a b : ByteArray) : Int := if sLt a b then -1 else if sLt a b || sEq a b then 0 else 1
def orI (l : List Int) : Int := (l.find? (· != 0)).getD 0
def lower (l : List UInt8) : Bool := l.all fun b => decide (97 ≤ b.toNat) && decide (b.toNat ≤ 122)
/-- A value is one. -/
def vOk (v : V) : Bool :=
  if v.Kind = 0 then decide (v = ⟨0, 0, ⟨#[]⟩⟩)
  else if v.Kind = 1 then decide (v.S = ⟨#[]⟩) && (decide (-9999 ≤ v.N) && decide (v.N ≤ 9999))
  else if v.Kind = 2 then decide (v.N = 0) && decide (v.S.size ≤ 6) && lower v.S.data.toList
  else if v.Kind = 3 then decide (v.S = ⟨#[]⟩) && (decide (0 ≤ v.N) && decide (v.N ≤ 1))
  else false
def vOrd (v w : V) : Int := orI [cmpI v.Kind w.Kind, cmpI v.N w.N, cmpS v.S w.S]
def rowOk (l : Row) : Bool := decide (l.length ≤ 4) && l.all vOk
/-- As memory holds it with ease. -/
def vSm (v : V) : Prop := v.S.size ≤ 1000
def rSm (l : Row) : Prop := l.length ≤ 1000 ∧ ∀ v ∈ l, vSm v
def rsSm (l : Rows) : Prop := l.length ≤ 100000 ∧ ∀ r ∈ l, rSm r
def cmpL {α : Type} (p : α → α → Int) : List α → List α → Int
  | [], [] => 0
  | [], _ :: _ => -1
  | _ :: _, [] => 1
  | a :: x, b :: y => if p a b = 0 then cmpL p x y else p a b
def vvOrd (a b : V) : Int := if vOk a && vOk b then vOrd a b else 0
def rOrd (a b : Row) : Int := orI [cmpL vOrd a b, cmpI a.length b.length]
def rrOrd (a b : Row) : Int := if rowOk a && rowOk b then rOrd a b else 0

theorem E_sameRow {a b : Row} (ha : a.length ≤ 1000000) : m_laws_sameRow a b = some (decide (a = b)) := by
  unfold m_laws_sameRow
  by_cases h : a.length = b.length
  · have hc : ((a.length : Int) != (b.length : Int)) = false := by simp [h]
    rw [hc, cond_false, ← all2_eq h]
    refine scan2 a b h (fun n k => m_laws_sameRow_l1 n a b k) (fun n k x y hx hy => ?_) (fun n => ?_) _ (by omega)
    · have := lt_of_at hx
      simp only [m_laws_sameRow_l1, dlt this, at_of hx, at_of hy, ck1 (show k < 1000000000000 by omega), Option.bind_some, cond_true]
      cases decide (x = y) <;> rfl
    · simp only [m_laws_sameRow_l1, dnlt]; rfl
  · have hc : ((a.length : Int) != (b.length : Int)) = true := by simp; omega
    rw [hc, cond_true]
    have : a ≠ b := fun e => h (by rw [e])
    simp [this]
theorem E_sameRows {a b : Rows} (ha : a.length ≤ 1000000) (hr : ∀ r ∈ a, r.length ≤ 1000000) : m_laws_sameRows a b = some (decide (a = b)) := by
  unfold m_laws_sameRows
  by_cases h : a.length = b.length
  · have hc : ((a.length : Int) != (b.length : Int)) = false := by simp [h]
    rw [hc, cond_false, ← all2_eq h]
    refine scan2 a b h (fun n k => m_laws_sameRows_l1 n a b k) (fun n k x y hx hy => ?_) (fun n => ?_) _ (by omega)
    · have := lt_of_at hx
      simp only [m_laws_sameRows_l1, dlt this, at_of hx, at_of hy, ck1 (show k < 1000000000000 by omega), Option.bind_some, cond_true, E_sameRow (hr x (List.mem_of_getElem? hx))]
      cases decide (x = y) <;> rfl
    · simp only [m_laws_sameRows_l1, dnlt]; rfl
  · have hc : ((a.length : Int) != (b.length : Int)) = true := by simp; omega
    rw [hc, cond_true]
    have : a ≠ b := fun e => h (by rw [e])
    simp [this]
theorem E_IndexFunc_V {l : Row} {p : V → Option Bool} {q : V → Bool} (hl : l.length ≤ 1000000) (hp : ∀ v ∈ l, p v = some (q v)) : m_slices_ContainsFunc_Limpl_Value_impl_Value l p = some (l.any q) := by
  unfold m_slices_ContainsFunc_Limpl_Value_impl_Value m_slices_IndexFunc_Limpl_Value_impl_Value
  have key : ∀ (ys : Row) (k n : Nat), l.drop k = ys → k ≤ l.length → ys.length < n → ∃ i : Int, m_slices_IndexFunc_Limpl_Value_impl_Value_l1 p n l (l.length : Int) (k : Int) = some i ∧ decide (i ≥ 0) = ys.any q := by
    intro ys
    induction ys with
    | nil =>
      intro k n hd hk hn
      have : k = l.length := by
        have := congrArg List.length hd
        simp at this; omega
      subst this
      obtain ⟨m, rfl⟩ : ∃ m, n = m + 1 := ⟨n - 1, by simp at hn; omega⟩
      exact ⟨-1, by simp only [m_slices_IndexFunc_Limpl_Value_impl_Value_l1, dnlt]; rfl, rfl⟩
    | cons y ys ih =>
      intro k n hd hk hn
      have hlt : k < l.length := by
        have := congrArg List.length hd
        simp at this; omega
      have hc := List.drop_eq_getElem_cons hlt
      rw [hd] at hc
      simp only [List.cons.injEq] at hc
      have hx : l[k]? = some y := by rw [List.getElem?_eq_getElem hlt, hc.1]
      obtain ⟨m, rfl⟩ : ∃ m, n = m + 1 := ⟨n - 1, by simp at hn; omega⟩
      simp only [m_slices_IndexFunc_Limpl_Value_impl_Value_l1, dlt hlt, at_of hx, hp y (List.mem_of_getElem? hx), ck1 (show k < 1000000000000 by omega), Option.bind_some, cond_true]
      cases hq : q y
      · obtain ⟨i, h1, h2⟩ := ih (k + 1) m hc.2.symm (by omega) (by simp at hn; omega)
        exact ⟨i, by simpa using h1, by rw [h2]; simp [hq]⟩
      · exact ⟨(k : Int), rfl, by simp [hq]⟩
  obtain ⟨i, h1, h2⟩ := key l 0 _ rfl (by omega) (show l.length < (((l.length : Int) - 0).toNat + 1) by omega)
  rw [show ((0 : Nat) : Int) = 0 from rfl] at h1
  rw [h1]
  simp only [Option.bind_some, h2]
theorem E_between (a b c : Int) : m_impl_between a b c = some (decide (b ≤ a) && decide (a ≤ c)) := by
  unfold m_impl_between m_impl_between_j1
  by_cases h : a ≥ b <;> simp [h]
theorem E_l1In (a b c : Int) : m_spec_l1In a b c = some (decide (b ≤ a) && decide (a ≤ c)) := by
  unfold m_spec_l1In m_spec_l1In_j1
  by_cases h : a ≥ b <;> simp [h]
theorem lower_any (l : List UInt8) : lower l = !(l.any fun b => !(decide (97 ≤ (b.toNat : Int)) && decide ((b.toNat : Int) ≤ 122))) := by
  unfold lower
  rw [List.all_eq_not_any_not]
  congr 2
  funext b
  congr 1
  have h1 : decide (97 ≤ b.toNat) = decide (97 ≤ (b.toNat : Int)) := by rw [decide_eq_decide]; omega
  have h2 : decide (b.toNat ≤ 122) = decide ((b.toNat : Int) ≤ 122) := by rw [decide_eq_decide]; omega
  rw [h1, h2]
theorem E_letters {s : ByteArray} (h : s.size ≤ 1000000) : m_impl_letters s = some (lower s.data.toList) := by
  unfold m_impl_letters sBytes?
  rw [if_pos (by omega)]
  simp only [Option.bind_some]
  have hl : s.data.toList.length ≤ 1000000 := h
  have := scanA (p := fun b : UInt8 => !(decide (97 ≤ (b.toNat : Int)) && decide ((b.toNat : Int) ≤ 122))) (r0 := false) (r1 := true) s.data.toList (fun n k => m_impl_letters_l1 n s.data.toList (s.data.toList.length : Int) k) (fun n k x hx => by
    have := lt_of_at hx
    simp only [m_impl_letters_l1, dlt this, at_of hx, E_between, ck1 (show k < 1000000000000 by omega), Option.bind_some, cond_true]) (fun n => by simp only [m_impl_letters_l1, dnlt]; rfl) _ fuel0
  rw [this, lower_any]
  cases s.data.toList.any fun b => !(decide (97 ≤ (b.toNat : Int)) && decide ((b.toNat : Int) ≤ 122)) <;> rfl
theorem sAt_of {s : ByteArray} {k : Nat} {x : UInt8} (h : s.data.toList[k]? = some x) : sAt? s (k : Int) = some x := by
  unfold sAt?
  rw [if_pos (by omega)]
  obtain ⟨h1, h2⟩ := List.getElem?_eq_some_iff.1 h
  have hs : k < s.size := by have := h1; rwa [Array.length_toList] at this
  have : s[k]? = some (s[k]'hs) := by simp [hs]
  rw [Int.toNat_natCast, this]
  congr 1
theorem E_l1Text {s : ByteArray} (h : s.size ≤ 1000000) : m_spec_l1Text s = some (lower s.data.toList && decide (s.size ≤ 6)) := by
  unfold m_spec_l1Text
  have hl : s.data.toList.length = s.size := rfl
  rw [← hl]
  have := scanA (p := fun b : UInt8 => !(decide (97 ≤ (b.toNat : Int)) && decide ((b.toNat : Int) ≤ 122))) (r0 := false) (r1 := decide ((s.size : Int) ≤ 6)) s.data.toList (fun n k => m_spec_l1Text_l1 n s k) (fun n k x hx => by
    have := lt_of_at hx
    have hd : decide ((k : Int) < (s.size : Int)) = true := by rw [← hl]; exact dlt this
    simp only [m_spec_l1Text_l1, m_spec_l1Text_j1, hd, sAt_of hx, ck1 (show k < 1000000000000 by omega), Option.bind_some, cond_true]
    have e1 : ((97 : UInt8).toNat : Int) = 97 := rfl
    have e2 : ((122 : UInt8).toNat : Int) = 122 := rfl
    rw [e1, e2]
    by_cases h1 : (x.toNat : Int) < 97
    · have : ¬ (97 ≤ (x.toNat : Int)) := by omega
      simp [h1, this]
    · have h1' : 97 ≤ (x.toNat : Int) := by omega
      by_cases h2 : (x.toNat : Int) > 122
      · have : ¬ ((x.toNat : Int) ≤ 122) := by omega
        simp [h1, h2, this]
      · have : (x.toNat : Int) ≤ 122 := by omega
        simp [h1, h2, this, h1']) (fun n => by simp only [m_spec_l1Text_l1, hl, dnlt]; rfl) _ fuel0
  rw [this, lower_any]
  have e : decide ((s.size : Int) ≤ 6) = decide (s.size ≤ 6) := by rw [decide_eq_decide]; omega
  rw [e]
  cases s.data.toList.any fun b => !(decide (97 ≤ (b.toNat : Int)) && decide ((b.toNat : Int) ≤ 122)) <;> simp
theorem E_Value_ok {v : V} (h : v.S.size ≤ 1000000) : m_impl_Value_ok v = some (vOk v) := by
  unfold m_impl_Value_ok m_impl_Value_ok_j1 m_impl_Value_ok_j2 m_impl_Value_ok_j3 vOk
  simp only [E_between, E_letters h, Option.bind_some, sEq_eq]
  by_cases h0 : v.Kind = 0
  · simp [h0]
  · by_cases h1 : v.Kind = 1
    · by_cases hs : v.S = ⟨#[]⟩ <;> simp [beqF h0, h0, h1, hs]
    · by_cases h2 : v.Kind = 2
      · by_cases hn : v.N = 0
        · by_cases hs : v.S.size ≤ 6
          · have : (v.S.size : Int) ≤ 6 := by omega
            simp [beqF h0, beqF h1, h0, h1, h2, hn, hs, this]
          · have : ¬ (v.S.size : Int) ≤ 6 := by omega
            simp [beqF h0, beqF h1, h0, h1, h2, hn, hs, this]
        · simp [beqF h0, beqF h1, h0, h1, h2, beqF hn, hn]
      · by_cases h3 : v.Kind = 3
        · by_cases hs : v.S = ⟨#[]⟩ <;> simp [beqF h0, beqF h1, beqF h2, h0, h1, h2, h3, hs]
        · simp [beqF h0, beqF h1, beqF h2, beqF h3, h0, h1, h2, h3]
theorem E_spec_ValueOk {v : V} (h : v.S.size ≤ 1000000) : m_spec_ValueOk v = some (vOk v) := by
  unfold m_spec_ValueOk m_spec_ValueOk_j1 m_spec_ValueOk_j2 m_spec_ValueOk_j3 m_spec_ValueOk_j4 vOk
  simp only [E_l1In, E_l1Text h, Option.bind_some, sEq_eq]
  obtain ⟨k, n, s⟩ := v
  simp only [S_impl_Value.mk.injEq]
  by_cases h0 : k = 0
  · by_cases hn : n = 0
    · simp [h0, hn]
    · simp [h0, hn, beqF hn]
  · by_cases h1 : k = 1
    · by_cases hs : s = ⟨#[]⟩ <;> by_cases ha : -9999 ≤ n <;> by_cases hb : n ≤ 9999 <;> simp [beqF h0, h0, h1, hs, ha, hb]
    · by_cases h2 : k = 2
      · by_cases hn : n = 0
        · simp [beqF h0, beqF h1, h0, h1, h2, hn, Bool.and_comm]
        · simp [beqF h0, beqF h1, h0, h1, h2, beqF hn, hn]
      · by_cases h3 : k = 3
        · by_cases hs : s = ⟨#[]⟩ <;> by_cases ha : 0 ≤ n <;> by_cases hb : n ≤ 1 <;> simp [beqF h0, beqF h1, beqF h2, h0, h1, h2, h3, hs, ha, hb]
        · simp [beqF h0, beqF h1, beqF h2, beqF h3, h0, h1, h2, h3]
theorem E_impl_RowOk {l : Row} (h : rSm l) : m_impl_RowOk l = some (rowOk l) := by
  unfold m_impl_RowOk m_impl_RowOk_j1 rowOk
  obtain ⟨h1, h2⟩ := h
  rw [E_IndexFunc_V (q := fun v => !(vOk v)) (by omega) (fun v hv => by unfold m_impl_RowOk_1; rw [E_Value_ok (by have := h2 v hv; unfold vSm at this; omega)]; rfl)]
  simp only [Option.bind_some]
  rw [List.all_eq_not_any_not]
  by_cases h : l.length ≤ 4
  · have : (l.length : Int) ≤ 4 := by omega
    simp [h, this]
  · have : ¬ (l.length : Int) ≤ 4 := by omega
    simp [h, this]
theorem E_spec_RowOk {l : Row} (h : rSm l) : m_spec_RowOk l = some (rowOk l) := by
  unfold m_spec_RowOk rowOk
  obtain ⟨h1, h2⟩ := h
  have := scanA (p := fun v => !(vOk v)) (r0 := false) (r1 := decide ((l.length : Int) ≤ 4)) l (fun n k => m_spec_RowOk_l1 n l k) (fun n k x hx => by
    have := lt_of_at hx
    have hsm := h2 x (List.mem_of_getElem? hx)
    unfold vSm at hsm
    simp only [m_spec_RowOk_l1, dlt this, at_of hx, E_spec_ValueOk (show x.S.size ≤ 1000000 by omega), ck1 (show k < 1000000000000 by omega), Option.bind_some, cond_true]) (fun n => by simp only [m_spec_RowOk_l1, dnlt]; rfl) _ fuel0
  rw [this, List.all_eq_not_any_not]
  have e : decide ((l.length : Int) ≤ 4) = decide (l.length ≤ 4) := by rw [decide_eq_decide]; omega
  rw [e]
  cases l.any fun v => !(vOk v) <;> simp
theorem E_allRows {l : Rows} (h : rsSm l) : m_laws_allRows l = some (l.all rowOk) := by
  unfold m_laws_allRows
  obtain ⟨h1, h2⟩ := h
  have := scanA (p := fun r => !(rowOk r)) (r0 := false) (r1 := true) l (fun n k => m_laws_allRows_l1 n l k) (fun n k x hx => by
    have := lt_of_at hx
    simp only [m_laws_allRows_l1, dlt this, at_of hx, E_impl_RowOk (h2 x (List.mem_of_getElem? hx)), ck1 (show k < 1000000000000 by omega), Option.bind_some, cond_true]) (fun n => by simp only [m_laws_allRows_l1, dnlt]; rfl) _ fuel0
  rw [this, List.all_eq_not_any_not]
  cases l.any fun v => !(rowOk v) <;> rfl
theorem E_alive : m_laws_alive = some true := by
  unfold m_laws_alive m_laws_alive_j1 m_impl_ValueOk
  rw [E_Value_ok (by decide), E_Value_ok (by decide)]
  rfl
theorem E_CompareI (a b : Int) : m_cmp_Compare_int a b = some (cmpI a b) := by
  unfold m_cmp_Compare_int m_cmp_isNaN_int cmpI
  have e : ∀ x : Int, (x != x) = false := fun x => by simp
  simp only [e, Option.bind_some, cond_false]
  by_cases h : a < b
  · simp [h]
  · by_cases h2 : a > b
    · simp [h, h2]
    · simp [h, h2]
theorem E_CompareS (a b : ByteArray) : m_cmp_Compare_string a b = some (cmpS a b) := by
  unfold m_cmp_Compare_string m_cmp_isNaN_string cmpS
  have e : ∀ x : ByteArray, (!(sEq x x)) = false := fun x => by simp [sEq_eq]
  simp only [e, Option.bind_some, cond_false]
  cases h1 : sLt a b <;> cases h2 : sEq a b <;> simp
theorem E_l1Cmp (a b : ByteArray) : m_spec_l1Cmp a b = some (cmpS a b) := by
  unfold m_spec_l1Cmp cmpS
  cases h1 : sLt a b <;> cases h2 : sEq a b <;> simp
theorem E_Or {l : List Int} (h : l.length ≤ 1000000) : m_cmp_Or_int l = some (orI l) := by
  unfold m_cmp_Or_int
  rw [scanC l (fun n k (_ : Unit) => m_cmp_Or_int_l1 n 0 l (l.length : Int) k) (fun x s k => bif (x != 0) then some x else k s) (fun _ => some 0) (fun n k x s hx => by
    have := lt_of_at hx
    rw [m_cmp_Or_int_l1, dlt this, cond_true, at_of hx, Option.bind_some, ck1 (show k < 1000000000000 by omega), Option.bind_some]) (fun n s => by rw [m_cmp_Or_int_l1, dnlt]; rfl) _ fuel0 ()]
  clear h
  unfold orI
  induction l with
  | nil => rfl
  | cons x l ih =>
    simp only [foldC, List.find?_cons]
    cases hx : (x != 0)
    · simpa using ih
    · rfl
theorem E_order (v w : V) : m_impl_Value_order v w = some (vOrd v w) := by
  unfold m_impl_Value_order vOrd
  rw [E_CompareI, Option.bind_some, E_CompareI, Option.bind_some, E_CompareS, Option.bind_some, E_Or (by simp)]
  rfl
theorem E_CompareFunc {a b : Row} {p : V → V → Option Int} {q : V → V → Int} (ha : a.length ≤ 1000000) (hp : ∀ v w, p v w = some (q v w)) : m_slices_CompareFunc_Limpl_Value_Limpl_Value_impl_Value_impl_Value a b p = some (cmpL q a b) := by
  unfold m_slices_CompareFunc_Limpl_Value_Limpl_Value_impl_Value_impl_Value
  have key : ∀ (ys : Row) (k n : Nat), a.drop k = ys → k ≤ a.length → k ≤ b.length → ys.length < n → m_slices_CompareFunc_Limpl_Value_Limpl_Value_impl_Value_impl_Value_l1 p n a b a (a.length : Int) (k : Int) = some (cmpL q ys (b.drop k)) := by
    intro ys
    induction ys with
    | nil =>
      intro k n hd hk hk2 hn
      have : k = a.length := by
        have := congrArg List.length hd
        simp at this; omega
      subst this
      obtain ⟨m, rfl⟩ : ∃ m, n = m + 1 := ⟨n - 1, by simp at hn; omega⟩
      rw [m_slices_CompareFunc_Limpl_Value_Limpl_Value_impl_Value_impl_Value_l1, dnlt, cond_false]
      unfold m_slices_CompareFunc_Limpl_Value_Limpl_Value_impl_Value_impl_Value_j1
      by_cases h : a.length < b.length
      · rw [List.drop_eq_getElem_cons h]
        have : (a.length : Int) < (b.length : Int) := by omega
        simp [this, cmpL]
      · rw [List.drop_eq_nil_of_le (by omega)]
        have : ¬ (a.length : Int) < (b.length : Int) := by omega
        simp [this, cmpL]
    | cons y ys ih =>
      intro k n hd hk hk2 hn
      have hlt : k < a.length := by
        have := congrArg List.length hd
        simp at this; omega
      have hc := List.drop_eq_getElem_cons hlt
      rw [hd] at hc
      simp only [List.cons.injEq] at hc
      have hx : a[k]? = some y := by rw [List.getElem?_eq_getElem hlt, hc.1]
      obtain ⟨m, rfl⟩ : ∃ m, n = m + 1 := ⟨n - 1, by simp at hn; omega⟩
      rw [m_slices_CompareFunc_Limpl_Value_Limpl_Value_impl_Value_impl_Value_l1, dlt hlt, cond_true, at_of hx, Option.bind_some]
      show (bif decide ((k : Int) ≥ (b.length : Int)) then _ else _) = _
      by_cases h : k < b.length
      · have hd2 : decide ((k : Int) ≥ (b.length : Int)) = false := by simp; omega
        have hb : b[k]? = some b[k] := by simp [h]
        rw [hd2, cond_false, at_of hb, Option.bind_some]
        show ((p y b[k]).bind _) = _
        rw [hp, Option.bind_some, ck1 (show k < 1000000000000 by omega), Option.bind_some, List.drop_eq_getElem_cons h]
        simp only [cmpL]
        have := ih (k + 1) m hc.2.symm (by omega) (by omega) (by simp at hn; omega)
        by_cases hq : q y b[k] = 0
        · rw [if_pos hq]
          have hq' : (q y b[k] != 0) = false := by simp [hq]
          rw [hq', cond_false]
          exact this
        · rw [if_neg hq, beqF' hq, cond_true]
      · have hd2 : decide ((k : Int) ≥ (b.length : Int)) = true := by simp; omega
        rw [hd2, cond_true, List.drop_eq_nil_of_le (by omega)]
        rfl
  have := key a 0 _ rfl (by omega) (by omega) (show a.length < (((a.length : Int) - 0).toNat + 1) by omega)
  simpa using this
theorem E_rowOrder {a b : Row} (ha : a.length ≤ 1000000) : m_impl_rowOrder a b = some (rOrd a b) := by
  unfold m_impl_rowOrder rOrd
  rw [E_CompareFunc ha (fun v w => E_order v w), Option.bind_some, E_CompareI, Option.bind_some, E_Or (by simp)]
  rfl
theorem E_impl_RowOrder {a b : Row} (ha : rSm a) (hb : rSm b) : m_impl_RowOrder a b = some (rrOrd a b) := by
  unfold m_impl_RowOrder m_impl_RowOrder_j1 rrOrd
  rw [E_impl_RowOk ha, Option.bind_some, E_impl_RowOk hb, Option.bind_some, E_rowOrder (by have := ha.1; omega)]
  cases rowOk a <;> cases rowOk b <;> rfl
def lessI (a b : Int) : Int := if a < b then 1 else 0
theorem E_Less (a b : Int) : m_spec_l1Less a b = some (lessI a b) := by
  unfold m_spec_l1Less lessI
  by_cases h : a < b <;> simp [h]
theorem less_b (a b : Int) : 0 ≤ lessI a b ∧ lessI a b ≤ 1 := by unfold lessI; split <;> omega
theorem orI_1 {x : Int} {l : List Int} (h : x ≠ 0) : orI (x :: l) = x := by simp [orI, h]
theorem orI_0 {l : List Int} : orI (0 :: l) = orI l := by simp [orI]
theorem cmpI_0 {a b : Int} : cmpI a b = 0 ↔ a = b := by unfold cmpI; split <;> (try split) <;> omega
theorem less_cmp {a b : Int} (h : a ≠ b) : 2 * lessI b a - 1 = cmpI a b := by unfold lessI cmpI; split <;> split <;> (try split) <;> omega
theorem E_ValueOrder {a b : V} (ha : vSm a) (hb : vSm b) : m_spec_ValueOrder a b = some (vvOrd a b) := by
  unfold m_spec_ValueOrder m_spec_ValueOrder_j1 vvOrd vOrd
  unfold vSm at ha hb
  rw [E_spec_ValueOk (by omega), Option.bind_some, E_spec_ValueOk (by omega), Option.bind_some]
  cases vOk a
  · rfl
  cases vOk b
  · rfl
  simp only [Bool.not_true, cond_false, Bool.and_self, if_true, E_Less, E_l1Cmp, Option.bind_some]
  by_cases h1 : a.Kind = b.Kind
  · have : (a.Kind != b.Kind) = false := by simp [h1]
    rw [this, cond_false, cmpI_0.2 h1, orI_0]
    by_cases h2 : a.N = b.N
    · have : (a.N != b.N) = false := by simp [h2]
      rw [this, cond_false, cmpI_0.2 h2, orI_0]
      by_cases h3 : cmpS a.S b.S = 0
      · rw [h3, orI_0]; rfl
      · rw [orI_1 h3]
    · rw [beqF' h2, cond_true, orI_1 (by rw [ne_eq, cmpI_0]; exact h2), ← less_cmp h2]
      have := less_b b.N a.N
      rw [ckI_of (by omega) (by omega), Option.bind_some, ckI_of (by omega) (by omega), Option.bind_some]
  · rw [beqF' h1, cond_true, orI_1 (by rw [ne_eq, cmpI_0]; exact h1), ← less_cmp h1]
    have := less_b b.Kind a.Kind
    rw [ckI_of (by omega) (by omega), Option.bind_some, ckI_of (by omega) (by omega), Option.bind_some]
theorem cmpL_0 {α : Type} {p : α → α → Int} : ∀ {a b : List α}, cmpL p a b = 0 → a.length = b.length
  | [], [], _ => rfl
  | [], _ :: _, h => by simp [cmpL] at h
  | _ :: _, [], h => by simp [cmpL] at h
  | x :: a, y :: b, h => by
    simp only [cmpL] at h
    split at h
    · simpa using cmpL_0 h
    · exact absurd h (by assumption)
theorem rOrd_cmpL (a b : Row) : rOrd a b = cmpL vOrd a b := by
  unfold rOrd
  by_cases h : cmpL vOrd a b = 0
  · have := cmpL_0 h
    simp [orI, h, cmpI, this]
  · simp [orI, h]
theorem E_spec_RowOrder {a b : Row} (ha : rSm a) (hb : rSm b) : m_spec_RowOrder a b = some (rrOrd a b) := by
  unfold m_spec_RowOrder m_spec_RowOrder_j1 rrOrd
  rw [E_spec_RowOk ha, Option.bind_some, E_spec_RowOk hb, Option.bind_some]
  cases hoa : rowOk a
  · rfl
  cases hob : rowOk b
  · rfl
  simp only [Bool.not_true, cond_false, Bool.and_self, if_true]
  obtain ⟨ha1, ha2⟩ := ha
  obtain ⟨hb1, hb2⟩ := hb
  unfold rowOk at hoa hob
  simp only [Bool.and_eq_true, List.all_eq_true] at hoa hob
  rw [rOrd_cmpL]
  have key : ∀ (ys : Row) (k n : Nat), a.drop k = ys → k ≤ a.length → k ≤ b.length → ys.length < n → m_spec_RowOrder_l1 n a b (k : Int) = some (cmpL vOrd ys (b.drop k)) := by
    intro ys
    induction ys with
    | nil =>
      intro k n hd hk hk2 hn
      have : k = a.length := by
        have := congrArg List.length hd
        simp at this; omega
      subst this
      obtain ⟨m, rfl⟩ : ∃ m, n = m + 1 := ⟨n - 1, by simp at hn; omega⟩
      rw [m_spec_RowOrder_l1, dnlt, cond_false]
      unfold m_spec_RowOrder_j2 m_spec_RowOrder_j3
      rw [cond_false, E_Less, Option.bind_some, E_Less, Option.bind_some]
      have := less_b b.length a.length
      have := less_b a.length b.length
      rw [ckI_of (by omega) (by omega), Option.bind_some]
      congr 1
      by_cases h : a.length < b.length
      · rw [List.drop_eq_getElem_cons h]
        unfold lessI
        rw [if_neg (by omega), if_pos (by omega)]; rfl
      · rw [List.drop_eq_nil_of_le (by omega)]
        unfold lessI
        rw [if_neg (by omega), if_neg (by omega)]; rfl
    | cons y ys ih =>
      intro k n hd hk hk2 hn
      have hlt : k < a.length := by
        have := congrArg List.length hd
        simp at this; omega
      have hc := List.drop_eq_getElem_cons hlt
      rw [hd] at hc
      simp only [List.cons.injEq] at hc
      have hx : a[k]? = some y := by rw [List.getElem?_eq_getElem hlt, hc.1]
      obtain ⟨m, rfl⟩ : ∃ m, n = m + 1 := ⟨n - 1, by simp at hn; omega⟩
      rw [m_spec_RowOrder_l1, dlt hlt, cond_true]
      unfold m_spec_RowOrder_j2
      by_cases h : k < b.length
      · have hb : b[k]? = some b[k] := by simp [h]
        rw [dlt h, cond_true, at_of hx, Option.bind_some, at_of hb, Option.bind_some, E_ValueOrder (ha2 y (List.mem_of_getElem? hx)) (hb2 _ (List.getElem_mem h)), Option.bind_some, ck1 (show k < 1000000000000 by omega), Option.bind_some, List.drop_eq_getElem_cons h]
        have hv : vvOrd y b[k] = vOrd y b[k] := by
          unfold vvOrd
          rw [hoa.2 y (List.mem_of_getElem? hx), hob.2 _ (List.getElem_mem h)]; rfl
        rw [hv]
        simp only [cmpL]
        have := ih (k + 1) m hc.2.symm (by omega) (by omega) (by simp at hn; omega)
        by_cases hq : vOrd y b[k] = 0
        · rw [if_pos hq]
          have hq' : (vOrd y b[k] != 0) = false := by simp [hq]
          rw [hq', cond_false]
          exact this
        · rw [if_neg hq, beqF' hq, cond_true]
      · have hd2 : decide ((k : Int) < (b.length : Int)) = false := by simp; omega
        have hkb : k = b.length := by omega
        unfold m_spec_RowOrder_j3
        rw [hd2, cond_false, E_Less, Option.bind_some, E_Less, Option.bind_some]
        have := less_b b.length a.length
        have := less_b a.length b.length
        rw [ckI_of (by omega) (by omega), Option.bind_some]
        congr 1
        rw [List.drop_eq_nil_of_le (by omega)]
        unfold lessI
        rw [if_pos (by omega), if_neg (by omega)]; rfl
  have := key a 0 1000000000 rfl (by omega) (by omega) (by omega)
  simpa using this
theorem E_clone {l : Row} (h : l.length ≤ 1000000) : m_impl_clone_impl_Value l = some l := by
  unfold m_impl_clone_impl_Value appN?
  cases l with
  | nil => rfl
  | cons x l =>
    have e : (((x :: l).length : Int) == 0) = false := by simp; omega
    rw [e, cond_false, if_pos ⟨by simp, by omega⟩, Option.bind_some]; rfl
theorem foldl_snoc {α : Type} : ∀ (l a : List α), l.foldl (fun s x => s ++ [x]) a = a ++ l
  | [], a => by simp
  | x :: l, a => by rw [List.foldl_cons, foldl_snoc l]; simp
theorem E_rowsCopy {l : Rows} (h : l.length ≤ 1000000) (hr : ∀ r ∈ l, r.length ≤ 1000000) : m_impl_rowsCopy l = some l := by
  unfold m_impl_rowsCopy
  have := (scanF (f := fun (s : Rows) x => s ++ [x]) (J := fun s => some s) (fun k s => s.length = k) l (fun n k s => m_impl_rowsCopy_l1 n l (l.length : Int) k s) (fun n k x s hx hI => by
    have := lt_of_at hx
    rw [m_impl_rowsCopy_l1, dlt this, cond_true, at_of hx, Option.bind_some, E_clone (hr x (List.mem_of_getElem? hx)), Option.bind_some, app_of (by simp; omega), Option.bind_some, ck1 (show k < 1000000000000 by omega), Option.bind_some]
    exact ⟨rfl, by simp [hI]⟩) (fun n s _ => by
      rw [m_impl_rowsCopy_l1, dnlt, cond_false]
      unfold m_impl_rowsCopy_j1
      rfl) _ fuel0 [] rfl).1
  rw [this, foldl_snoc]; rfl
theorem E_l3Own {l : Row} (h : l.length ≤ 1000000) : m_spec_l3Own l = some l := by
  unfold m_spec_l3Own
  rw [app_of (by simp; omega)]; rfl

/-- Where a row goes, looked for from the end. -/
def posN (out : Rows) (r : Row) : Nat → Nat
  | 0 => 0
  | n + 1 => if rrOrd (out.getD n []) r > 0 then posN out r n else n + 1
def insR (out : Rows) (r : Row) : Rows := out.take (posN out r out.length) ++ r :: out.drop (posN out r out.length)
/-- Rows put in order, one after the other. -/
def sortR (rs : Rows) : Rows := rs.foldl insR []
theorem posN_le (out : Rows) (r : Row) : ∀ n, posN out r n ≤ n
  | 0 => Nat.le_refl _
  | n + 1 => by
    simp only [posN]
    split
    · exact Nat.le_succ_of_le (posN_le out r n)
    · exact Nat.le_refl _
theorem insR_len (out : Rows) (r : Row) : (insR out r).length = out.length + 1 := by
  have := posN_le out r out.length
  unfold insR
  simp; omega
theorem insR_mem (out : Rows) (r x : Row) : x ∈ insR out r ↔ x = r ∨ x ∈ out := by
  unfold insR
  rw [List.mem_append, List.mem_cons]
  conv => rhs; rw [← List.take_append_drop (posN out r out.length) out, List.mem_append]
  constructor
  · rintro (h | h | h) <;> simp [h]
  · rintro (h | h | h) <;> simp [h]
theorem rsSm_insR {out : Rows} {r : Row} (h : ∀ x ∈ out, rSm x) (hr : rSm r) : ∀ x ∈ insR out r, rSm x := by
  intro x hx
  rcases (insR_mem _ _ _).1 hx with rfl | hx
  · exact hr
  · exact h x hx
theorem getD_at {out : Rows} {j : Nat} (h : j < out.length) : out[j]? = some (out.getD j []) := by simp [h]
theorem ckd {j : Nat} (h : j + 1 < 1000000000000) : ckI (((j + 1 : Nat) : Int) - 1) = some (j : Int) := by
  rw [ckI_of (by omega) (by omega)]; congr 1; omega

theorem impl_inner {k1 : Rows → Int → Int → Rows → Option Rows} {r : Row} {t7 : Rows} {t8 t9 : Int} {o : Rows} (hr : rSm r) (ho : ∀ x ∈ o, rSm x) (hl : o.length ≤ 1000000) : ∀ (j n : Nat), j ≤ o.length → j < n →
    m_impl_RowsSorted_l2 k1 n r (j : Int) t7 t8 t9 o = m_impl_RowsSorted_j2 k1 r (posN o r j : Int) t7 t8 t9 o := by
  intro j
  induction j with
  | zero =>
    intro n _ hn
    obtain ⟨m, rfl⟩ : ∃ m, n = m + 1 := ⟨n - 1, by omega⟩
    rw [m_impl_RowsSorted_l2, show decide (((0 : Nat) : Int) > 0) = false from rfl, cond_false]
    unfold m_impl_RowsSorted_j1
    rfl
  | succ j ih =>
    intro n hj hn
    obtain ⟨m, rfl⟩ : ∃ m, n = m + 1 := ⟨n - 1, by omega⟩
    have hd : decide (((j + 1 : Nat) : Int) > 0) = true := by rw [decide_eq_true_eq]; omega
    rw [m_impl_RowsSorted_l2, hd, cond_true, ckd (by omega), Option.bind_some, at_of (getD_at (by omega)), Option.bind_some, Option.bind_some,
      E_impl_RowOrder (ho _ (by rw [List.getD_eq_getElem?_getD, List.getElem?_eq_getElem (by omega)]; exact List.getElem_mem _)) hr, Option.bind_some]
    unfold m_impl_RowsSorted_j1
    simp only [posN]
    by_cases h : rrOrd (o.getD j []) r > 0
    · rw [if_pos h, decide_eq_true h, cond_true, ckd (by omega), Option.bind_some]
      exact ih m (by omega) (by omega)
    · rw [if_neg h, decide_eq_false h, cond_false]
theorem E_impl_RowsSorted {rs : Rows} (h : rsSm rs) : m_impl_RowsSorted rs = some (sortR rs) := by
  unfold m_impl_RowsSorted
  obtain ⟨h1, h2⟩ := h
  have hh := scanF (f := insR) (J := fun s => m_impl_RowsSorted_j4 s) (fun k s => s.length = k ∧ ∀ x ∈ s, rSm x) rs (fun n k s => m_impl_RowsSorted_l1 n rs (rs.length : Int) k s) (fun n k x s hx hI => by
    have hlt := lt_of_at hx
    obtain ⟨hI1, hI2⟩ := hI
    have hxs := h2 x (List.mem_of_getElem? hx)
    refine ⟨?_, by rw [insR_len, hI1], rsSm_insR hI2 hxs⟩
    have hp := posN_le s x s.length
    rw [m_impl_RowsSorted_l1, dlt hlt, cond_true, at_of hx, Option.bind_some, impl_inner hxs hI2 (by omega) s.length _ (Nat.le_refl _) (by omega)]
    unfold m_impl_RowsSorted_j2 m_slices_Insert_LLimpl_Value_Limpl_Value
    simp only
    rw [if_pos (by omega), Option.bind_some]
    unfold m_impl_RowsSorted_j3
    rw [ck1 (show k < 1000000000000 by omega), Option.bind_some, Int.toNat_natCast]
    rfl) (fun n s _ => by rw [m_impl_RowsSorted_l1, dnlt, cond_false]) _ fuel0 [] ⟨rfl, by simp⟩
  rw [hh.1]
  unfold m_impl_RowsSorted_j4
  have hi := hh.2
  rw [E_rowsCopy (by omega) (fun r hr => by have := (hi.2 r hr).1; omega)]
  rfl
theorem spec_inner {k1 : Rows → Int → Rows → Option Rows} {t0 : Rows} {t : Nat} {r : Row} {o : Rows} (ht : t0[t]? = some r) (hr : rSm r) (ho : ∀ x ∈ o, rSm x) (hl : o.length ≤ 1000000) : ∀ (j n : Nat), j ≤ o.length → j < n →
    m_spec_RowsSorted_l2 k1 n t0 (t : Int) (j : Int) o = m_spec_RowsSorted_j2 k1 t0 (t : Int) (posN o r j : Int) o := by
  intro j
  induction j with
  | zero =>
    intro n _ hn
    obtain ⟨m, rfl⟩ : ∃ m, n = m + 1 := ⟨n - 1, by omega⟩
    rw [m_spec_RowsSorted_l2, show decide (((0 : Nat) : Int) > 0) = false from rfl, cond_false]
    unfold m_spec_RowsSorted_j1
    rfl
  | succ j ih =>
    intro n hj hn
    obtain ⟨m, rfl⟩ : ∃ m, n = m + 1 := ⟨n - 1, by omega⟩
    have hd : decide (((j + 1 : Nat) : Int) > 0) = true := by rw [decide_eq_true_eq]; omega
    rw [m_spec_RowsSorted_l2, hd, cond_true, ckd (by omega), Option.bind_some, at_of (getD_at (by omega)), Option.bind_some, Option.bind_some, at_of ht, Option.bind_some,
      E_spec_RowOrder (ho _ (by rw [List.getD_eq_getElem?_getD, List.getElem?_eq_getElem (by omega)]; exact List.getElem_mem _)) hr, Option.bind_some]
    unfold m_spec_RowsSorted_j1
    simp only [posN]
    by_cases h : rrOrd (o.getD j []) r > 0
    · rw [if_pos h, decide_eq_true h, cond_true, ckd (by omega), Option.bind_some]
      exact ih m (by omega) (by omega)
    · rw [if_neg h, decide_eq_false h, cond_false]
theorem cut_of {α : Type} {l : List α} {lo hi : Nat} (h : lo ≤ hi) (h2 : hi ≤ l.length) : cut? l (lo : Int) (hi : Int) = some ((l.take hi).drop lo) := by
  unfold cut?
  rw [if_pos (by omega)]
  simp
theorem E_spec_RowsSorted {rs : Rows} (h : rsSm rs) : m_spec_RowsSorted rs = some (sortR rs) ∧ (sortR rs).length = rs.length ∧ ∀ r ∈ sortR rs, rSm r := by
  unfold m_spec_RowsSorted
  obtain ⟨h1, h2⟩ := h
  have hh := scanF (f := insR) (J := fun s => some s) (fun k s => s.length = k ∧ ∀ x ∈ s, rSm x) rs (fun n k s => m_spec_RowsSorted_l1 n rs k s) (fun n k x s hx hI => by
    have hlt := lt_of_at hx
    obtain ⟨hI1, hI2⟩ := hI
    have hxs := h2 x (List.mem_of_getElem? hx)
    refine ⟨?_, by rw [insR_len, hI1], rsSm_insR hI2 hxs⟩
    have hp := posN_le s x s.length
    rw [m_spec_RowsSorted_l1, dlt hlt, cond_true, spec_inner hx hxs hI2 (by omega) s.length _ (Nat.le_refl _) (by omega)]
    unfold m_spec_RowsSorted_j2
    have hxl := hxs.1
    rw [show (0 : Int) = ((0 : Nat) : Int) from rfl, cut_of (Nat.zero_le _) hp, Option.bind_some, app_of (by simp; omega), Option.bind_some, at_of hx, Option.bind_some, E_l3Own (by omega), Option.bind_some, app_of (by simp; omega), Option.bind_some,
      cut_of hp (Nat.le_refl _), Option.bind_some, app_of (by simp; omega), Option.bind_some]
    unfold m_spec_RowsSorted_j3
    rw [ck1 (show k < 1000000000000 by omega), Option.bind_some]
    congr 1
    unfold insR
    simp) (fun n s _ => by rw [m_spec_RowsSorted_l1, dnlt, cond_false]; rfl) _ fuel0 [] ⟨rfl, by simp⟩
  exact ⟨hh.1, hh.2⟩
abbrev Rd := S_spec_l20Rd
def Rd.ok (o : Rd) : Prop := 0 ≤ o.p ∧ o.p ≤ 1000000000
theorem tmod_b {m n : Int} (h : 0 ≤ m) (hn : 0 < n) : 0 ≤ m.tmod n ∧ m.tmod n < n := ⟨Int.tmod_nonneg n h, Int.tmod_lt_of_pos m hn⟩
theorem tdiv_b {m n : Int} (h : 0 ≤ m) (hn : 0 < n) : 0 ≤ m.tdiv n ∧ m.tdiv n ≤ m := ⟨Int.tdiv_nonneg h (Int.le_of_lt hn), Int.tdiv_le_self _ h⟩
theorem T_pick {o : Rd} {n : Int} (ho : 0 ≤ o.p ∧ o.p ≤ 1000000000) : Tot (m_Pspec_l20Rd_pick o n) fun r => 0 ≤ r.1 ∧ (r.1 < n ∨ r.1 = 0) ∧ r.2.p = o.p + 1 := by
  unfold m_Pspec_l20Rd_pick
  refine Tot.ck (by omega) (by omega) (Tot.lt ?_)
  refine Tot.bif (fun h => ?_) (fun h => ?_)
  · unfold m_Pspec_l20Rd_pick_j1
    exact Tot.ret ⟨Int.le_refl _, .inr rfl, rfl⟩
  · simp only [decide_eq_false_iff_not] at h
    unfold m_Pspec_l20Rd_pick_j1
    refine Tot.bif (fun h2 => Tot.ret ⟨Int.le_refl _, .inr rfl, rfl⟩) (fun h2 => ?_)
    have hb : 0 < (o.b.length : Int) := by simp at h2; have := List.length_pos_iff.2 h2; omega
    refine Tot.ck (by simp only; omega) (by simp only; omega) ?_
    have e : (o.p + 1 - 1) = o.p := by omega
    simp only [e]
    refine Tot.bif (fun h3 => ?_) (fun h3 => ?_)
    · simp only [decide_eq_true_eq] at h3
      refine Tot.at (by omega) h3 (fun x _ => ?_)
      refine Tot.rem (by omega) (Tot.ret ?_)
      have := tmod_b (m := (x.toNat : Int)) (n := n) (by omega) (by omega)
      exact ⟨this.1, .inl this.2, rfl⟩
    · have m1 := tmod_b (m := o.p) (n := o.b.length) (by omega) hb
      refine Tot.rem (by omega) (Tot.at m1.1 m1.2 (fun x _ => ?_))
      have hx := x.toNat_lt
      refine Tot.ck (by omega) (by omega) (Tot.ck (by omega) (by omega) (Tot.ck (by omega) (by omega) ?_))
      have m2 := tmod_b (m := o.p * 7 + 3) (n := o.b.length) (by omega) hb
      refine Tot.rem (by omega) (Tot.at m2.1 m2.2 (fun y _ => ?_))
      have hy := y.toNat_lt
      refine Tot.ck (by omega) (by omega) (Tot.ck (by omega) (by omega) (Tot.ck (by omega) (by omega) (Tot.ck (by omega) (by omega) ?_)))
      have d1 := tdiv_b (m := o.p) (n := o.b.length) (by omega) hb
      refine Tot.quo (by omega) (by omega) (by omega) (Tot.ck (by omega) (by omega) (Tot.ck (by omega) (by omega) ?_))
      have hz : 0 ≤ (x.toNat : Int) * 131 + (y.toNat : Int) * 1117 + o.p * 29 + o.p.tdiv o.b.length * 53 ∧ (x.toNat : Int) * 131 + (y.toNat : Int) * 1117 + o.p * 29 + o.p.tdiv o.b.length * 53 < 1000000000000 := by omega
      generalize (x.toNat : Int) * 131 + (y.toNat : Int) * 1117 + o.p * 29 + o.p.tdiv o.b.length * 53 = z at hz ⊢
      have d2 := tdiv_b (m := z) (n := 64) (by omega) (by omega)
      refine Tot.quo (by omega) (by omega) (by omega) (Tot.xor (by omega) (fun u h4 h5 => Tot.rem (by omega) (Tot.ret ?_)))
      have := tmod_b (m := u) (n := n) (by omega) (by omega)
      exact ⟨this.1, .inl this.2, rfl⟩
theorem T_odd {o : Rd} {n : Int} (ho : 0 ≤ o.p ∧ o.p ≤ 1000000000) (hn : -1000000 ≤ n ∧ n ≤ 1000000) : Tot (m_Pspec_l20Rd_odd o n) fun r => o.p ≤ r.2.p ∧ r.2.p ≤ o.p + 1 := by
  unfold m_Pspec_l20Rd_odd m_Pspec_l20Rd_odd_j1
  refine Tot.bif (fun h => ?_) (fun h => Tot.ret ⟨Int.le_refl _, by simp only; omega⟩)
  refine Tot.bind (T_pick ho) (fun r hr => ?_)
  exact Tot.ck (by omega) (by omega) (Tot.ret ⟨by simp only; omega, by simp only; omega⟩)
/-- A value that was drawn. -/
def vDr (v : V) : Prop := v.S.size ≤ 20 ∧ -10000 ≤ v.N ∧ v.N ≤ 10000 ∧ -10 ≤ v.Kind ∧ v.Kind ≤ 10
theorem T_l20Value_j3 {n : Int} {o : Rd} {v w : V} (ho : 0 ≤ o.p ∧ o.p ≤ 1000000000 - 10) (hn : -1000000 ≤ n ∧ n ≤ 1000000) (hv : w.S.size ≤ 10 ∧ -10000 ≤ w.N ∧ w.N ≤ 10000 ∧ -10 ≤ w.Kind ∧ w.Kind ≤ 10) : Tot (m_spec_l20Value_j3 n o v w) fun r => vDr r.1 ∧ o.p ≤ r.2.p ∧ r.2.p ≤ o.p + 5 := by
  unfold m_spec_l20Value_j3 m_spec_l20Value_j4
  refine Tot.bind (T_odd (by omega) hn) (fun r hr => ?_)
  refine Tot.bif (fun _ => ?_) (fun _ => ?_)
  · refine Tot.bind (T_pick (by omega)) (fun q hq => ?_)
    refine Tot.bif (fun _ => ?_) (fun _ => Tot.bif (fun _ => ?_) (fun _ => Tot.bif (fun _ => ?_) (fun _ => ?_)))
    · refine Tot.lt (Tot.lt (Tot.ret ⟨⟨by simp only; omega, by simp only; omega, by simp only; omega, by simp only; omega, by simp only; omega⟩, by simp only; omega, by simp only; omega⟩))
    · refine Tot.cat (by rw [show ByteArray.size ⟨#[97, 98, 99, 100, 101, 102, 103]⟩ = 7 from rfl]; omega) (Tot.lt (Tot.lt (Tot.ret ⟨⟨?_, by simp only; omega, by simp only; omega, by simp only; omega, by simp only; omega⟩, by simp only; omega, by simp only; omega⟩)))
      simp only [ByteArray.size_append]
      rw [show ByteArray.size ⟨#[97, 98, 99, 100, 101, 102, 103]⟩ = 7 from rfl]; omega
    · refine Tot.bind (T_pick (by omega)) (fun u hu => ?_)
      refine Tot.ck (by omega) (by omega) (Tot.lt (Tot.lt (Tot.ret ⟨⟨by simp only; omega, by simp only; omega, by simp only; omega, by simp only; omega, by simp only; omega⟩, by simp only; omega, by simp only; omega⟩)))
    · refine Tot.cat (by rw [show ByteArray.size ⟨#[65]⟩ = 1 from rfl]; omega) (Tot.lt (Tot.lt (Tot.ret ⟨⟨?_, by simp only; omega, by simp only; omega, by simp only; omega, by simp only; omega⟩, by simp only; omega, by simp only; omega⟩)))
      simp only [ByteArray.size_append]
      rw [show ByteArray.size ⟨#[65]⟩ = 1 from rfl]; omega
  · exact Tot.lt (Tot.ret ⟨⟨by simp only; omega, by simp only; omega, by simp only; omega, by simp only; omega, by simp only; omega⟩, by simp only; omega, by simp only; omega⟩)
theorem T_l20Value_l1 {n : Int} {v : V} (hn : -1000000 ≤ n ∧ n ≤ 1000000) {p : Int} (hp : 0 ≤ p ∧ p ≤ 1000000000 - 20) : ∀ (f : Nat) (t : Int) (s : Rd × V), 0 ≤ t → t < f → (t ≤ 4 ∧ p ≤ s.1.p ∧ s.1.p + t ≤ p + 4 ∧ (s.2.S.size : Int) + t ≤ 4 ∧ -10000 ≤ s.2.N ∧ s.2.N ≤ 10000 ∧ -10 ≤ s.2.Kind ∧ s.2.Kind ≤ 10) →
    Tot (m_spec_l20Value_l1 f n t s.1 v s.2) fun r => vDr r.1 ∧ p ≤ r.2.p ∧ r.2.p ≤ p + 9 := by
  refine Tot.down (fun f t (s : Rd × V) => m_spec_l20Value_l1 f n t s.1 v s.2) _ (fun f s h => ?_) (fun f t s ht h ih => ?_)
  · rw [m_spec_l20Value_l1, show decide ((0 : Int) > 0) = false from rfl, cond_false]
    exact (T_l20Value_j3 (by omega) hn ⟨by omega, by omega, by omega, by omega, by omega⟩).mono fun r hr => ⟨hr.1, by omega, by omega⟩
  · rw [m_spec_l20Value_l1, decide_eq_true (show t > 0 by omega), cond_true]
    refine Tot.bind (T_pick (by omega)) (fun r hr => ?_)
    refine Tot.ck (by omega) (by omega) (Tot.cat ?_ (Tot.lt (Tot.ck (by omega) (by omega) ?_)))
    · rw [show (bStr [Lift.byteOf (97 + r.1)]).size = 1 from rfl]; omega
    · refine ih (r.2, { s.2 with S := s.2.S ++ bStr [Lift.byteOf (97 + r.1)] }) ⟨by omega, by simp only; omega, by simp only; omega, ?_, by simp only; omega, by simp only; omega, by simp only; omega, by simp only; omega⟩
      simp only [ByteArray.size_append]
      rw [show (bStr [Lift.byteOf (97 + r.1)]).size = 1 from rfl]; omega
theorem T_l20Value {o : Rd} {n : Int} (ho : 0 ≤ o.p ∧ o.p ≤ 1000000000 - 100) (hn : -1000000 ≤ n ∧ n ≤ 1000000) : Tot (m_spec_l20Value o n) fun r => vDr r.1 ∧ o.p ≤ r.2.p ∧ r.2.p ≤ o.p + 15 := by
  unfold m_spec_l20Value
  have e0 : ByteArray.size ⟨#[]⟩ = 0 := rfl
  have j2 : ∀ (b : Bool) (q : Rd) (v w : V), o.p ≤ q.p → q.p ≤ o.p + 2 → w.S.size = 0 → w.N = 0 → w.Kind = 0 → Tot (m_spec_l20Value_j2 n b q v w) fun r => vDr r.1 ∧ o.p ≤ r.2.p ∧ r.2.p ≤ o.p + 15 := by
    intro b q v w h1 h2 h3 h4 h5
    unfold m_spec_l20Value_j2
    refine Tot.bif (fun _ => Tot.lt ?_) (fun _ => ?_)
    · refine Tot.bind (T_pick (by omega)) (fun r hr => ?_)
      exact (T_l20Value_l1 (v := v) hn (p := r.2.p) (by omega) _ r.1 (r.2, ⟨2, 0, ⟨#[]⟩⟩) (by omega) (by omega) ⟨by omega, by simp only; omega, by simp only; omega, by simp only [e0]; omega, by first | decide | omega | (simp only; omega), by first | decide | omega | (simp only; omega), by first | decide | omega | (simp only; omega), by first | decide | omega | (simp only; omega)⟩).mono fun x hx => ⟨hx.1, by omega, by omega⟩
    · refine Tot.bind (T_pick (by omega)) (fun r hr => Tot.lt ?_)
      exact (T_l20Value_j3 (by omega) hn ⟨by simp only [e0]; omega, by simp only; omega, by simp only; omega, by first | decide | omega | (simp only; omega), by first | decide | omega | (simp only; omega)⟩).mono fun x hx => ⟨hx.1, by omega, by omega⟩
  have j1 : ∀ (t : Int) (b : Bool) (q : Rd) (v w : V), o.p ≤ q.p → q.p ≤ o.p + 1 → w.S.size = 0 → w.N = 0 → w.Kind = 0 → Tot (m_spec_l20Value_j1 n t b q v w) fun r => vDr r.1 ∧ o.p ≤ r.2.p ∧ r.2.p ≤ o.p + 15 := by
    intro t b q v w h1 h2 h3 h4 h5
    unfold m_spec_l20Value_j1
    refine Tot.bif (fun _ => ?_) (fun _ => Tot.bif (fun _ => j2 _ _ _ _ h1 (by omega) h3 h4 h5) (fun _ => j2 _ _ _ _ h1 (by omega) h3 h4 h5))
    refine Tot.bind (T_pick (by omega)) (fun r hr => Tot.ck (by omega) (by omega) (Tot.lt ?_))
    refine Tot.bind (T_pick (by omega)) (fun u hu => Tot.bif (fun _ => ?_) (fun _ => ?_))
    · refine Tot.bind (T_pick (by omega)) (fun x hx => Tot.at (by omega) (by simp only [List.length_cons, List.length_nil]; omega) (fun y hy => Tot.lt ?_))
      have hy' : -10000 ≤ y ∧ y ≤ 10000 := by simp at hy; omega
      exact (T_l20Value_j3 (by omega) hn ⟨by simp only [e0]; omega, by simp only; omega, by simp only; omega, by first | decide | omega | (simp only; omega), by first | decide | omega | (simp only; omega)⟩).mono fun x hx => ⟨hx.1, by omega, by omega⟩
    · exact (T_l20Value_j3 (by omega) hn ⟨by simp only [e0]; omega, by simp only; omega, by simp only; omega, by first | decide | omega | (simp only; omega), by first | decide | omega | (simp only; omega)⟩).mono fun x hx => ⟨hx.1, by omega, by omega⟩
  refine Tot.lt (Tot.bind (T_pick (by omega)) (fun r hr => ?_))
  refine Tot.bif (fun _ => ?_) (fun _ => Tot.bif (fun _ => ?_) (fun _ => Tot.bif (fun _ => ?_) (fun _ => ?_)))
  · exact (T_l20Value_j3 (by omega) hn ⟨by simp only [e0]; omega, by simp only; omega, by simp only; omega, by first | decide | omega | (simp only; omega), by first | decide | omega | (simp only; omega)⟩).mono fun x hx => ⟨hx.1, by omega, by omega⟩
  · exact j1 _ _ _ _ _ (by omega) (by omega) rfl rfl rfl
  · exact j1 _ _ _ _ _ (by omega) (by omega) rfl rfl rfl
  · exact j1 _ _ _ _ _ (by omega) (by omega) rfl rfl rfl
def cDr (c : S_impl_Column) : Prop := -10 ≤ c.Kind ∧ c.Kind ≤ 10
theorem T_l20Like {o : Rd} {c : S_impl_Column} (ho : 0 ≤ o.p ∧ o.p ≤ 1000000000 - 100) : Tot (m_spec_l20Like o c) fun r => vDr r.1 ∧ o.p ≤ r.2.p ∧ r.2.p ≤ o.p + 3 := by
  unfold m_spec_l20Like
  have e0 : ByteArray.size ⟨#[]⟩ = 0 := rfl
  have j1 : ∀ (b : Bool) (q : Rd) (v : V), o.p ≤ q.p → q.p ≤ o.p + 1 → Tot (m_spec_l20Like_j1 c b q v) fun r => vDr r.1 ∧ o.p ≤ r.2.p ∧ r.2.p ≤ o.p + 3 := by
    intro b q v h1 h2
    unfold m_spec_l20Like_j1
    refine Tot.bif (fun _ => Tot.lt (Tot.ret ⟨⟨by first | decide | omega | (simp only; omega), by first | decide | omega | (simp only; omega), by first | decide | omega | (simp only; omega), by first | decide | omega | (simp only; omega), by first | decide | omega | (simp only; omega)⟩, h1, by simp only; omega⟩)) (fun _ => Tot.bif (fun _ => ?_) (fun _ => Tot.bif (fun _ => ?_) (fun _ => ?_)))
    · refine Tot.bind (T_pick (by omega)) (fun r hr => Tot.lt (Tot.ret ⟨⟨by simp only [e0]; omega, by simp only; omega, by simp only; omega, by simp only; omega, by simp only; omega⟩, by simp only; omega, by simp only; omega⟩))
    · refine Tot.bind (T_pick (by omega)) (fun r hr => Tot.at (by omega) (by simp only [List.length_cons, List.length_nil]; omega) (fun y hy => Tot.lt (Tot.ret ⟨⟨?_, by simp only; omega, by simp only; omega, by simp only; omega, by simp only; omega⟩, by simp only; omega, by simp only; omega⟩)))
      simp only [List.mem_cons, List.mem_nil_iff, or_false] at hy
      rcases hy with rfl | rfl | rfl | rfl <;> exact Nat.le_of_ble_eq_true rfl
    · refine Tot.bind (T_pick (by omega)) (fun r hr => Tot.lt (Tot.ret ⟨⟨by simp only [e0]; omega, by simp only; omega, by simp only; omega, by simp only; omega, by simp only; omega⟩, by simp only; omega, by simp only; omega⟩))
  refine Tot.bif (fun _ => Tot.bind (T_pick (by omega)) (fun r hr => j1 _ _ _ (by omega) (by omega))) (fun _ => j1 _ _ _ (by omega) (by omega))
theorem T_l20Columns {o : Rd} {n : Int} (ho : 0 ≤ o.p ∧ o.p ≤ 1000000000 - 100) (hn : -1000000 ≤ n ∧ n ≤ 1000000) : Tot (m_spec_l20Columns o n) fun r => (1 ≤ r.1.length ∧ r.1.length ≤ 6 ∧ ∀ c ∈ r.1, cDr c) ∧ o.p ≤ r.2.p ∧ r.2.p ≤ o.p + 20 := by
  unfold m_spec_l20Columns
  refine Tot.bind (T_pick (by omega)) (fun r hr => Tot.ck (by omega) (by omega) ?_)
  refine Tot.down (fun f t (s : Rd × List S_impl_Column) => m_spec_l20Columns_l1 f n t s.1 s.2) (fun t s => t ≤ 3 ∧ r.2.p ≤ s.1.p ∧ s.1.p + 2 * t ≤ r.2.p + 6 ∧ (s.2.length : Int) + t = 1 + r.1 ∧ ∀ c ∈ s.2, cDr c) (fun f s h => ?_) (fun f t s ht h ih => ?_) _ (1 + r.1) (r.2, []) (by omega) (by omega) ⟨by omega, by simp only; omega, by simp only; omega, by first | (simp; done) | (simp; omega), by simp⟩
  · obtain ⟨g1, g2, g3, g4, g5⟩ := h
    rw [m_spec_l20Columns_l1, show decide ((0 : Int) > 0) = false from rfl, cond_false]
    unfold m_spec_l20Columns_j1 m_spec_l20Columns_j2
    refine Tot.bind (T_odd (by omega) hn) (fun q hq => Tot.bif (fun _ => ?_) (fun _ => Tot.ret ⟨⟨by simp only; omega, by simp only; omega, g5⟩, by simp only; omega, by simp only; omega⟩))
    refine Tot.bind (T_pick (by omega)) (fun u hu => Tot.ck (by omega) (by omega) (Tot.app (by simp only [List.length_cons, List.length_nil]; omega) (Tot.ret ⟨⟨by first | (simp; done) | (simp; omega), by first | (simp; done) | (simp; omega), ?_⟩, by simp only; omega, by simp only; omega⟩)))
    intro c hc
    simp only [List.mem_append, List.mem_cons, List.mem_nil_iff, or_false] at hc
    rcases hc with hc | rfl | rfl | rfl
    · exact g5 c hc
    · exact ⟨by simp only; omega, by simp only; omega⟩
    · exact ⟨by first | decide | omega | (simp only; omega), by first | decide | omega | (simp only; omega)⟩
    · exact ⟨by first | decide | omega | (simp only; omega), by first | decide | omega | (simp only; omega)⟩
  · obtain ⟨g1, g2, g3, g4, g5⟩ := h
    rw [m_spec_l20Columns_l1, decide_eq_true (show t > 0 by omega), cond_true]
    refine Tot.bind (T_pick (by omega)) (fun x hx => Tot.at (by omega) (by simp only [List.length_cons, List.length_nil]; omega) (fun y hy => ?_))
    have hy' : -10 ≤ y ∧ y ≤ 10 := by simp at hy; omega
    refine Tot.bind (T_pick (by omega)) (fun z hz => Tot.app (by simp only [List.length_cons, List.length_nil]; omega) (Tot.ck (by omega) (by omega) ?_))
    refine ih (z.2, s.2 ++ [⟨y, decide (z.1 > 0)⟩]) ⟨by omega, by simp only; omega, by simp only; omega, by first | (simp; done) | (simp; omega), ?_⟩
    intro c hc
    simp only [List.mem_append, List.mem_cons, List.mem_nil_iff, or_false] at hc
    rcases hc with hc | rfl
    · exact g5 c hc
    · exact hy'
/-- A row that was drawn. -/
def rDr (r : Row) : Prop := r.length ≤ 9 ∧ ∀ v ∈ r, vDr v
theorem T_l20Fit {o : Rd} {cs : List S_impl_Column} {n : Int} (ho : 0 ≤ o.p ∧ o.p ≤ 1000000000 - 1000) (hn : -1000000 ≤ n ∧ n ≤ 1000000) (hc : cs.length ≤ 6) : Tot (m_spec_l20Fit o cs n) fun r => rDr r.1 ∧ o.p ≤ r.2.p ∧ r.2.p ≤ o.p + 80 := by
  unfold m_spec_l20Fit
  refine Tot.up (cs.length : Int) (fun f t (s : Rd × Row) => m_spec_l20Fit_l1 f cs n t s.1 s.2) (fun t s => o.p ≤ s.1.p ∧ s.1.p ≤ o.p + 3 * t ∧ (s.2.length : Int) = t ∧ ∀ v ∈ s.2, vDr v) (fun f s h => ?_) (fun f t s h0 ht h ih => ?_) _ 0 (o, []) (by omega) (by omega) (by omega) ⟨by simp only; omega, by simp only; omega, by simp, by simp⟩
  · obtain ⟨g1, g2, g3, g4⟩ := h
    rw [m_spec_l20Fit_l1, show decide ((cs.length : Int) < cs.length) = false by simp, cond_false]
    unfold m_spec_l20Fit_j1 m_spec_l20Fit_j2
    refine Tot.bind (T_odd (by omega) hn) (fun q hq => Tot.bif (fun _ => ?_) (fun _ => Tot.ret ⟨⟨by simp only; omega, g4⟩, by simp only; omega, by simp only; omega⟩))
    refine Tot.bind (T_pick (by omega)) (fun u hu => Tot.bif (fun _ => ?_) (fun _ => Tot.bif (fun _ => ?_) (fun _ => ?_)))
    · refine Tot.app (by simp only [List.length_cons, List.length_nil]; omega) (Tot.ret ⟨⟨by first | (simp; done) | (simp; omega), ?_⟩, by simp only; omega, by simp only; omega⟩)
      intro c hc
      simp only [List.mem_append, List.mem_cons, List.mem_nil_iff, or_false] at hc
      rcases hc with hc | rfl
      · exact g4 c hc
      · exact ⟨by first | decide | omega | (simp only; omega), by first | decide | omega | (simp only; omega), by first | decide | omega | (simp only; omega), by first | decide | omega | (simp only; omega), by first | decide | omega | (simp only; omega)⟩
    · refine Tot.bif (fun h3 => ?_) (fun _ => Tot.ret ⟨⟨by simp only; omega, g4⟩, by simp only; omega, by simp only; omega⟩)
      simp only [gt_iff_lt, decide_eq_true_eq] at h3
      refine Tot.bind (T_pick (by omega)) (fun x hx => Tot.bind (T_l20Value (by omega) (by omega)) (fun y hy => Tot.at (by omega) (by omega) (fun _ _ => Tot.at (by omega) (by omega) (fun _ _ => Tot.lt (Tot.ret ⟨⟨by first | (simp; done) | (simp; omega), ?_⟩, by simp only; omega, by simp only; omega⟩)))))
      intro c hc
      rcases List.mem_or_eq_of_mem_set hc with hc | rfl
      · exact g4 c hc
      · exact hy.1
    · refine Tot.bind (T_l20Value (by omega) (by omega)) (fun x hx => Tot.bind (T_l20Value (by omega) (by omega)) (fun y hy => Tot.bind (T_l20Value (by omega) (by omega)) (fun z hz => Tot.app (by simp only [List.length_cons, List.length_nil]; omega) (Tot.ret ⟨⟨by first | (simp; done) | (simp; omega), ?_⟩, by simp only; omega, by simp only; omega⟩))))
      intro c hc
      simp only [List.mem_append, List.mem_cons, List.mem_nil_iff, or_false] at hc
      rcases hc with hc | rfl | rfl | rfl
      · exact g4 c hc
      · exact hx.1
      · exact hy.1
      · exact hz.1
  · obtain ⟨g1, g2, g3, g4⟩ := h
    rw [m_spec_l20Fit_l1, decide_eq_true ht, cond_true]
    refine Tot.at h0 ht (fun c hc => Tot.bind (T_l20Like (by omega)) (fun x hx => Tot.app (by simp only [List.length_cons, List.length_nil]; omega) (Tot.ck (by omega) (by omega) ?_)))
    refine ih (x.2, s.2 ++ [x.1]) ⟨by simp only; omega, by simp only; omega, by first | (simp; done) | (simp; omega), ?_⟩
    intro c hc
    simp only [List.mem_append, List.mem_cons, List.mem_nil_iff, or_false] at hc
    rcases hc with hc | rfl
    · exact g4 c hc
    · exact hx.1
/-- Rows that were drawn. -/
def rsDr (n : Nat) (rs : Rows) : Prop := rs.length ≤ n ∧ ∀ r ∈ rs, rDr r
theorem T_l20Bag {o : Rd} {cs : List S_impl_Column} {n : Int} (ho : 0 ≤ o.p ∧ o.p ≤ 1000000000 - 10000) (hn : -1000000 ≤ n ∧ n ≤ 1000000) (hc : cs.length ≤ 6) : Tot (m_spec_l20Bag o cs n) fun r => rsDr 6 r.1 ∧ o.p ≤ r.2.p ∧ r.2.p ≤ o.p + 600 := by
  unfold m_spec_l20Bag
  refine Tot.bind (T_pick (by omega)) (fun r hr => ?_)
  refine Tot.down (fun f t (s : Rd × Rows) => m_spec_l20Bag_l1 f cs n t s.1 s.2) (fun t s => t ≤ r.1 ∧ o.p ≤ s.1.p ∧ s.1.p + 90 * t ≤ o.p + 1 + 90 * r.1 ∧ (s.2.length : Int) + t = r.1 ∧ ∀ x ∈ s.2, rDr x) (fun f s h => ?_) (fun f t s ht h ih => ?_) _ r.1 (r.2, []) (by omega) (by omega) ⟨by omega, by simp only; omega, by simp only; omega, by simp, by simp⟩
  · obtain ⟨g1, g2, g3, g4, g5⟩ := h
    rw [m_spec_l20Bag_l1, show decide ((0 : Int) > 0) = false from rfl, cond_false]
    exact Tot.ret ⟨⟨by simp only; omega, g5⟩, by simp only; omega, by simp only; omega⟩
  · obtain ⟨g1, g2, g3, g4, g5⟩ := h
    rw [m_spec_l20Bag_l1, decide_eq_true (show t > 0 by omega), cond_true]
    have j2 : ∀ (q : Rd) (x : Row), s.1.p ≤ q.p → q.p ≤ s.1.p + 90 → rDr x → Tot (m_spec_l20Bag_j2 (m_spec_l20Bag_l1 f) cs n t q (s.2 ++ [x])) fun r => rsDr 6 r.1 ∧ o.p ≤ r.2.p ∧ r.2.p ≤ o.p + 600 := by
      intro q x h1 h2 h3
      unfold m_spec_l20Bag_j2
      refine Tot.ck (by omega) (by omega) ?_
      refine ih (q, s.2 ++ [x]) ⟨by omega, by simp only; omega, by simp only; omega, by first | (simp; done) | (simp; omega), ?_⟩
      intro c hc
      simp only [List.mem_append, List.mem_cons, List.mem_nil_iff, or_false] at hc
      rcases hc with hc | rfl
      · exact g5 c hc
      · exact h3
    have j1 : ∀ (b : Bool) (q : Rd), s.1.p ≤ q.p → q.p ≤ s.1.p + 2 → (b = true → 0 < s.2.length) → Tot (m_spec_l20Bag_j1 (m_spec_l20Bag_l1 f) cs n t b q s.2) fun r => rsDr 6 r.1 ∧ o.p ≤ r.2.p ∧ r.2.p ≤ o.p + 600 := by
      intro b q h1 h2 h3
      unfold m_spec_l20Bag_j1
      refine Tot.bif (fun hb => ?_) (fun _ => ?_)
      · have := h3 hb
        refine Tot.bind (T_pick (by omega)) (fun x hx => Tot.at (by omega) (by omega) (fun _ _ => Tot.at (by omega) (by omega) (fun y hy => ?_)))
        have hy' := g5 y hy
        refine Tot.eq (E_l3Own (by have := hy'.1; omega)) (Tot.app (by simp only [List.length_cons, List.length_nil]; omega) (j2 _ _ (by omega) (by omega) hy'))
      · refine Tot.bind (T_l20Fit (by omega) hn hc) (fun x hx => Tot.app (by simp only [List.length_cons, List.length_nil]; omega) (j2 _ _ (by omega) (by omega) hx.1))
    refine Tot.bif (fun h3 => ?_) (fun _ => j1 _ _ (by omega) (by omega) (by intro e; cases e))
    simp only [gt_iff_lt, decide_eq_true_eq] at h3
    refine Tot.bind (T_pick (by omega)) (fun x hx => j1 _ _ (by omega) (by omega) (fun _ => by omega))
theorem rDr_sm {r : Row} (h : rDr r) : rSm r := ⟨by have := h.1; omega, fun v hv => by have := (h.2 v hv).1; unfold vSm; omega⟩
theorem rsDr_sm {n : Nat} {rs : Rows} (h : rsDr n rs) (hn : n ≤ 100000) : rsSm rs := ⟨by have := h.1; omega, fun r hr => rDr_sm (h.2 r hr)⟩
theorem sortR_mem : ∀ (rs : Rows) (x : Row), x ∈ sortR rs ↔ x ∈ rs := by
  have key : ∀ (rs out : Rows) (x : Row), x ∈ rs.foldl insR out ↔ x ∈ out ∨ x ∈ rs := by
    intro rs
    induction rs with
    | nil => intro out x; simp
    | cons r rs ih => intro out x; rw [List.foldl_cons, ih, insR_mem, List.mem_cons]; constructor <;> (rintro (h | h) <;> first | (rcases h with h | h <;> simp [h]) | simp [h])
  intro rs x; unfold sortR; rw [key]; simp
theorem T_l20Open {l : List UInt8} : Tot (m_spec_l20Open l) fun r => r.p = 0 := by
  unfold m_spec_l20Open m_spec_l20Open_j1
  refine Tot.bif (fun h => ?_) (fun _ => Tot.ret rfl)
  simp only [gt_iff_lt, decide_eq_true_eq] at h
  exact Tot.cut (by omega) (Tot.ret rfl)
/-- A total order, told by numbers. -/
structure TO {α : Type} (p : α → α → Int) : Prop where
  eq0 : ∀ a b, p a b = 0 ↔ a = b
  anti : ∀ a b, p a b < 0 ↔ 0 < p b a
  trans : ∀ a b c, p a b < 0 → p b c < 0 → p a c < 0
theorem TO.comap {α β : Type} {p : β → β → Int} (h : TO p) (f : α → β) (hf : ∀ a b, f a = f b → a = b) : TO fun a b => p (f a) (f b) where
  eq0 a b := ⟨fun e => hf a b ((h.eq0 _ _).1 e), fun e => (h.eq0 _ _).2 (by rw [e])⟩
  anti a b := h.anti _ _
  trans a b c := h.trans _ _ _
theorem TO.le_trans {α : Type} {p : α → α → Int} (h : TO p) {a b c : α} (h1 : p a b ≤ 0) (h2 : p b c ≤ 0) : p a c ≤ 0 := by
  rcases Int.lt_or_eq_of_le h1 with h1 | h1
  · rcases Int.lt_or_eq_of_le h2 with h2 | h2
    · exact Int.le_of_lt (h.trans _ _ _ h1 h2)
    · rw [← (h.eq0 _ _).1 h2]; omega
  · rw [(h.eq0 _ _).1 h1]; exact h2
theorem TO.le_antisymm {α : Type} {p : α → α → Int} (h : TO p) {a b : α} (h1 : p a b ≤ 0) (h2 : p b a ≤ 0) : a = b := by
  refine (h.eq0 _ _).1 ?_
  have := h.anti a b
  omega
theorem TO.total {α : Type} {p : α → α → Int} (h : TO p) (a b : α) : 0 < p a b ↔ p b a < 0 := (h.anti b a).symm
def lx (x y : Int) : Int := if x = 0 then y else x
theorem TO.lex {α β : Type} {p : α → α → Int} {q : β → β → Int} (h : TO p) (k : TO q) : TO fun (a b : α × β) => lx (p a.1 b.1) (q a.2 b.2) where
  eq0 a b := by
    have h1 := h.eq0 a.1 b.1
    have h2 := k.eq0 a.2 b.2
    unfold lx
    split
    · rename_i e; rw [h2]; exact ⟨fun e2 => Prod.ext (h1.1 e) e2, fun e2 => by rw [e2]⟩
    · rename_i e; exact ⟨fun e2 => absurd e2 e, fun e2 => absurd (h1.2 (by rw [e2])) e⟩
  anti a b := by
    have h1 := h.anti a.1 b.1
    have h2 := k.anti a.2 b.2
    have h3 := h.eq0 a.1 b.1
    have h4 := h.eq0 b.1 a.1
    unfold lx
    by_cases e : a.1 = b.1
    · rw [if_pos (h3.2 e), if_pos (h4.2 e.symm)]; exact h2
    · rw [if_neg (fun x => e (h3.1 x)), if_neg (fun x => e (h4.1 x).symm)]; exact h1
  trans a b c := by
    have h1 := h.trans a.1 b.1 c.1
    have h2 := k.trans a.2 b.2 c.2
    unfold lx
    by_cases e1 : a.1 = b.1
    · rw [if_pos ((h.eq0 _ _).2 e1), e1]
      by_cases e2 : b.1 = c.1
      · rw [if_pos ((h.eq0 _ _).2 e2), if_pos ((h.eq0 _ _).2 e2)]; exact h2
      · rw [if_neg (fun x => e2 ((h.eq0 _ _).1 x)), if_neg (fun x => e2 ((h.eq0 _ _).1 x))]; exact fun _ g => g
    · rw [if_neg (fun x => e1 ((h.eq0 _ _).1 x))]
      by_cases e2 : b.1 = c.1
      · rw [← e2, if_pos ((h.eq0 _ _).2 rfl), if_neg (fun x => e1 ((h.eq0 _ _).1 x))]; exact fun g _ => g
      · rw [if_neg (fun x => e2 ((h.eq0 _ _).1 x))]
        intro g1 g2
        have := h1 g1 g2
        rw [if_neg (by omega)]; exact this
theorem TO_int : TO cmpI where
  eq0 a b := by unfold cmpI; split <;> (try split) <;> omega
  anti a b := by unfold cmpI; split <;> split <;> (try split) <;> (try split) <;> omega
  trans a b c := by unfold cmpI; split <;> split <;> (try split) <;> (try split) <;> (try split) <;> omega
def cmpB : List UInt8 → List UInt8 → Int
  | [], [] => 0
  | [], _ :: _ => -1
  | _ :: _, [] => 1
  | a :: x, b :: y => lx (cmpI a.toNat b.toNat) (cmpB x y)
theorem cmpB_less : ∀ a b : List UInt8, (if Op.bytesLess a b then (-1 : Int) else if Op.bytesLess a b || a == b then 0 else 1) = cmpB a b
  | [], [] => rfl
  | [], _ :: _ => rfl
  | _ :: _, [] => rfl
  | a :: x, b :: y => by
    have ih := cmpB_less x y
    simp only [cmpB, ← ih]
    unfold lx cmpI
    simp only [Op.bytesLess]
    rcases Nat.lt_trichotomy a.toNat b.toNat with h | h | h
    · have h' : a < b := UInt8.lt_iff_toNat_lt.2 h
      have h2 : (a.toNat : Int) < b.toNat := by omega
      simp [h', h2]
    · have h' : a = b := UInt8.toNat_inj.1 h
      subst h'
      simp
    · have h' : ¬ a < b := fun e => by have := UInt8.lt_iff_toNat_lt.1 e; omega
      have h2 : ¬ (a.toNat : Int) < b.toNat := by omega
      have h3 : (b.toNat : Int) < a.toNat := by omega
      have h4 : ¬ a = b := fun e => by rw [e] at h; omega
      simp [h', h2, h3, h4]
theorem TO_list {α : Type} {p : α → α → Int} (h : TO p) : TO (cmpL p) where
  eq0 := by
    intro a
    induction a with
    | nil => intro b; cases b <;> simp [cmpL]
    | cons x a ih =>
      intro b
      cases b with
      | nil => simp [cmpL]
      | cons y b =>
        simp only [cmpL]
        split
        · rename_i e; rw [ih b, List.cons.injEq]; exact ⟨fun e2 => ⟨(h.eq0 _ _).1 e, e2⟩, fun e2 => e2.2⟩
        · rename_i e; rw [List.cons.injEq]; exact ⟨fun e2 => absurd e2 e, fun e2 => absurd ((h.eq0 _ _).2 e2.1) e⟩
  anti := by
    intro a
    induction a with
    | nil => intro b; cases b <;> simp [cmpL]
    | cons x a ih =>
      intro b
      cases b with
      | nil => simp [cmpL]
      | cons y b =>
        simp only [cmpL]
        by_cases e : x = y
        · rw [if_pos ((h.eq0 _ _).2 e), if_pos ((h.eq0 _ _).2 e.symm)]; exact ih b
        · rw [if_neg (fun g => e ((h.eq0 _ _).1 g)), if_neg (fun g => e ((h.eq0 _ _).1 g).symm)]; exact h.anti x y
  trans := by
    intro a
    induction a with
    | nil => intro b c; cases b <;> cases c <;> simp [cmpL]
    | cons x a ih =>
      intro b c
      cases b with
      | nil => simp [cmpL]
      | cons y b =>
        cases c with
        | nil => simp [cmpL]
        | cons z c =>
          simp only [cmpL]
          by_cases e1 : x = y
          · rw [if_pos ((h.eq0 _ _).2 e1), e1]
            by_cases e2 : y = z
            · rw [if_pos ((h.eq0 _ _).2 e2), if_pos ((h.eq0 _ _).2 e2)]; exact ih b c
            · rw [if_neg (fun g => e2 ((h.eq0 _ _).1 g)), if_neg (fun g => e2 ((h.eq0 _ _).1 g))]; exact fun _ g => g
          · rw [if_neg (fun g => e1 ((h.eq0 _ _).1 g))]
            by_cases e2 : y = z
            · rw [← e2, if_pos ((h.eq0 _ _).2 rfl), if_neg (fun g => e1 ((h.eq0 _ _).1 g))]; exact fun g _ => g
            · rw [if_neg (fun g => e2 ((h.eq0 _ _).1 g))]
              intro g1 g2
              have := h.trans x y z g1 g2
              rw [if_neg (by omega)]; exact this
theorem TO_byte : TO fun (a b : UInt8) => cmpI a.toNat b.toNat := TO_int.comap (fun b : UInt8 => (b.toNat : Int)) fun a b h => UInt8.toNat_inj.1 (by omega)
theorem cmpB_L : ∀ a b : List UInt8, cmpB a b = cmpL (fun (a b : UInt8) => cmpI a.toNat b.toNat) a b
  | [], [] => rfl
  | [], _ :: _ => rfl
  | _ :: _, [] => rfl
  | a :: x, b :: y => by simp only [cmpB, cmpL, lx, cmpB_L x y]
theorem TO_str : TO cmpS := by
  have h := (TO_list TO_byte).comap (fun s : ByteArray => s.data.toList) (fun a b h => ByteArray.ext (Array.toList_inj.1 h))
  have e : cmpS = fun a b : ByteArray => cmpL (fun (a b : UInt8) => cmpI a.toNat b.toNat) a.data.toList b.data.toList := by
    funext a b
    unfold cmpS sLt sEq
    rw [ByteArray.toList_eq, ByteArray.toList_eq, cmpB_less, cmpB_L]
  rw [e]; exact h
theorem orI_2 (a b : Int) : orI [a, b] = lx a b := by
  unfold lx; split
  · rename_i h; subst h; rw [orI_0]
    by_cases h : b = 0
    · subst h; rfl
    · rw [orI_1 h]
  · rename_i h; rw [orI_1 h]
theorem orI_3 (a b c : Int) : orI [a, b, c] = lx a (lx b c) := by
  by_cases h : a = 0
  · subst h; rw [orI_0, orI_2]; rfl
  · rw [orI_1 h]; unfold lx; rw [if_neg h]
theorem TO_value : TO vOrd := by
  have h := (TO_int.lex (TO_int.lex TO_str)).comap (fun v : V => (v.Kind, (v.N, v.S))) (fun a b h => by
    cases a; cases b; simp only [Prod.mk.injEq] at h; simp [h])
  have e : vOrd = fun a b : V => lx (cmpI a.Kind b.Kind) (lx (cmpI a.N b.N) (cmpS a.S b.S)) := by
    funext a b; unfold vOrd; rw [orI_3]
  rw [e]; exact h
theorem TO_row : TO rOrd := by
  have e : rOrd = cmpL vOrd := by funext a b; exact rOrd_cmpL a b
  rw [e]; exact TO_list TO_value
/-- In order. -/
def inOrd (l : Rows) : Prop := l.Pairwise fun a b => rOrd a b ≤ 0
theorem posN_at {out : Rows} {r : Row} : ∀ n, (∀ i, posN out r n ≤ i → i < n → rrOrd (out.getD i []) r > 0) ∧ (posN out r n = 0 ∨ ∃ j, posN out r n = j + 1 ∧ rrOrd (out.getD j []) r ≤ 0)
  | 0 => ⟨fun i h1 h2 => by omega, .inl rfl⟩
  | n + 1 => by
    obtain ⟨h1, h2⟩ := posN_at (out := out) (r := r) n
    simp only [posN]
    split
    · rename_i h
      refine ⟨fun i g1 g2 => ?_, h2⟩
      rcases Nat.lt_or_ge i n with g | g
      · exact h1 i g1 g
      · have : i = n := by omega
        subst this; exact h
    · rename_i h
      exact ⟨fun i g1 g2 => by omega, .inr ⟨n, rfl, by omega⟩⟩
theorem rr_ok {a b : Row} (ha : rowOk a = true) (hb : rowOk b = true) : rrOrd a b = rOrd a b := by unfold rrOrd; rw [ha, hb]; rfl
theorem insR_ord {out : Rows} {r : Row} (ho : ∀ x ∈ out, rowOk x = true) (hr : rowOk r = true) (h : inOrd out) : inOrd (insR out r) := by
  obtain ⟨h1, h2⟩ := posN_at (out := out) (r := r) out.length
  have hle := posN_le out r out.length
  unfold insR
  generalize posN out r out.length = j at h1 h2 hle
  have hsplit : inOrd (out.take j ++ out.drop j) := by rw [List.take_append_drop]; exact h
  unfold inOrd at hsplit ⊢
  rw [List.pairwise_append] at hsplit
  obtain ⟨p1, p2, p3⟩ := hsplit
  rw [List.pairwise_append]
  refine ⟨p1, ?_, ?_⟩
  · rw [List.pairwise_cons]
    refine ⟨fun x hx => ?_, p2⟩
    obtain ⟨i, hi⟩ := List.mem_iff_getElem?.1 hx
    rw [List.getElem?_drop] at hi
    obtain ⟨hlt, hi⟩ := List.getElem?_eq_some_iff.1 hi
    have := h1 (j + i) (by omega) hlt
    rw [List.getD_eq_getElem?_getD, List.getElem?_eq_getElem hlt, Option.getD_some, hi, rr_ok (ho x (List.mem_of_mem_drop hx)) hr] at this
    have := (TO_row.total x r).1 this
    omega
  · intro x hx y hy
    rcases List.mem_cons.1 hy with rfl | hy
    · rcases h2 with rfl | ⟨k, rfl, hk⟩
      · simp at hx
      · have hkl : k < out.length := by omega
        rw [List.getD_eq_getElem?_getD, List.getElem?_eq_getElem hkl, Option.getD_some, rr_ok (ho _ (List.getElem_mem hkl)) hr] at hk
        rw [List.take_succ_eq_append_getElem hkl] at hx p1
        rcases List.mem_append.1 hx with hx | hx
        · rw [List.pairwise_append] at p1
          exact TO_row.le_trans (p1.2.2 x hx _ (by simp)) hk
        · simp at hx; subst hx; exact hk
    · exact p3 x hx y hy
theorem insR_perm (out : Rows) (r : Row) : (insR out r).Perm (r :: out) := by
  unfold insR
  have := List.perm_middle (a := r) (l₁ := out.take (posN out r out.length)) (l₂ := out.drop (posN out r out.length))
  rwa [List.take_append_drop] at this
theorem sortR_perm (rs : Rows) : (sortR rs).Perm rs := by
  have key : ∀ (rs out : Rows), (rs.foldl insR out).Perm (out ++ rs) := by
    intro rs
    induction rs with
    | nil => intro out; simp
    | cons r rs ih =>
      intro out
      rw [List.foldl_cons]
      refine (ih _).trans ((insR_perm out r).append_right rs |>.trans ?_)
      have := List.perm_middle (a := r) (l₁ := out) (l₂ := rs)
      exact this.symm
  have := key rs []
  simpa [sortR] using this
theorem sortR_ord {rs : Rows} (h : ∀ r ∈ rs, rowOk r = true) : inOrd (sortR rs) := by
  have key : ∀ (rs out : Rows), (∀ r ∈ rs, rowOk r = true) → (∀ r ∈ out, rowOk r = true) → inOrd out → inOrd (rs.foldl insR out) := by
    intro rs
    induction rs with
    | nil => intro out _ _ h; exact h
    | cons r rs ih =>
      intro out h1 h2 h3
      rw [List.foldl_cons]
      refine ih _ (fun x hx => h1 x (by simp [hx])) (fun x hx => ?_) (insR_ord h2 (h1 r (by simp)) h3)
      rcases (insR_mem _ _ _).1 hx with rfl | hx
      · exact h1 _ (by simp)
      · exact h2 x hx
  exact key rs [] h (by simp) List.Pairwise.nil
theorem L_slices_IndexFunc_LLLimpl_Value_LLimpl_Value {l : List (List (List S_impl_Value))} {p : (List (List S_impl_Value)) → Option Bool} {q : (List (List S_impl_Value)) → Bool} (hl : l.length ≤ 1000000) (hp : ∀ v ∈ l, p v = some (q v)) : m_slices_IndexFunc_LLLimpl_Value_LLimpl_Value l p = some (idxI q l) := by
  unfold m_slices_IndexFunc_LLLimpl_Value_LLimpl_Value
  exact scanI (q := q) (g := fun i => some i) l (fun n k => m_slices_IndexFunc_LLLimpl_Value_LLimpl_Value_l1 p n l (l.length : Int) k) (fun n k x hx => by
    have := lt_of_at hx
    rw [m_slices_IndexFunc_LLLimpl_Value_LLimpl_Value_l1, dlt this, cond_true]
    simp only [at_of hx, Option.bind_some, hp x (List.mem_of_getElem? hx), ck1 (show k < 1000000000000 by omega)]) (fun n => by rw [m_slices_IndexFunc_LLLimpl_Value_LLimpl_Value_l1, dnlt]; rfl) _ fuel0
theorem L_slices_ContainsFunc_LLLimpl_Value_LLimpl_Value {l : List (List (List S_impl_Value))} {p : (List (List S_impl_Value)) → Option Bool} {q : (List (List S_impl_Value)) → Bool} (hl : l.length ≤ 1000000) (hp : ∀ v ∈ l, p v = some (q v)) : m_slices_ContainsFunc_LLLimpl_Value_LLimpl_Value l p = some (l.any q) := by
  unfold m_slices_ContainsFunc_LLLimpl_Value_LLimpl_Value
  rw [L_slices_IndexFunc_LLLimpl_Value_LLimpl_Value hl hp, Option.bind_some, (idxI_ge q l).2.2]
theorem L_slices_IndexFunc_LLimpl_Value_Limpl_Value {l : List (List S_impl_Value)} {p : (List S_impl_Value) → Option Bool} {q : (List S_impl_Value) → Bool} (hl : l.length ≤ 1000000) (hp : ∀ v ∈ l, p v = some (q v)) : m_slices_IndexFunc_LLimpl_Value_Limpl_Value l p = some (idxI q l) := by
  unfold m_slices_IndexFunc_LLimpl_Value_Limpl_Value
  exact scanI (q := q) (g := fun i => some i) l (fun n k => m_slices_IndexFunc_LLimpl_Value_Limpl_Value_l1 p n l (l.length : Int) k) (fun n k x hx => by
    have := lt_of_at hx
    rw [m_slices_IndexFunc_LLimpl_Value_Limpl_Value_l1, dlt this, cond_true]
    simp only [at_of hx, Option.bind_some, hp x (List.mem_of_getElem? hx), ck1 (show k < 1000000000000 by omega)]) (fun n => by rw [m_slices_IndexFunc_LLimpl_Value_Limpl_Value_l1, dnlt]; rfl) _ fuel0
theorem L_slices_ContainsFunc_LLimpl_Value_Limpl_Value {l : List (List S_impl_Value)} {p : (List S_impl_Value) → Option Bool} {q : (List S_impl_Value) → Bool} (hl : l.length ≤ 1000000) (hp : ∀ v ∈ l, p v = some (q v)) : m_slices_ContainsFunc_LLimpl_Value_Limpl_Value l p = some (l.any q) := by
  unfold m_slices_ContainsFunc_LLimpl_Value_Limpl_Value
  rw [L_slices_IndexFunc_LLimpl_Value_Limpl_Value hl hp, Option.bind_some, (idxI_ge q l).2.2]
theorem L_slices_IsSortedFunc_LLimpl_Value_Limpl_Value {l : List (List S_impl_Value)} {p : (List S_impl_Value) → (List S_impl_Value) → Option Int} {q : (List S_impl_Value) → (List S_impl_Value) → Int} (hl : l.length ≤ 1000000) (hp : ∀ x ∈ l, ∀ y ∈ l, p x y = some (q x y)) : m_slices_IsSortedFunc_LLimpl_Value_Limpl_Value l p = some (adjB (fun x y => decide (q y x < 0)) l) := by
  unfold m_slices_IsSortedFunc_LLimpl_Value_Limpl_Value
  rw [ckI_of (by omega) (by omega), Option.bind_some]
  refine adjDown l (fun m i => m_slices_IsSortedFunc_LLimpl_Value_Limpl_Value_l1 p m l i) (fun m i hi => ?_) (fun m j x y hx hy => ?_) _ (by omega) (by omega)
  · rw [m_slices_IsSortedFunc_LLimpl_Value_Limpl_Value_l1, decide_eq_false (by omega)]; rfl
  · have := lt_of_at hy
    rw [m_slices_IsSortedFunc_LLimpl_Value_Limpl_Value_l1, dgt0, cond_true]
    simp only [at_of hx, at_of hy, ckdd (show j < 1000000000000 by omega), Option.bind_some, hp y (List.mem_of_getElem? hy) x (List.mem_of_getElem? hx)]
theorem L_slices_Clone_LLLimpl_Value_LLimpl_Value {l : List (List (List S_impl_Value))} (hl : l.length ≤ 1000000) : m_slices_Clone_LLLimpl_Value_LLimpl_Value l = some l := by
  unfold m_slices_Clone_LLLimpl_Value_LLimpl_Value
  cases l with
  | nil => rfl
  | cons x l =>
    simp only [nilM, cond_false]
    rw [app_of (by simp at hl ⊢; omega), Option.bind_some, List.nil_append]
def rGt (x y : Row) : Bool := decide (rOrd y x < 0)
def inOk (r : Rows) : Bool := r.all rowOk && adjB rGt r
theorem E_allOk {rs : Rows} (h : rsSm rs) : m_impl_allOk rs = some (rs.all rowOk) := by
  unfold m_impl_allOk
  rw [L_slices_ContainsFunc_LLimpl_Value_Limpl_Value (q := fun r => !(rowOk r)) (by have := h.1; omega) (fun r hr => by unfold m_impl_allOk_1; rw [E_impl_RowOk (h.2 r hr)]; rfl), Option.bind_some, List.all_eq_not_any_not]
theorem E_inOrder {rs : Rows} (h : rsSm rs) : m_impl_inOrder rs = some (inOk rs) := by
  unfold m_impl_inOrder m_impl_inOrder_j1 inOk
  rw [E_allOk h, Option.bind_some]
  cases rs.all rowOk
  · rfl
  rw [cond_true, L_slices_IsSortedFunc_LLimpl_Value_Limpl_Value (q := rOrd) (by have := h.1; omega) (fun x hx y _ => E_rowOrder (by have := (h.2 x hx).1; omega)), Option.bind_some]
  rfl
theorem rGt_trans (x y z : Row) (h1 : rGt x y = false) (h2 : rGt y z = false) : rGt x z = false := by
  unfold rGt at *
  rw [decide_eq_false_iff_not] at *
  have a1 := TO_row.anti y x
  have a2 := TO_row.anti z y
  have a3 := TO_row.anti z x
  have := TO_row.le_trans (a := x) (b := y) (c := z) (by omega) (by omega)
  omega
theorem inOk_ord {rs : Rows} (h : inOk rs = true) : OrdB rGt rs := by
  unfold inOk at h
  rw [Bool.and_eq_true] at h
  exact Adj.ord rGt_trans (adjB_iff.1 h.2)
theorem ord_inOrd {rs : Rows} : OrdB rGt rs ↔ inOrd rs := by
  unfold OrdB inOrd
  constructor <;> intro h <;> refine h.imp fun {a b} hab => ?_
  · unfold rGt at hab
    rw [decide_eq_false_iff_not] at hab
    have := TO_row.anti b a
    omega
  · unfold rGt
    rw [decide_eq_false_iff_not]
    have := TO_row.anti b a
    omega

/-- The run whose first row is the least one. -/
def pickB : List Rows → Nat → Option (Nat × Row) → Option (Nat × Row)
  | [], _, b => b
  | [] :: l, k, b => pickB l (k + 1) b
  | (r :: _) :: l, k, none => pickB l (k + 1) (some (k, r))
  | (r :: _) :: l, k, some (j, q) => if rOrd r q < 0 then pickB l (k + 1) (some (k, r)) else pickB l (k + 1) (some (j, q))
def mergeN : Nat → List Rows → Rows → Rows
  | 0, _, out => out
  | n + 1, left, out => match pickB left 0 none with
    | none => out
    | some (j, r) => mergeN n (left.set j ((left.getD j []).drop 1)) (out ++ [r])
def total (left : List Rows) : Nat := left.flatten.length
/-- What the pick is: the head of its run, not beyond any other head. -/
theorem pickB_ok : ∀ (left : List Rows) (k : Nat) (b : Option (Nat × Row)),
    (pickB left k b = none → b = none ∧ ∀ r ∈ left, r = []) ∧
    (∀ j r, pickB left k b = some (j, r) → (b = some (j, r) ∨ (k ≤ j ∧ ∃ t, left[j - k]? = some (r :: t))) ∧ (∀ q t, q :: t ∈ left → rOrd r q ≤ 0) ∧ (∀ j' q, b = some (j', q) → rOrd r q ≤ 0))
  | [], k, b => by
    refine ⟨fun h => ⟨h, by simp⟩, fun j r h => ⟨.inl h, by simp, fun j' q hb => ?_⟩⟩
    simp only [pickB] at h
    rw [h] at hb
    cases hb
    exact Int.le_of_eq ((TO_row.eq0 _ _).2 rfl)
  | [] :: l, k, b => by
    obtain ⟨h1, h2⟩ := pickB_ok l (k + 1) b
    simp only [pickB]
    refine ⟨fun h => ⟨(h1 h).1, fun r hr => by rcases List.mem_cons.1 hr with rfl | hr; rfl; exact (h1 h).2 r hr⟩, fun j r h => ?_⟩
    obtain ⟨g1, g2, g3⟩ := h2 j r h
    refine ⟨?_, fun q t hq => ?_, g3⟩
    · rcases g1 with g1 | ⟨g1, t, g4⟩
      · exact .inl g1
      · refine .inr ⟨by omega, t, ?_⟩
        rw [show j - k = (j - (k + 1)) + 1 by omega]; simpa using g4
    · rcases List.mem_cons.1 hq with hq | hq
      · cases hq
      · exact g2 q t hq
  | (x :: xs) :: l, k, none => by
    obtain ⟨h1, h2⟩ := pickB_ok l (k + 1) (some (k, x))
    simp only [pickB]
    refine ⟨fun h => (by have := (h1 h).1; cases this), fun j r h => ?_⟩
    obtain ⟨g1, g2, g3⟩ := h2 j r h
    refine ⟨?_, fun q t hq => ?_, fun j' q hb => by cases hb⟩
    · rcases g1 with g1 | ⟨g1, t, g4⟩
      · cases g1; exact .inr ⟨Nat.le_refl _, xs, by simp⟩
      · refine .inr ⟨by omega, t, ?_⟩
        rw [show j - k = (j - (k + 1)) + 1 by omega]; simpa using g4
    · rcases List.mem_cons.1 hq with hq | hq
      · rw [(List.cons.inj hq).1]; exact g3 k x rfl
      · exact g2 q t hq
  | (x :: xs) :: l, k, some (i, p) => by
    simp only [pickB]
    by_cases hx : rOrd x p < 0
    · rw [if_pos hx]
      obtain ⟨h1, h2⟩ := pickB_ok l (k + 1) (some (k, x))
      refine ⟨fun h => (by have := (h1 h).1; cases this), fun j r h => ?_⟩
      obtain ⟨g1, g2, g3⟩ := h2 j r h
      refine ⟨?_, fun q t hq => ?_, fun j' q hb => ?_⟩
      · rcases g1 with g1 | ⟨g1, t, g4⟩
        · cases g1; exact .inr ⟨Nat.le_refl _, xs, by simp⟩
        · refine .inr ⟨by omega, t, ?_⟩
          rw [show j - k = (j - (k + 1)) + 1 by omega]; simpa using g4
      · rcases List.mem_cons.1 hq with hq | hq
        · rw [(List.cons.inj hq).1]; exact g3 k x rfl
        · exact g2 q t hq
      · cases hb
        exact TO_row.le_trans (g3 k x rfl) (by omega)
    · rw [if_neg hx]
      obtain ⟨h1, h2⟩ := pickB_ok l (k + 1) (some (i, p))
      refine ⟨fun h => (by have := (h1 h).1; cases this), fun j r h => ?_⟩
      obtain ⟨g1, g2, g3⟩ := h2 j r h
      refine ⟨?_, fun q t hq => ?_, g3⟩
      · rcases g1 with g1 | ⟨g1, t, g4⟩
        · exact .inl g1
        · refine .inr ⟨by omega, t, ?_⟩
          rw [show j - k = (j - (k + 1)) + 1 by omega]; simpa using g4
      · rcases List.mem_cons.1 hq with hq | hq
        · rw [(List.cons.inj hq).1]
          have := TO_row.anti x p
          exact TO_row.le_trans (g3 i p rfl) (by omega)
        · exact g2 q t hq
theorem pick_some {left : List Rows} {j : Nat} {r : Row} (h : pickB left 0 none = some (j, r)) : (∃ t, left[j]? = some (r :: t)) ∧ ∀ q t, q :: t ∈ left → rOrd r q ≤ 0 := by
  obtain ⟨g1, g2, _⟩ := (pickB_ok left 0 none).2 j r h
  rcases g1 with g1 | ⟨_, t, g4⟩
  · cases g1
  · exact ⟨⟨t, by simpa using g4⟩, g2⟩
theorem flat_perm {left : List Rows} {j : Nat} {r : Row} {t : Rows} (h : left[j]? = some (r :: t)) : left.flatten.Perm (r :: (left.set j t).flatten) := by
  induction left generalizing j with
  | nil => simp at h
  | cons a l ih =>
    cases j with
    | zero => simp at h; subst h; simp
    | succ j =>
      rw [List.set_cons_succ, List.flatten_cons, List.flatten_cons]
      refine ((ih (by simpa using h)).append_left a).trans ?_
      exact List.perm_middle
theorem total_set {left : List Rows} {j : Nat} {r : Row} {t : Rows} (h : left[j]? = some (r :: t)) : total left = total (left.set j t) + 1 := by
  have := (flat_perm h).length_eq
  unfold total
  simpa using this
theorem mergeN_ok : ∀ (n : Nat) (left : List Rows) (out : Rows), total left ≤ n → (∀ r ∈ left, inOrd r) → inOrd out → (∀ x ∈ out, ∀ y ∈ left.flatten, rOrd x y ≤ 0) → (mergeN n left out).Perm (out ++ left.flatten) ∧ inOrd (mergeN n left out)
  | 0, left, out, h, _, ho, _ => by
    have : left.flatten = [] := List.length_eq_zero_iff.1 (by unfold total at h; omega)
    simp only [mergeN, this, List.append_nil]
    exact ⟨.refl _, ho⟩
  | n + 1, left, out, h, hl, ho, hlo => by
    simp only [mergeN]
    cases hp : pickB left 0 none with
    | none =>
      have := ((pickB_ok left 0 none).1 hp).2
      have e : left.flatten = [] := by rw [List.flatten_eq_nil_iff]; exact this
      simp only [e, List.append_nil]
      exact ⟨.refl _, ho⟩
    | some x =>
      obtain ⟨j, r⟩ := x
      obtain ⟨⟨t, ht⟩, hmin⟩ := pick_some hp
      have htot := total_set ht
      have e : (left.getD j []).drop 1 = t := by rw [List.getD_eq_getElem?_getD, ht]; rfl
      simp only [e]
      have hfp := flat_perm ht
      have hrt := hl _ (List.mem_of_getElem? ht)
      have hrm : r ∈ left.flatten := hfp.mem_iff.2 (by simp)
      have hrall : ∀ y ∈ left.flatten, rOrd r y ≤ 0 := by
        intro y hy
        obtain ⟨run, hrun, hy⟩ := List.mem_flatten.1 hy
        cases run with
        | nil => cases hy
        | cons q s =>
          have h1 := hmin q s hrun
          rcases List.mem_cons.1 hy with rfl | hy
          · exact h1
          · exact TO_row.le_trans h1 ((List.pairwise_cons.1 (hl _ hrun)).1 y hy)
      obtain ⟨g1, g2⟩ := mergeN_ok n (left.set j t) (out ++ [r]) (by omega) (fun s hs => by
          rcases List.mem_or_eq_of_mem_set hs with hs | rfl
          · exact hl s hs
          · exact (List.pairwise_cons.1 hrt).2)
        (by
          unfold inOrd
          rw [List.pairwise_append]
          exact ⟨ho, List.pairwise_singleton _ _, fun x hx y hy => by rw [List.mem_singleton.1 hy]; exact hlo x hx r hrm⟩)
        (fun x hx y hy => by
          have hy' : y ∈ left.flatten := hfp.mem_iff.2 (by simp [hy])
          rcases List.mem_append.1 hx with hx | hx
          · exact hlo x hx y hy'
          · rw [List.mem_singleton.1 hx]; exact hrall y hy')
      refine ⟨g1.trans ?_, g2⟩
      rw [List.append_assoc]
      exact hfp.symm.append_left out
/-- Of rows that are ok. -/
theorem mergeN_mem {n : Nat} {left : List Rows} {out : Rows} : ∀ x ∈ mergeN n left out, x ∈ out ∨ x ∈ left.flatten := by
  induction n generalizing left out with
  | zero => intro x hx; exact .inl hx
  | succ n ih =>
    intro x hx
    simp only [mergeN] at hx
    cases hp : pickB left 0 none with
    | none => rw [hp] at hx; exact .inl hx
    | some y =>
      obtain ⟨j, r⟩ := y
      rw [hp] at hx
      obtain ⟨⟨t, ht⟩, _⟩ := pick_some hp
      have e : (left.getD j []).drop 1 = t := by rw [List.getD_eq_getElem?_getD, ht]; rfl
      have hfp := flat_perm ht
      simp only [e] at hx
      rcases ih x hx with h | h
      · rcases List.mem_append.1 h with h | h
        · exact .inl h
        · rw [List.mem_singleton.1 h]; exact .inr (hfp.mem_iff.2 (by simp))
      · exact .inr (hfp.mem_iff.2 (by simp [h]))

def codeB : Option (Nat × Row) → Int
  | none => -1
  | some (j, _) => j
def hdB (left : List Rows) : Option (Nat × Row) → Prop
  | none => True
  | some (j, q) => ∃ t, left[j]? = some (q :: t)
theorem d_none : decide (codeB none < 0) = true := rfl
theorem d_some {j : Nat} {q : Row} : decide (codeB (some (j, q)) < 0) = false := decide_eq_false (by show ¬ ((j : Int) < 0); omega)
theorem codeB_s {j : Nat} {q : Row} : codeB (some (j, q)) = (j : Int) := rfl
theorem codeB_n : codeB none = -1 := rfl
theorem impl_pick {k1 : Rows → List Rows → Option Rows} {left : List Rows} {out : Rows} (hs : ∀ r ∈ left.flatten, rSm r) (hl : left.length ≤ 1000000) : ∀ (ys : List Rows) (k n : Nat) (b : Option (Nat × Row)), left.drop k = ys → k ≤ left.length → ys.length < n → hdB left b →
    m_impl_RunsMerged_l2 k1 n (codeB b) (left.length : Int) (k : Int) out left = m_impl_RunsMerged_j3 k1 (codeB (pickB ys k b)) out left := by
  intro ys
  induction ys with
  | nil =>
    intro k n b hd hk hn hb
    obtain ⟨n, rfl⟩ : ∃ q, n = q + 1 := ⟨n - 1, by simp at hn; omega⟩
    have : k = left.length := by
      have := congrArg List.length hd
      simp at this; omega
    subst this
    rw [m_impl_RunsMerged_l2, dnlt, cond_false]; rfl
  | cons y ys ih =>
    intro k n b hd hk hn hb
    obtain ⟨n, rfl⟩ : ∃ q, n = q + 1 := ⟨n - 1, by simp at hn; omega⟩
    have hlt : k < left.length := by
      have := congrArg List.length hd
      simp at this; omega
    have hc := List.drop_eq_getElem_cons hlt
    rw [hd] at hc
    simp only [List.cons.injEq] at hc
    have hx : left[k]? = some y := by rw [List.getElem?_eq_getElem hlt, hc.1]
    have hn' : ys.length < n := by simp at hn; omega
    rw [m_impl_RunsMerged_l2, dlt hlt, cond_true]
    simp only [at_of hx, Option.bind_some]
    cases y with
    | nil =>
      rw [show decide ((([] : Rows).length : Int) > 0) = false from rfl, cond_false]
      unfold m_impl_RunsMerged_j1 m_impl_RunsMerged_j2
      rw [cond_false, ck1 (by omega), Option.bind_some, show ((k : Int) + 1) = ((k + 1 : Nat) : Int) by omega, ih (k + 1) n b hc.2.symm (by omega) hn' hb]
      rfl
    | cons r t =>
      rw [decide_eq_true (show (((r :: t : Rows).length : Int) > 0) by simp), cond_true]
      unfold m_impl_RunsMerged_j1 m_impl_RunsMerged_j2
      simp only [ck1 (show k < 1000000000000 by omega), Option.bind_some]
      cases b with
      | none =>
        rw [d_none, cond_true, cond_true]
        have := ih (k + 1) n (some (k, r)) hc.2.symm (by omega) hn' ⟨t, hx⟩
        simp only [codeB_s] at this
        rw [show ((k : Int) + 1) = ((k + 1 : Nat) : Int) by omega, this]
        rfl
      | some jq =>
        obtain ⟨j, q⟩ := jq
        obtain ⟨s, hj⟩ := hb
        have hrs : rSm r := hs r (List.mem_flatten.2 ⟨_, List.mem_of_getElem? hx, by simp⟩)
        rw [d_some, cond_false]
        simp only [codeB_s]
        have a0 : at? (r :: t) (0 : Int) = some r := rfl
        have a1 : at? (q :: s) (0 : Int) = some q := rfl
        simp only [a0, a1, at_of hj, Option.bind_some, E_rowOrder (show r.length ≤ 1000000 by have := hrs.1; omega), show ((k : Int) + 1) = ((k + 1 : Nat) : Int) by omega, pickB]
        by_cases hlt' : rOrd r q < 0
        · rw [decide_eq_true hlt', cond_true, if_pos hlt']
          exact ih (k + 1) n (some (k, r)) hc.2.symm (by omega) hn' ⟨t, hx⟩
        · rw [decide_eq_false hlt', cond_false, if_neg hlt']
          exact ih (k + 1) n (some (j, q)) hc.2.symm (by omega) hn' ⟨s, hj⟩
theorem impl_merge : ∀ (m n : Nat) (left : List Rows) (out : Rows), total left ≤ m → m < n → out.length + total left ≤ 100000 → left.length ≤ 1000000 → (∀ r ∈ left.flatten, rSm r) → (∀ r ∈ out, rSm r) →
    m_impl_RunsMerged_l1 n out left = some (mergeN m left out) := by
  intro m
  induction m with
  | zero =>
    intro n left out ht hn hlen hl hs ho
    obtain ⟨n, rfl⟩ : ∃ q, n = q + 1 := ⟨n - 1, by omega⟩
    rw [m_impl_RunsMerged_l1]
    have := impl_pick (k1 := m_impl_RunsMerged_l1 n) (left := left) (out := out) hs hl left 0 (((left.length : Int) - 0).toNat + 1) none rfl (by omega) (by omega) trivial
    simp only [codeB_n] at this
    rw [show ((0 : Nat) : Int) = 0 from rfl] at this
    rw [this]
    cases hp : pickB left 0 none with
    | some x =>
      obtain ⟨j, r⟩ := x
      obtain ⟨⟨t, ht'⟩, _⟩ := pick_some hp
      have := total_set ht'
      omega
    | none =>
      unfold m_impl_RunsMerged_j3
      rw [d_none, cond_true, E_rowsCopy (by omega) (fun r hr => by have := (ho r hr).1; omega)]
      rfl
  | succ m ih =>
    intro n left out ht hn hlen hl hs ho
    obtain ⟨n, rfl⟩ : ∃ q, n = q + 1 := ⟨n - 1, by omega⟩
    rw [m_impl_RunsMerged_l1]
    have := impl_pick (k1 := m_impl_RunsMerged_l1 n) (left := left) (out := out) hs hl left 0 (((left.length : Int) - 0).toNat + 1) none rfl (by omega) (by omega) trivial
    simp only [codeB_n] at this
    rw [show ((0 : Nat) : Int) = 0 from rfl] at this
    rw [this]
    simp only [mergeN]
    cases hp : pickB left 0 none with
    | some x =>
      obtain ⟨j, r⟩ := x
      obtain ⟨⟨t, ht'⟩, _⟩ := pick_some hp
      have htot := total_set ht'
      have hfp := flat_perm ht'
      have e : (left.getD j []).drop 1 = t := by rw [List.getD_eq_getElem?_getD, ht']; rfl
      have hjl := lt_of_at ht'
      unfold m_impl_RunsMerged_j3
      rw [d_some, cond_false]
      simp only [codeB_s]
      have a0 : at? (r :: t) (0 : Int) = some r := rfl
      have hcut : cut? (r :: t) 1 ((r :: t : Rows).length : Int) = some t := by
        rw [show (1 : Int) = ((1 : Nat) : Int) from rfl, cut_of (by simp) (Nat.le_refl _), List.take_length]; rfl
      simp only [at_of ht', a0, hcut, app_of (show out.length + [r].length ≤ 1000000000000 by simp; omega), Option.bind_some, Go.Lift.lt, Int.toNat_natCast, e]
      exact ih n _ _ (by omega) (by omega) (by simp; omega) (by simpa using hl) (fun x hx => hs x (hfp.mem_iff.2 (by simp [hx]))) (fun x hx => by
        rcases List.mem_append.1 hx with hx | hx
        · exact ho x hx
        · rw [List.mem_singleton.1 hx]; exact hs r (hfp.mem_iff.2 (by simp)))
    | none =>
      unfold m_impl_RunsMerged_j3
      rw [d_none, cond_true, E_rowsCopy (by omega) (fun r hr => by have := (ho r hr).1; omega)]
      rfl
def runsSm (runs : List Rows) : Prop := runs.length ≤ 1000 ∧ total runs ≤ 10000 ∧ (∀ r ∈ runs, rsSm r)
theorem runsSm_flat {runs : List Rows} (h : runsSm runs) : ∀ r ∈ runs.flatten, rSm r := by
  intro r hr
  obtain ⟨run, h1, h2⟩ := List.mem_flatten.1 hr
  exact (h.2.2 run h1).2 r h2
def merged (runs : List Rows) : Rows := if runs.all inOk then mergeN (total runs) runs [] else []
theorem E_impl_RunsMerged {runs : List Rows} (h : runsSm runs) : m_impl_RunsMerged runs = some (merged runs) := by
  unfold m_impl_RunsMerged merged
  rw [L_slices_ContainsFunc_LLLimpl_Value_LLimpl_Value (q := fun r => !(inOk r)) (by have := h.1; omega) (fun r hr => by unfold m_impl_RunsMerged_1; rw [E_inOrder (h.2.2 r hr)]; rfl), Option.bind_some]
  rw [List.all_eq_not_any_not]
  cases runs.any fun r => !(inOk r)
  · rw [cond_false, L_slices_Clone_LLLimpl_Value_LLimpl_Value (by have := h.1; omega), Option.bind_some, impl_merge (total runs) 1000000000 runs [] (Nat.le_refl _) (by have := h.2.1; omega) (by have := h.2.1; simp; omega) (by have := h.1; omega) (runsSm_flat h) (by simp)]
    rfl
  · rfl

/-- What is left of runs of which so many rows are taken. -/
def leftOf (runs : List Rows) (at' : List Int) : List Rows := List.zipWith (fun r a => r.drop a.toNat) runs at'
def atOk (runs : List Rows) (at' : List Int) : Prop := at'.length = runs.length ∧ ∀ (k : Nat) (a : Int) (r : Rows), at'[k]? = some a → runs[k]? = some r → 0 ≤ a ∧ a ≤ r.length
theorem leftOf_at {runs : List Rows} {at' : List Int} {k : Nat} {a : Int} {r : Rows} (ha : at'[k]? = some a) (hr : runs[k]? = some r) : (leftOf runs at')[k]? = some (r.drop a.toNat) := by
  unfold leftOf; rw [List.getElem?_zipWith, hr, ha]
theorem leftOf_len {runs : List Rows} {at' : List Int} (h : at'.length = runs.length) : (leftOf runs at').length = runs.length := by unfold leftOf; simp [h]
theorem drop_head {r : Rows} {a : Int} {x : Row} {t : Rows} (h0 : 0 ≤ a) (h : r.drop a.toNat = x :: t) : at? r a = some x ∧ a < r.length ∧ r.drop (a + 1).toNat = t := by
  have hlt : a.toNat < r.length := by
    have := congrArg List.length h
    simp at this; omega
  have hc := List.drop_eq_getElem_cons hlt
  rw [h] at hc
  simp only [List.cons.injEq] at hc
  refine ⟨?_, by omega, ?_⟩
  · rw [at_someI h0 hlt, hc.1]
  · rw [show (a + 1).toNat = a.toNat + 1 by omega]; exact hc.2.symm
theorem spec_pick {k3 : List Rows → Int → Rows → List Int → Option Rows} {runs : List Rows} {at' : List Int} {t5 : Int} {out : Rows} (hat : atOk runs at') (hs : ∀ r ∈ runs.flatten, rSm r) (hok : ∀ r ∈ runs.flatten, rowOk r = true) (hl : runs.length ≤ 1000000) : ∀ (ys : List Rows) (k n : Nat) (b : Option (Nat × Row)), (leftOf runs at').drop k = ys → k ≤ runs.length → ys.length < n → hdB (leftOf runs at') b →
    m_spec_RunsMerged_l4 k3 n runs t5 (codeB b) (k : Int) out at' = m_spec_RunsMerged_j7 k3 runs t5 (codeB (pickB ys k b)) out at' := by
  have hll := leftOf_len hat.1
  intro ys
  induction ys with
  | nil =>
    intro k n b hd hk hn hb
    obtain ⟨n, rfl⟩ : ∃ q, n = q + 1 := ⟨n - 1, by simp at hn; omega⟩
    have : k = runs.length := by
      have := congrArg List.length hd
      simp at this; omega
    subst this
    rw [m_spec_RunsMerged_l4, dnlt, cond_false]; rfl
  | cons y ys ih =>
    intro k n b hd hk hn hb
    obtain ⟨n, rfl⟩ : ∃ q, n = q + 1 := ⟨n - 1, by simp at hn; omega⟩
    have hlt : k < runs.length := by
      have := congrArg List.length hd
      simp at this; omega
    have hc := List.drop_eq_getElem_cons (show k < (leftOf runs at').length by omega)
    rw [hd] at hc
    simp only [List.cons.injEq] at hc
    obtain ⟨run, hrun⟩ : ∃ r, runs[k]? = some r := ⟨_, List.getElem?_eq_getElem hlt⟩
    obtain ⟨a, ha⟩ : ∃ a, at'[k]? = some a := ⟨_, List.getElem?_eq_getElem (by have := hat.1; omega)⟩
    obtain ⟨ha0, ha1⟩ := hat.2 k a run ha hrun
    have hy : y = run.drop a.toNat := by
      have := leftOf_at ha hrun
      rw [List.getElem?_eq_getElem (by omega), ← hc.1] at this
      exact Option.some.inj this
    have hx : (leftOf runs at')[k]? = some y := by rw [hy]; exact leftOf_at ha hrun
    have hn' : ys.length < n := by simp at hn; omega
    rw [m_spec_RunsMerged_l4, dlt hlt, cond_true]
    simp only [at_of ha, at_of hrun, Option.bind_some]
    cases y with
    | nil =>
      have : ¬ a < run.length := by
        intro h
        have := congrArg List.length hy
        simp at this; omega
      rw [decide_eq_false this, cond_false]
      unfold m_spec_RunsMerged_j5 m_spec_RunsMerged_j6
      rw [cond_false, ck1 (by omega), Option.bind_some, show ((k : Int) + 1) = ((k + 1 : Nat) : Int) by omega, ih (k + 1) n b hc.2.symm (by omega) hn' hb]
      rfl
    | cons r t =>
      obtain ⟨d1, d2, d3⟩ := drop_head ha0 hy.symm
      rw [decide_eq_true d2, cond_true]
      unfold m_spec_RunsMerged_j5 m_spec_RunsMerged_j6
      simp only [ck1 (show k < 1000000000000 by omega), Option.bind_some]
      have hrm : r ∈ runs.flatten := List.mem_flatten.2 ⟨run, List.mem_of_getElem? hrun, by
        have : r ∈ run.drop a.toNat := by rw [← hy]; simp
        exact List.mem_of_mem_drop this⟩
      cases b with
      | none =>
        rw [d_none, cond_true, cond_true]
        have := ih (k + 1) n (some (k, r)) hc.2.symm (by omega) hn' ⟨t, hx⟩
        simp only [codeB_s] at this
        rw [show ((k : Int) + 1) = ((k + 1 : Nat) : Int) by omega, this]
        rfl
      | some jq =>
        obtain ⟨j, q⟩ := jq
        obtain ⟨s, hj⟩ := hb
        have hjl : j < runs.length := by have := lt_of_at hj; omega
        obtain ⟨runj, hrunj⟩ : ∃ r, runs[j]? = some r := ⟨_, List.getElem?_eq_getElem hjl⟩
        obtain ⟨aj, haj⟩ : ∃ a, at'[j]? = some a := ⟨_, List.getElem?_eq_getElem (by have := hat.1; omega)⟩
        obtain ⟨hj0, hj1⟩ := hat.2 j aj runj haj hrunj
        have hjd : runj.drop aj.toNat = q :: s := by
          have := leftOf_at haj hrunj
          rw [hj] at this
          exact (Option.some.inj this).symm
        obtain ⟨f1, f2, f3⟩ := drop_head hj0 hjd
        have hqm : q ∈ runs.flatten := List.mem_flatten.2 ⟨runj, List.mem_of_getElem? hrunj, by
          have : q ∈ runj.drop aj.toNat := by rw [hjd]; simp
          exact List.mem_of_mem_drop this⟩
        rw [d_some, cond_false]
        simp only [codeB_s]
        simp only [at_of hrunj, at_of haj, d1, f1, Option.bind_some, E_spec_RowOrder (hs r hrm) (hs q hqm), rr_ok (hok r hrm) (hok q hqm), show ((k : Int) + 1) = ((k + 1 : Nat) : Int) by omega, pickB]
        by_cases hlt' : rOrd r q < 0
        · rw [decide_eq_true hlt', cond_true, if_pos hlt']
          exact ih (k + 1) n (some (k, r)) hc.2.symm (by omega) hn' ⟨t, hx⟩
        · rw [decide_eq_false hlt', cond_false, if_neg hlt']
          exact ih (k + 1) n (some (j, q)) hc.2.symm (by omega) hn' ⟨s, hj⟩
theorem leftOf_set {runs : List Rows} {at' : List Int} {j : Nat} {a : Int} {r : Rows} (ha : at'[j]? = some a) (hr : runs[j]? = some r) : leftOf runs (at'.set j (a + 1)) = (leftOf runs at').set j (r.drop (a + 1).toNat) := by
  refine List.ext_getElem? fun k => ?_
  unfold leftOf
  rw [List.getElem?_zipWith, List.getElem?_set, List.getElem?_set, List.getElem?_zipWith]
  by_cases hk : j = k
  · subst hk
    have h1 := lt_of_at ha
    have h2 := lt_of_at hr
    rw [if_pos rfl, if_pos rfl, if_pos h1, if_pos (by simp; omega), hr]
  · rw [if_neg hk, if_neg hk]
theorem spec_merge : ∀ (m n : Nat) (runs : List Rows) (at' : List Int) (out : Rows), total (leftOf runs at') = m → m < n → atOk runs at' → out.length + m ≤ 100000 → runs.length ≤ 1000000 → (∀ r ∈ runs.flatten, rSm r) → (∀ r ∈ runs.flatten, rowOk r = true) → (∀ r ∈ runs, r.length ≤ 100000) →
    m_spec_RunsMerged_l3 n runs (m : Int) out at' = some (mergeN m (leftOf runs at') out) := by
  intro m
  induction m with
  | zero =>
    intro n runs at' out ht hn hat hlen hl hs hok hrl
    obtain ⟨n, rfl⟩ : ∃ q, n = q + 1 := ⟨n - 1, by omega⟩
    rw [m_spec_RunsMerged_l3, dgt00, cond_false]; rfl
  | succ m ih =>
    intro n runs at' out ht hn hat hlen hl hs hok hrl
    obtain ⟨n, rfl⟩ : ∃ q, n = q + 1 := ⟨n - 1, by omega⟩
    have hll := leftOf_len hat.1
    rw [m_spec_RunsMerged_l3, dgt0, cond_true]
    have := spec_pick (k3 := m_spec_RunsMerged_l3 n) (t5 := ((m + 1 : Nat) : Int)) (out := out) hat hs hok hl (leftOf runs at') 0 (((runs.length : Int) - 0).toNat + 1) none rfl (by omega) (by omega) trivial
    simp only [codeB_n] at this
    rw [show ((0 : Nat) : Int) = 0 from rfl] at this
    rw [this]
    simp only [mergeN]
    cases hp : pickB (leftOf runs at') 0 none with
    | none =>
      have h0 := ((pickB_ok _ 0 none).1 hp).2
      have e : (leftOf runs at').flatten = [] := by rw [List.flatten_eq_nil_iff]; exact h0
      unfold total at ht
      rw [e] at ht; simp at ht
    | some x =>
      obtain ⟨j, r⟩ := x
      obtain ⟨⟨t, ht'⟩, _⟩ := pick_some hp
      have htot := total_set ht'
      have hjl : j < runs.length := by have := lt_of_at ht'; omega
      obtain ⟨run, hrun⟩ : ∃ r, runs[j]? = some r := ⟨_, List.getElem?_eq_getElem hjl⟩
      obtain ⟨a, ha⟩ : ∃ a, at'[j]? = some a := ⟨_, List.getElem?_eq_getElem (by have := hat.1; omega)⟩
      obtain ⟨ha0, ha1⟩ := hat.2 j a run ha hrun
      have hjd : run.drop a.toNat = r :: t := by
        have := leftOf_at ha hrun
        rw [ht'] at this
        exact (Option.some.inj this).symm
      obtain ⟨d1, d2, d3⟩ := drop_head ha0 hjd
      have e : ((leftOf runs at').getD j []).drop 1 = t := by rw [List.getD_eq_getElem?_getD, ht']; rfl
      have hrm : r ∈ runs.flatten := List.mem_flatten.2 ⟨run, List.mem_of_getElem? hrun, by
        have : r ∈ run.drop a.toNat := by rw [hjd]; simp
        exact List.mem_of_mem_drop this⟩
      have hset := leftOf_set ha hrun
      rw [d3] at hset
      unfold m_spec_RunsMerged_j7 m_spec_RunsMerged_j8
      simp only [codeB, at_of hrun, at_of ha, d1, Option.bind_some, E_l3Own (show r.length ≤ 1000000 by have := (hs r hrm).1; omega), app_of (show out.length + [r].length ≤ 1000000000000 by simp; omega), Go.Lift.lt, Int.toNat_natCast, e, ckdd (show m < 1000000000000 by omega)]
      rw [ckI_of (by omega) (by
        have := hrl _ (List.mem_of_getElem? hrun)
        omega), Option.bind_some]
      rw [ih n runs (at'.set j (a + 1)) (out ++ [r]) (by rw [hset]; omega) (by omega) ⟨by simpa using hat.1, fun k b q hb hq => by
        rw [List.getElem?_set] at hb
        by_cases hk : j = k
        · subst hk
          rw [if_pos rfl, if_pos (lt_of_at ha)] at hb
          cases hb
          rw [hrun] at hq; cases hq
          omega
        · rw [if_neg hk] at hb; exact hat.2 k b q hb hq⟩ (by simp; omega) hl hs hok hrl, hset]
theorem rr_le {a b : Row} (ha : rowOk a = true) (hb : rowOk b = true) : rrOrd a b ≤ 0 ↔ rGt a b = false := by
  rw [rr_ok ha hb]
  unfold rGt
  rw [decide_eq_false_iff_not]
  have := TO_row.anti b a
  omega
/-- What is looked at of a run from a place on. -/
def runFrom (run : Rows) (j : Nat) : Prop := ∀ i x, j ≤ i → run[i]? = some x → rowOk x = true ∧ ∀ y, 0 < i → run[i - 1]? = some y → rrOrd y x ≤ 0
theorem runFrom_0 {run : Rows} : runFrom run 0 ↔ inOk run = true := by
  unfold inOk
  rw [Bool.and_eq_true, List.all_eq_true, adjB_iff]
  constructor
  · intro h
    have hok : ∀ r ∈ run, rowOk r = true := fun r hr => by
      obtain ⟨i, hi⟩ := List.getElem?_of_mem hr
      exact (h i r (by omega) hi).1
    refine ⟨hok, fun i x y hx hy => ?_⟩
    exact (rr_le (hok x (List.mem_of_getElem? hx)) (hok y (List.mem_of_getElem? hy))).1 ((h (i + 1) y (by omega) hy).2 x (by omega) hx)
  · rintro ⟨h1, h2⟩ i x _ hx
    refine ⟨h1 x (List.mem_of_getElem? hx), fun y hi hy => ?_⟩
    obtain ⟨i, rfl⟩ : ∃ q, i = q + 1 := ⟨i - 1, by omega⟩
    exact (rr_le (h1 y (List.mem_of_getElem? hy)) (h1 x (List.mem_of_getElem? hx))).2 (h2 i y x (by simpa using hy) hx)
theorem spec_check {k1 : List Rows → Int → Int → Rows → List Int → Option Rows} {runs : List Rows} {run : Rows} {t : Nat} {t5 : Int} {out : Rows} {at' : List Int} (hr : runs[t]? = some run) (hs : rsSm run) : ∀ (d j n : Nat), j + d = run.length → d < n →
    ∃ b, m_spec_RunsMerged_l2 k1 n runs t5 (t : Int) (j : Int) out at' = (bif b then m_spec_RunsMerged_j2 k1 runs t5 (t : Int) out at' else some []) ∧ (b = true ↔ runFrom run j) := by
  have hl := hs.1
  intro d
  induction d with
  | zero =>
    intro j n hj hn
    obtain ⟨n, rfl⟩ : ∃ q, n = q + 1 := ⟨n - 1, by omega⟩
    obtain rfl : j = run.length := by omega
    refine ⟨true, ?_, ?_⟩
    · rw [m_spec_RunsMerged_l2, at_of hr, Option.bind_some, dnlt, cond_false, cond_true]
    · refine ⟨fun _ i x hi hx => ?_, fun _ => rfl⟩
      have := lt_of_at hx
      omega
  | succ d ih =>
    intro j n hj hn
    obtain ⟨n, rfl⟩ : ∃ q, n = q + 1 := ⟨n - 1, by omega⟩
    have hlt : j < run.length := by omega
    have hx : run[j]? = some run[j] := List.getElem?_eq_getElem hlt
    have hxs := hs.2 _ (List.mem_of_getElem? hx)
    obtain ⟨b, e1, e2⟩ := ih (j + 1) n (by omega) (by omega)
    have next : ∀ b' : Bool, (b' = false ↔ (rowOk run[j] = true ∧ ∀ y, 0 < j → run[j - 1]? = some y → rrOrd y run[j] ≤ 0)) → ∃ b, m_spec_RunsMerged_j1 k1 (m_spec_RunsMerged_l2 k1 n) runs t5 (t : Int) (j : Int) b' out at' = (bif b then m_spec_RunsMerged_j2 k1 runs t5 (t : Int) out at' else some []) ∧ (b = true ↔ runFrom run j) := by
      intro b' hb'
      unfold m_spec_RunsMerged_j1
      cases b' with
      | true =>
        refine ⟨false, by rw [cond_true, cond_false], ⟨fun h => (by cases h), fun h => ?_⟩⟩
        have := h j _ (Nat.le_refl _) hx
        have := hb'.2 this
        cases this
      | false =>
        refine ⟨b, ?_, e2.trans ⟨fun h i x hi hix => ?_, fun h i x hi hix => h i x (by omega) hix⟩⟩
        · rw [cond_false, ck1 (by omega), Option.bind_some, show ((j : Int) + 1) = ((j + 1 : Nat) : Int) by omega, e1]
        · rcases Nat.lt_or_ge j i with h3 | h3
          · exact h i x (by omega) hix
          · obtain rfl : i = j := by omega
            rw [hx] at hix; cases hix
            exact hb'.1 rfl
    rw [m_spec_RunsMerged_l2, at_of hr, Option.bind_some, dlt hlt, cond_true, Option.bind_some, at_of hx, Option.bind_some, E_spec_RowOk hxs, Option.bind_some]
    cases hok : rowOk run[j] with
    | false =>
      rw [Bool.not_false, cond_true]
      exact next true ⟨fun h => (by cases h), fun h => (by rw [hok] at h; cases h.1)⟩
    | true =>
      rw [Bool.not_true, cond_false]
      cases j with
      | zero =>
        rw [dgt00, cond_false]
        exact next false ⟨fun _ => ⟨hok, fun y h => absurd h (by omega)⟩, fun _ => rfl⟩
      | succ j =>
        have hy : run[j]? = some run[j] := List.getElem?_eq_getElem (by omega)
        rw [dgt0, cond_true]
        rw [Option.bind_some, ckdd (show j < 1000000000000 by omega), Option.bind_some, at_of hy, Option.bind_some, Option.bind_some, at_of hx, Option.bind_some, E_spec_RowOrder (hs.2 _ (List.mem_of_getElem? hy)) hxs, Option.bind_some]
        refine next _ ?_
        rw [decide_eq_false_iff_not]
        refine ⟨fun h => ⟨hok, fun y _ hy' => ?_⟩, fun h => ?_⟩
        · rw [show j + 1 - 1 = j by omega, hy] at hy'
          cases hy'; omega
        · have := h.2 _ (by omega) (by rw [show j + 1 - 1 = j by omega]; exact hy)
          omega
theorem leftOf_zero (runs : List Rows) : leftOf runs (List.replicate runs.length (0 : Int)) = runs := by
  refine List.ext_getElem? fun k => ?_
  unfold leftOf
  rw [List.getElem?_zipWith]
  rcases Nat.lt_or_ge k runs.length with h | h
  · rw [List.getElem?_eq_getElem h, List.getElem?_replicate, if_pos h]; simp
  · rw [List.getElem?_eq_none h]
theorem E_spec_RunsMerged {runs : List Rows} (h : runsSm runs) : m_spec_RunsMerged runs = some (merged runs) := by
  unfold m_spec_RunsMerged
  obtain ⟨h1, h2, h3⟩ := h
  have hmk : mk2? (runs.length : Int) (runs.length : Int) (0 : Int) = some (List.replicate runs.length 0) := by
    unfold mk2?; rw [if_pos (by omega)]; simp
  rw [hmk, Option.bind_some]
  generalize hat : List.replicate runs.length (0 : Int) = at'
  have key : ∀ (d k n m : Nat), k + d = runs.length → d < n → m = total (runs.take k) →
      m_spec_RunsMerged_l1 n runs (m : Int) (k : Int) [] at' = (bif (runs.drop k).all inOk then m_spec_RunsMerged_j4 runs (total runs : Int) [] at' else some []) := by
    intro d
    induction d with
    | zero =>
      intro k n m hk hn hm
      obtain ⟨n, rfl⟩ : ∃ q, n = q + 1 := ⟨n - 1, by omega⟩
      obtain rfl : k = runs.length := by omega
      rw [m_spec_RunsMerged_l1, dnlt, cond_false, hm]
      simp
    | succ d ih =>
      intro k n m hk hn hm
      obtain ⟨n, rfl⟩ : ∃ q, n = q + 1 := ⟨n - 1, by omega⟩
      have hlt : k < runs.length := by omega
      have hx : runs[k]? = some runs[k] := List.getElem?_eq_getElem hlt
      have hxs := h3 _ (List.mem_of_getElem? hx)
      rw [m_spec_RunsMerged_l1, dlt hlt, cond_true]
      obtain ⟨b, e1, e2⟩ := spec_check (k1 := m_spec_RunsMerged_l1 n) (t5 := (m : Int)) (out := []) (at' := at') hx hxs runs[k].length 0 1000000000 (by omega) (by have := hxs.1; omega)
      rw [show ((0 : Nat) : Int) = 0 from rfl] at e1
      rw [e1, List.drop_eq_getElem_cons hlt, List.all_cons]
      have hb : b = inOk runs[k] := by rw [Bool.eq_iff_iff, e2, runFrom_0]
      rw [← hb]
      cases b with
      | false => rfl
      | true =>
        rw [cond_true, Bool.true_and]
        have ht : total (runs.take (k + 1)) = m + runs[k].length := by
          rw [hm]; unfold total; rw [List.take_succ_eq_append_getElem hlt, List.flatten_append, List.length_append]; simp
        have hb2 : total (runs.take (k + 1)) ≤ total runs := by
          unfold total
          conv => rhs; rw [← List.take_append_drop (k + 1) runs]
          rw [List.flatten_append, List.length_append]
          omega
        unfold m_spec_RunsMerged_j2 m_spec_RunsMerged_j3
        rw [at_of hx, Option.bind_some, ckI_of (by omega) (by omega), Option.bind_some, ck1 (by omega), Option.bind_some]
        have := ih (k + 1) n (m + runs[k].length) (by omega) (by omega) ht.symm
        rw [← this]
        congr 1
  have := key runs.length 0 (((runs.length : Int) - 0).toNat + 1) 0 (by omega) (by omega) (by simp [total])
  rw [show ((0 : Nat) : Int) = 0 from rfl] at this
  rw [this, List.drop_zero]
  unfold merged
  cases hall : runs.all inOk with
  | false => rfl
  | true =>
    rw [cond_true, if_pos rfl]
    unfold m_spec_RunsMerged_j4
    have hl0 : leftOf runs at' = runs := by rw [← hat]; exact leftOf_zero runs
    have hs : ∀ r ∈ runs.flatten, rSm r := runsSm_flat ⟨h1, h2, h3⟩
    have hok : ∀ r ∈ runs.flatten, rowOk r = true := by
      intro r hr
      obtain ⟨run, g1, g2⟩ := List.mem_flatten.1 hr
      have := List.all_eq_true.1 hall run g1
      unfold inOk at this
      rw [Bool.and_eq_true, List.all_eq_true] at this
      exact this.1 r g2
    rw [spec_merge (total runs) _ runs at' [] (by rw [hl0]) (by omega) ⟨by rw [← hat]; simp, fun k a r ha hr => by
      rw [← hat, List.getElem?_replicate] at ha
      split at ha
      · cases ha; exact ⟨by omega, by omega⟩
      · cases ha⟩ (by simp; omega) (by omega) hs hok (fun r hr => (h3 r hr).1), hl0]
theorem merged_ok {runs : List Rows} (h : runs.all inOk = true) : (merged runs).Perm runs.flatten ∧ inOrd (merged runs) := by
  unfold merged
  rw [if_pos h]
  have := mergeN_ok (total runs) runs [] (Nat.le_refl _) (fun r hr => ord_inOrd.1 (inOk_ord (List.all_eq_true.1 h r hr))) List.Pairwise.nil (by simp)
  simpa using this
theorem merged_mem {runs : List Rows} : ∀ r ∈ merged runs, r ∈ runs.flatten := by
  intro r hr
  unfold merged at hr
  split at hr
  · rcases mergeN_mem r hr with h | h
    · cases h
    · exact h
  · cases hr
theorem merged_len {runs : List Rows} : (merged runs).length ≤ total runs := by
  cases h : runs.all inOk with
  | true => rw [(merged_ok h).1.length_eq]; exact Nat.le_refl _
  | false => unfold merged; rw [if_neg (by rw [h]; simp)]; simp
theorem E_joined {a b : Rows} (ha : a.length ≤ 1000000) (hb : b.length ≤ 1000000) : m_laws_joined a b = some (a ++ b) := by
  unfold m_laws_joined
  rw [app_of (by simp; omega), Option.bind_some, List.nil_append, app_of (by omega), Option.bind_some]

theorem T_l20Much {o : Rd} {n : Int} (ho : 0 ≤ o.p ∧ o.p ≤ 1000000000 - 100000) (hn : -1000000 ≤ n ∧ n ≤ 1000000) : Tot (m_spec_l20Much o n) fun r => rsDr 18 r.1 ∧ o.p ≤ r.2.p ∧ r.2.p ≤ o.p + 2000 := by
  unfold m_spec_l20Much
  refine Tot.bind (T_l20Columns (by omega) (by omega)) (fun c hc => Tot.cut (by omega) ?_)
  have hcl : ((c.1.take (1 : Int).toNat).drop (0 : Int).toNat).length ≤ 6 := by first | (simp; done) | (simp; omega)
  refine Tot.bind (T_l20Bag (by omega) (by omega) hcl) (fun a ha => Tot.bind (T_l20Bag (by omega) (by omega) hcl) fun b hb => Tot.app (by have := ha.1.1; have := hb.1.1; omega) (Tot.bind (T_l20Bag (by omega) (by omega) hcl) fun d hd => Tot.app (by have := ha.1.1; have := hb.1.1; have := hd.1.1; simp; omega) (Tot.ret ⟨⟨?_, ?_⟩, by show o.p ≤ d.2.p; omega, by show d.2.p ≤ o.p + 2000; omega⟩)))
  · have := ha.1.1; have := hb.1.1; have := hd.1.1
    simp; omega
  · intro r hr
    simp only [List.mem_append] at hr
    rcases hr with (hr | hr) | hr
    · exact ha.1.2 r hr
    · exact hb.1.2 r hr
    · exact hd.1.2 r hr
/-- Runs that were drawn: how many, and how many rows each. -/
def runsDr (n m : Nat) (runs : List Rows) : Prop := runs.length ≤ n ∧ ∀ run ∈ runs, rsDr m run
theorem T_RunsOf {rs : Rows} {z : Int} (h : rsDr 18 rs) (hz : 1 ≤ z ∧ z ≤ 6) : Tot (m_spec_RunsOf rs z) fun r => runsDr 18 18 r := by
  have hs := rsDr_sm h (by omega)
  unfold m_spec_RunsOf
  refine Tot.up (rs.length : Int) (fun n t (s : Unit) => m_spec_RunsOf_l1 n rs z t []) (fun _ _ => True) (fun n s _ => ?_) (fun n t s h0 ht _ ih => ?_) _ 0 () (by omega) (by omega) (by omega) trivial
  · rw [m_spec_RunsOf_l1, dnlt, cond_false]
    unfold m_spec_RunsOf_j1
    have key : ∀ (d n : Nat) (t : Int) (out : List Rows), 0 ≤ t → t ≤ (rs.length : Int) + 6 → ((rs.length : Int) - t).toNat ≤ d → d < n → (out.length : Int) + d ≤ 18 → (∀ r ∈ out, rsDr 18 r) → Tot (m_spec_RunsOf_l2 n rs z t out) fun r => runsDr 18 18 r := by
      intro d
      induction d with
      | zero =>
        intro n t out h0 ht hd hn hl ho
        obtain ⟨n, rfl⟩ : ∃ q, n = q + 1 := ⟨n - 1, by omega⟩
        rw [m_spec_RunsOf_l2, decide_eq_false (by omega), cond_false]
        exact Tot.ret ⟨by omega, ho⟩
      | succ d ih =>
        intro n t out h0 ht hd hn hl ho
        obtain ⟨n, rfl⟩ : ∃ q, n = q + 1 := ⟨n - 1, by omega⟩
        rw [m_spec_RunsOf_l2]
        refine Tot.bif (fun hb => ?_) (fun hb => Tot.ret ⟨by omega, ho⟩)
        simp only [decide_eq_true_eq] at hb
        refine Tot.eq (E_l1In _ _ _) ?_
        unfold m_spec_RunsOf_j2
        rw [decide_eq_true hz.1, decide_eq_true hz.2, Bool.and_self, cond_true]
        refine Tot.ck (by omega) (by omega) (Tot.eq (show m_spec_l9Many ((rs.length : Int) - t) z = some (if (rs.length : Int) - t < z then (rs.length : Int) - t else z) by
          unfold m_spec_l9Many
          by_cases hq : (rs.length : Int) - t < z
          · rw [decide_eq_true hq, if_pos hq]; rfl
          · rw [decide_eq_false hq, if_neg hq]; rfl) ?_)
        have hq : 1 ≤ (if (rs.length : Int) - t < z then (rs.length : Int) - t else z) ∧ t + (if (rs.length : Int) - t < z then (rs.length : Int) - t else z) ≤ rs.length := by split <;> omega
        generalize (if (rs.length : Int) - t < z then (rs.length : Int) - t else z) = q at hq
        have hrl := h.1
        refine Tot.ck (by omega) (by omega) (Tot.cut (by omega) ?_)
        have hcut : rsDr 18 ((rs.take (t + q).toNat).drop t.toNat) := ⟨by simp; omega, fun r hr => h.2 r (List.mem_of_mem_take (List.mem_of_mem_drop hr))⟩
        obtain ⟨g1, g2, g3⟩ := E_spec_RowsSorted (rsDr_sm hcut (by omega))
        refine Tot.eq g1 (Tot.app (by simp; omega) (Tot.ck (by omega) (by omega) (ih n (t + z) _ (by omega) (by omega) (by omega) (by omega) (by simp; omega) ?_)))
        intro r hr
        rcases List.mem_append.1 hr with hr | hr
        · exact ho r hr
        · rw [List.mem_singleton.1 hr]
          exact ⟨by rw [g2]; exact hcut.1, fun x hx => hcut.2 x ((sortR_mem _ _).1 hx)⟩
    have hrl := h.1
    exact key 18 1000000000 0 [] (by omega) (by omega) (by omega) (by omega) (by simp) (by simp)
  · rw [m_spec_RunsOf_l1, decide_eq_true ht, cond_true]
    refine Tot.at h0 ht (fun x hx => Tot.eq (E_spec_RowOk (hs.2 x hx)) (Tot.bif (fun _ => Tot.ret ⟨by simp, by simp⟩) (fun _ => ?_)))
    have hrl := h.1
    exact Tot.ck (by omega) (by omega) (ih () trivial)
theorem T_DrawRunsMerged {l : List UInt8} : Tot (m_spec_DrawRunsMerged l) fun r => runsDr 19 19 r := by
  unfold m_spec_DrawRunsMerged
  refine Tot.bind T_l20Open fun r hr => Tot.bind (T_l20Much (by omega) (by omega)) fun m hm => Tot.bind (T_pick (by omega)) fun p hp => Tot.ck (by omega) (by omega) (Tot.bind (T_RunsOf hm.1 (by omega)) fun runs hruns => ?_)
  have j2 : ∀ (o : Rd) (rs : List Rows), 0 ≤ o.p → o.p ≤ 1000000 → rs.length ≤ 18 → (∀ r ∈ rs, rsDr 19 r) → Tot (m_spec_DrawRunsMerged_j2 o rs) fun r => runsDr 19 19 r := by
    intro o rs h0 h1 h2 h3
    unfold m_spec_DrawRunsMerged_j2
    refine Tot.bind (T_pick (by omega)) fun q hq => Tot.bif (fun _ => Tot.app (by simp; omega) (Tot.ret ⟨by simp; omega, fun r hr => ?_⟩)) (fun _ => Tot.ret ⟨by omega, h3⟩)
    rcases List.mem_append.1 hr with hr | hr
    · exact h3 r hr
    · rw [List.mem_singleton.1 hr]; exact ⟨by simp, by simp⟩
  have up : ∀ r ∈ runs, rsDr 19 r := fun r hr => ⟨by have := (hruns.2 r hr).1; omega, (hruns.2 r hr).2⟩
  have j1 : ∀ (b : Bool) (o : Rd), (b = true → 0 < runs.length) → 0 ≤ o.p → o.p ≤ 100000 → Tot (m_spec_DrawRunsMerged_j1 b o runs) fun r => runsDr 19 19 r := by
    intro b o hb h0 h1
    unfold m_spec_DrawRunsMerged_j1
    refine Tot.bif (fun hb' => ?_) (fun _ => j2 _ _ h0 (by omega) hruns.1 up)
    have hpos := hb hb'
    refine Tot.bind (T_pick (by omega)) fun q hq => ?_
    refine Tot.at (by omega) (by omega) fun _ _ => Tot.at (by omega) (by omega) fun run hrun => ?_
    have hrd := hruns.2 run hrun
    refine Tot.app (by have := hrd.1; simp; omega) ?_
    unfold m_spec_l20Small
    refine Tot.bind (P := fun r => rDr r.1 ∧ r.2.p = q.2.p + 1) (Tot.bind (T_pick (by omega)) fun s hs => Tot.ret ⟨⟨by simp, fun v hv => by
      rw [List.mem_singleton.1 hv]; exact ⟨by show (0 : Nat) ≤ 20; omega, by show (-10000 : Int) ≤ s.1; omega, by show s.1 ≤ (10000 : Int); omega, by show (-10 : Int) ≤ 1; omega, by show (1 : Int) ≤ 10; omega⟩⟩, hs.2.2⟩) fun x hx => ?_
    refine Tot.app (by have := hrd.1; simp; omega) (Tot.at (by omega) (by omega) fun _ _ => Tot.at (by omega) (by omega) fun _ _ => Tot.lt (j2 _ _ (by omega) (by omega) (by simpa using hruns.1) ?_))
    intro r hr
    rcases List.mem_or_eq_of_mem_set hr with hr | rfl
    · exact up r hr
    · refine ⟨by have := hrd.1; simp; omega, fun y hy => ?_⟩
      rcases List.mem_append.1 hy with hy | hy
      · exact hrd.2 y (by simpa using hy)
      · rw [List.mem_singleton.1 hy]; exact hx.1
  refine Tot.bif (fun hb => ?_) (fun _ => j1 _ _ (fun h => by cases h) (by omega) (by omega))
  simp only [gt_iff_lt, decide_eq_true_eq] at hb
  exact Tot.bind (T_pick (by omega)) fun q hq => j1 _ _ (fun _ => by omega) (by omega) (by omega)
theorem runsDr_sm {n m : Nat} {runs : List Rows} (h : runsDr n m runs) (hn : n ≤ 100) (hm : m ≤ 100) : runsSm runs := by
  refine ⟨by have := h.1; omega, ?_, fun r hr => rsDr_sm (h.2 r hr) (by omega)⟩
  have key : ∀ (l : List Rows), (∀ r ∈ l, r.length ≤ m) → l.flatten.length ≤ l.length * m := by
    intro l
    induction l with
    | nil => intro _; simp
    | cons a l ih =>
      intro hl
      have h1 := ih fun r hr => hl r (by simp [hr])
      have h2 := hl a (by simp)
      rw [List.flatten_cons, List.length_append, List.length_cons, Nat.succ_mul]
      omega
  have := key runs fun r hr => (h.2 r hr).1
  unfold total
  refine Nat.le_trans this (Nat.le_trans (Nat.mul_le_mul (Nat.le_trans h.1 hn) hm) (by decide))

/-- No neighbours of a run are in the wrong order. -/
def noBad (run : Rows) : Prop := ∀ i x y, run[i]? = some x → run[i + 1]? = some y → rrOrd x y ≤ 0
theorem law_inner {k1 : List Rows → Rows → Rows → Int → Option Bool} {runs : List Rows} {run rows all : Rows} {t : Nat} (hr : runs[t]? = some run) (hs : rsSm run) (hrows : (¬ noBad run) → rows = []) : ∀ (d j n : Nat), j + 1 + d = run.length → d < n → (∀ i x y, i < j → run[i]? = some x → run[i + 1]? = some y → rrOrd x y ≤ 0) →
    m_laws_FnRunsMerged_l2 k1 n runs rows all (t : Int) ((j + 1 : Nat) : Int) = some true ∨ (noBad run ∧ m_laws_FnRunsMerged_l2 k1 n runs rows all (t : Int) ((j + 1 : Nat) : Int) = m_laws_FnRunsMerged_j2 k1 runs rows all (t : Int)) := by
  have hl := hs.1
  intro d
  induction d with
  | zero =>
    intro j n hj hn hpre
    obtain ⟨n, rfl⟩ : ∃ q, n = q + 1 := ⟨n - 1, by omega⟩
    refine .inr ⟨fun i x y hx hy => hpre i x y (by have := lt_of_at hy; omega) hx hy, ?_⟩
    rw [m_laws_FnRunsMerged_l2, show j + 1 = run.length by omega, at_of hr, Option.bind_some, dnlt, cond_false]
  | succ d ih =>
    intro j n hj hn hpre
    obtain ⟨n, rfl⟩ : ∃ q, n = q + 1 := ⟨n - 1, by omega⟩
    have hx : run[j]? = some run[j] := List.getElem?_eq_getElem (by omega)
    have hy : run[j + 1]? = some run[j + 1] := List.getElem?_eq_getElem (by omega)
    rw [m_laws_FnRunsMerged_l2, at_of hr, Option.bind_some, dlt (show j + 1 < run.length by omega), cond_true, Option.bind_some, ckdd (show j < 1000000000000 by omega), Option.bind_some, at_of hx, Option.bind_some, Option.bind_some, at_of hy, Option.bind_some, E_impl_RowOrder (hs.2 _ (List.mem_of_getElem? hx)) (hs.2 _ (List.mem_of_getElem? hy)), Option.bind_some]
    by_cases hb : rrOrd run[j] run[j + 1] > 0
    · rw [decide_eq_true hb, cond_true]
      have hre : rows = [] := hrows fun h => by have := h j _ _ hx hy; omega
      subst hre
      left
      rw [E_alive]; rfl
    · rw [decide_eq_false hb, cond_false, ck1 (show j + 1 < 1000000000000 by omega), Option.bind_some, show (((j + 1 : Nat) : Int) + 1) = ((j + 1 + 1 : Nat) : Int) by omega]
      refine ih (j + 1) n (by omega) (by omega) fun i x y hi ha hc => ?_
      rcases Nat.lt_or_ge i j with h3 | h3
      · exact hpre i x y h3 ha hc
      · obtain rfl : i = j := by omega
        rw [hx] at ha; rw [hy] at hc; cases ha; cases hc; omega
theorem pure_FnRunsMerged (l : List UInt8) : m_laws_FnRunsMerged l = some true := by
  unfold m_laws_FnRunsMerged
  cases hlen : decide ((l.length : Int) > 1048576)
  · rw [cond_false]
    obtain ⟨runs, hd, hruns⟩ := T_DrawRunsMerged (l := l)
    have sm := runsDr_sm hruns (by omega) (by omega)
    rw [hd, Option.bind_some, E_impl_RunsMerged sm, Option.bind_some, E_spec_RunsMerged sm, Option.bind_some]
    have hml : (merged runs).length ≤ 10000 := Nat.le_trans merged_len sm.2.1
    have hms : ∀ r ∈ merged runs, rSm r := fun r hr => runsSm_flat sm r (merged_mem r hr)
    rw [E_sameRows (by omega) (fun r hr => by have := (hms r hr).1; omega), Option.bind_some, decide_eq_true rfl, Bool.not_true, cond_false]
    have key : ∀ (d k n : Nat), k + d = runs.length → d < n → (∀ run ∈ runs.take k, noBad run) → m_laws_FnRunsMerged_l1 n runs (merged runs) (runs.take k).flatten (k : Int) = some true := by
      intro d
      induction d with
      | zero =>
        intro k n hk hn hpre
        obtain ⟨n, rfl⟩ : ∃ q, n = q + 1 := ⟨n - 1, by omega⟩
        obtain rfl : k = runs.length := by omega
        rw [m_laws_FnRunsMerged_l1, dnlt, cond_false]
        rw [List.take_length] at hpre ⊢
        have hfs : rsSm runs.flatten := ⟨by have := sm.2.1; unfold total at this; omega, runsSm_flat sm⟩
        unfold m_laws_FnRunsMerged_j4 m_laws_FnRunsMerged_j5
        rw [E_allRows hfs, Option.bind_some, E_alive]
        cases hok : runs.flatten.all rowOk with
        | false => rfl
        | true =>
          have hoka := List.all_eq_true.1 hok
          have hin : runs.all inOk = true := by
            rw [List.all_eq_true]
            intro run hrun
            have hro : ∀ r ∈ run, rowOk r = true := fun r hr => hoka r (List.mem_flatten.2 ⟨run, hrun, hr⟩)
            unfold inOk
            rw [Bool.and_eq_true, List.all_eq_true, adjB_iff]
            refine ⟨hro, fun i x y hx hy => ?_⟩
            exact (rr_le (hro x (List.mem_of_getElem? hx)) (hro y (List.mem_of_getElem? hy))).1 (hpre run hrun i x y hx hy)
          obtain ⟨m1, m2⟩ := merged_ok hin
          have he : merged runs = sortR runs.flatten := by
            refine List.Perm.eq_of_pairwise (le := fun a b => rOrd a b ≤ 0) ?_ m2 (sortR_ord hoka) (m1.trans (sortR_perm _).symm)
            intro x y _ _ h1 h2
            exact TO_row.le_antisymm h1 h2
          rw [Bool.not_true, cond_false, E_impl_RowsSorted hfs, Option.bind_some, E_sameRows (by omega) (fun r hr => by have := (hms r hr).1; omega), Option.bind_some, decide_eq_true he]
          rfl
      | succ d ih =>
        intro k n hk hn hpre
        obtain ⟨n, rfl⟩ : ∃ q, n = q + 1 := ⟨n - 1, by omega⟩
        have hlt : k < runs.length := by omega
        have hx : runs[k]? = some runs[k] := List.getElem?_eq_getElem hlt
        have hxs := sm.2.2 _ (List.mem_of_getElem? hx)
        rw [m_laws_FnRunsMerged_l1, dlt hlt, cond_true]
        have hrows : (¬ noBad runs[k]) → merged runs = [] := by
          intro hb
          unfold merged
          rw [if_neg]
          intro hall
          refine hb fun i x y ha hc => ?_
          have h1 := List.all_eq_true.1 hall _ (List.mem_of_getElem? hx)
          have h2 := runFrom_0.2 h1
          exact (h2 (i + 1) y (by omega) hc).2 x (by omega) ha
        have nxt : noBad runs[k] → m_laws_FnRunsMerged_j2 (m_laws_FnRunsMerged_l1 n) runs (merged runs) (runs.take k).flatten (k : Int) = some true := by
          intro hnb
          have hb2 : (runs.take k).flatten.length ≤ 10000 := by
            refine Nat.le_trans ?_ sm.2.1
            unfold total
            conv => rhs; rw [← List.take_append_drop k runs]
            rw [List.flatten_append, List.length_append]
            omega
          unfold m_laws_FnRunsMerged_j2 m_laws_FnRunsMerged_j3
          rw [at_of hx, Option.bind_some, E_joined (by omega) (by have := hxs.1; omega), Option.bind_some, ck1 (by have := sm.1; omega), Option.bind_some]
          have e : (runs.take k).flatten ++ runs[k] = (runs.take (k + 1)).flatten := by rw [List.take_succ_eq_append_getElem hlt, List.flatten_append, List.flatten_singleton]
          rw [e, show ((k : Int) + 1) = ((k + 1 : Nat) : Int) by omega]
          refine ih (k + 1) n (by omega) (by omega) fun run hrun => ?_
          rw [List.take_succ_eq_append_getElem hlt, List.mem_append] at hrun
          rcases hrun with hrun | hrun
          · exact hpre run hrun
          · rw [List.mem_singleton.1 hrun]; exact hnb
        rcases Nat.eq_zero_or_pos runs[k].length with h0 | h0
        · have hz : m_laws_FnRunsMerged_l2 (m_laws_FnRunsMerged_l1 n) 1000000000 runs (merged runs) (runs.take k).flatten (k : Int) 1 = m_laws_FnRunsMerged_j2 (m_laws_FnRunsMerged_l1 n) runs (merged runs) (runs.take k).flatten (k : Int) := by
            obtain ⟨q, hq⟩ : ∃ q, 1000000000 = q + 1 := ⟨999999999, rfl⟩
            rw [hq, m_laws_FnRunsMerged_l2, at_of hx, Option.bind_some, h0, show decide ((1 : Int) < ((0 : Nat) : Int)) = false from rfl, cond_false]
          rw [hz]
          exact nxt fun i x y ha hc => by have := lt_of_at hc; omega
        · have hxl := hxs.1
          rcases law_inner (k1 := m_laws_FnRunsMerged_l1 n) (all := (runs.take k).flatten) hx hxs hrows (runs[k].length - 1) 0 1000000000 (by omega) (by omega) (by intro i x y hi; omega) with h1 | ⟨h1, h2⟩
          · exact h1
          · rw [show (1 : Int) = ((0 + 1 : Nat) : Int) from rfl, h2]
            exact nxt h1
    exact key runs.length 0 _ (by omega) (by omega) (by simp)
  · rfl
end Go.Proofs.Ytemfdnnhknepbaa
