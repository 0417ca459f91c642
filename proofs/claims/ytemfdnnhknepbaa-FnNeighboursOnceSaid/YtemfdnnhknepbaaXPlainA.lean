/- What the mirrors come to, in plain Lean: the law itself at the end. -/
import Derived.Test.YtemfdnnhknepbaaXW4
import Derived.Test.YtemfdnnhknepbaaLd
set_option linter.unusedVariables false
set_option linter.unusedSimpArgs false
set_option linter.unnecessarySimpa false
namespace Go.Proofs.Ytemfdnnhknepbaa
open Go.Proofs Go.Lift
abbrev V := S_impl_Value
abbrev Row := List V
abbrev Rows := List Row

def cmpI (a b : Int) : Int := if a < b then -1 else if b < a then 1 else 0
def cmpS (a b : ByteArray) : Int := if sLt a b then -1 else if sLt a b || sEq a b then 0 else 1
def orI (l : List Int) : Int := (l.find? (· != 0)).getD 0
def lower (l : List UInt8) : Bool := l.all fun b => decide (97 ≤ b.toNat) && decide (b.toNat ≤ 122)
/-- A value is one. -/
def vOk (v : V) : Bool :=
  if v.Kind = 0 then decide (v = ⟨0, 0, ⟨#[]⟩⟩)
  else if v.Kind = 1 then decide (v.S = ⟨#[]⟩) && (decide (-9999 ≤ v.N) && decide (v.N ≤ 9999))
  else if v.Kind = 2 then decide (v.N = 0) && decide (v.S.size ≤ 6) && lower v.S.data.toList
  else if v.Kind = 3 then decide (v.S = ⟨#[]⟩) && (decide (0 ≤ v.N) && decide (v.N ≤ 1))
  else false
def vOrd (v w : V) : Int := orI [cmpI v.Kind w.Kind, cmpI v.N w.N, cmpS v.S w.S]
def rowMany (rs : Rows) (r : Row) : Nat := rs.countP fun x => decide (x = r)
def rowOk (l : Row) : Bool := decide (l.length ≤ 4) && l.all vOk
/-- As memory holds it with ease. -/
def vSm (v : V) : Prop := v.S.size ≤ 1000
def rSm (l : Row) : Prop := l.length ≤ 1000 ∧ ∀ v ∈ l, vSm v
def rsSm (l : Rows) : Prop := l.length ≤ 100000 ∧ ∀ r ∈ l, rSm r
def cmpL {α : Type} (p : α → α → Int) : List α → List α → Int
  | [], [] => 0
  | [], _ :: _ => -1
  | _ :: _, [] => 1
  | a :: x, b :: y => if p a b = 0 then cmpL p x y else p a b
def vvOrd (a b : V) : Int := if vOk a && vOk b then vOrd a b else 0
def rOrd (a b : Row) : Int := orI [cmpL vOrd a b, cmpI a.length b.length]
def rrOrd (a b : Row) : Int := if rowOk a && rowOk b then rOrd a b else 0

theorem E_Equal {a b : Row} (ha : a.length ≤ 1000000) : m_slices_Equal_Limpl_Value_impl_Value a b = some (decide (a = b)) := by
  unfold m_slices_Equal_Limpl_Value_impl_Value
  by_cases h : a.length = b.length
  · have hc : ((a.length : Int) != (b.length : Int)) = false := by simp [h]
    rw [hc, cond_false, ← all2_eq h]
    refine scan2 a b h (fun n k => m_slices_Equal_Limpl_Value_impl_Value_l1 n a b (a.length : Int) k) (fun n k x y hx hy => ?_) (fun n => ?_) _ (by omega)
    · have := lt_of_at hx
      simp only [m_slices_Equal_Limpl_Value_impl_Value_l1, dlt this, at_of hx, at_of hy, ck1 (show k < 1000000000000 by omega), Option.bind_some, cond_true]
      cases decide (x = y) <;> rfl
    · simp only [m_slices_Equal_Limpl_Value_impl_Value_l1, dnlt]; rfl
  · have hc : ((a.length : Int) != (b.length : Int)) = true := by simp; omega
    rw [hc, cond_true]
    have : a ≠ b := fun e => h (by rw [e])
    simp [this]
theorem E_l3Same {a b : Row} (ha : a.length ≤ 1000000) : m_spec_l3Same a b = some (decide (a = b)) := by
  unfold m_spec_l3Same
  by_cases h : a.length = b.length
  · have hc : ((a.length : Int) != (b.length : Int)) = false := by simp [h]
    rw [hc, cond_false, ← all2_eq h]
    refine scan2 a b h (fun n k => m_spec_l3Same_l1 n a b k) (fun n k x y hx hy => ?_) (fun n => ?_) _ (by omega)
    · have := lt_of_at hx
      simp only [m_spec_l3Same_l1, dlt this, at_of hx, at_of hy, ck1 (show k < 1000000000000 by omega), Option.bind_some, cond_true]
      cases decide (x = y) <;> rfl
    · simp only [m_spec_l3Same_l1, dnlt]; rfl
  · have hc : ((a.length : Int) != (b.length : Int)) = true := by simp; omega
    rw [hc, cond_true]
    have : a ≠ b := fun e => h (by rw [e])
    simp [this]
theorem E_sameRow {a b : Row} (ha : a.length ≤ 1000000) : m_laws_sameRow a b = some (decide (a = b)) := by
  unfold m_laws_sameRow
  by_cases h : a.length = b.length
  · have hc : ((a.length : Int) != (b.length : Int)) = false := by simp [h]
    rw [hc, cond_false, ← all2_eq h]
    refine scan2 a b h (fun n k => m_laws_sameRow_l1 n a b k) (fun n k x y hx hy => ?_) (fun n => ?_) _ (by omega)
    · have := lt_of_at hx
      simp only [m_laws_sameRow_l1, dlt this, at_of hx, at_of hy, ck1 (show k < 1000000000000 by omega), Option.bind_some, cond_true]
      cases decide (x = y) <;> rfl
    · simp only [m_laws_sameRow_l1, dnlt]; rfl
  · have hc : ((a.length : Int) != (b.length : Int)) = true := by simp; omega
    rw [hc, cond_true]
    have : a ≠ b := fun e => h (by rw [e])
    simp [this]
theorem E_sameRows {a b : Rows} (ha : a.length ≤ 1000000) (hr : ∀ r ∈ a, r.length ≤ 1000000) : m_laws_sameRows a b = some (decide (a = b)) := by
  unfold m_laws_sameRows
  by_cases h : a.length = b.length
  · have hc : ((a.length : Int) != (b.length : Int)) = false := by simp [h]
    rw [hc, cond_false, ← all2_eq h]
    refine scan2 a b h (fun n k => m_laws_sameRows_l1 n a b k) (fun n k x y hx hy => ?_) (fun n => ?_) _ (by omega)
    · have := lt_of_at hx
      simp only [m_laws_sameRows_l1, dlt this, at_of hx, at_of hy, ck1 (show k < 1000000000000 by omega), Option.bind_some, cond_true, E_sameRow (hr x (List.mem_of_getElem? hx))]
      cases decide (x = y) <;> rfl
    · simp only [m_laws_sameRows_l1, dnlt]; rfl
  · have hc : ((a.length : Int) != (b.length : Int)) = true := by simp; omega
    rw [hc, cond_true]
    have : a ≠ b := fun e => h (by rw [e])
    simp [this]
theorem E_impl_RowMany {rs : Rows} {r : Row} (h : rs.length ≤ 1000000) (hr : ∀ x ∈ rs, x.length ≤ 1000000) : m_impl_RowMany rs r = some (rowMany rs r : Int) := by
  unfold m_impl_RowMany rowMany
  refine scanN (p := fun x => decide (x = r)) (J := fun s => some s) rs (fun n k s => m_impl_RowMany_l1 n r s rs (rs.length : Int) k) (fun n k x s hx h0 h1 => ?_) (fun n s => ?_) _ (by omega)
  · have := lt_of_at hx
    rw [m_impl_RowMany_l1, dlt this, cond_true, at_of hx, Option.bind_some, E_Equal (hr x (List.mem_of_getElem? hx)), Option.bind_some]
    simp only [m_impl_RowMany_j1]
    rw [ckI_of (by omega) (by omega), ck1 (show k < 1000000000000 by omega)]
    cases decide (x = r) <;> rfl
  · simp only [m_impl_RowMany_l1, dnlt]; rfl
theorem E_IndexFunc_V {l : Row} {p : V → Option Bool} {q : V → Bool} (hl : l.length ≤ 1000000) (hp : ∀ v ∈ l, p v = some (q v)) : m_slices_ContainsFunc_Limpl_Value_impl_Value l p = some (l.any q) := by
  unfold m_slices_ContainsFunc_Limpl_Value_impl_Value m_slices_IndexFunc_Limpl_Value_impl_Value
  have key : ∀ (ys : Row) (k n : Nat), l.drop k = ys → k ≤ l.length → ys.length < n → ∃ i : Int, m_slices_IndexFunc_Limpl_Value_impl_Value_l1 p n l (l.length : Int) (k : Int) = some i ∧ decide (i ≥ 0) = ys.any q := by
    intro ys
    induction ys with
    | nil =>
      intro k n hd hk hn
      have : k = l.length := by
        have := congrArg List.length hd
        simp at this; omega
      subst this
      obtain ⟨m, rfl⟩ : ∃ m, n = m + 1 := ⟨n - 1, by simp at hn; omega⟩
      exact ⟨-1, by simp only [m_slices_IndexFunc_Limpl_Value_impl_Value_l1, dnlt]; rfl, rfl⟩
    | cons y ys ih =>
      intro k n hd hk hn
      have hlt : k < l.length := by
        have := congrArg List.length hd
        simp at this; omega
      have hc := List.drop_eq_getElem_cons hlt
      rw [hd] at hc
      simp only [List.cons.injEq] at hc
      have hx : l[k]? = some y := by rw [List.getElem?_eq_getElem hlt, hc.1]
      obtain ⟨m, rfl⟩ : ∃ m, n = m + 1 := ⟨n - 1, by simp at hn; omega⟩
      simp only [m_slices_IndexFunc_Limpl_Value_impl_Value_l1, dlt hlt, at_of hx, hp y (List.mem_of_getElem? hx), ck1 (show k < 1000000000000 by omega), Option.bind_some, cond_true]
      cases hq : q y
      · obtain ⟨i, h1, h2⟩ := ih (k + 1) m hc.2.symm (by omega) (by simp at hn; omega)
        exact ⟨i, by simpa using h1, by rw [h2]; simp [hq]⟩
      · exact ⟨(k : Int), rfl, by simp [hq]⟩
  obtain ⟨i, h1, h2⟩ := key l 0 _ rfl (by omega) (show l.length < (((l.length : Int) - 0).toNat + 1) by omega)
  rw [show ((0 : Nat) : Int) = 0 from rfl] at h1
  rw [h1]
  simp only [Option.bind_some, h2]
theorem E_between (a b c : Int) : m_impl_between a b c = some (decide (b ≤ a) && decide (a ≤ c)) := by
  unfold m_impl_between m_impl_between_j1
  by_cases h : a ≥ b <;> simp [h]
theorem E_l1In (a b c : Int) : m_spec_l1In a b c = some (decide (b ≤ a) && decide (a ≤ c)) := by
  unfold m_spec_l1In m_spec_l1In_j1
  by_cases h : a ≥ b <;> simp [h]
theorem lower_any (l : List UInt8) : lower l = !(l.any fun b => !(decide (97 ≤ (b.toNat : Int)) && decide ((b.toNat : Int) ≤ 122))) := by
  unfold lower
  rw [List.all_eq_not_any_not]
  congr 2
  funext b
  congr 1
  have h1 : decide (97 ≤ b.toNat) = decide (97 ≤ (b.toNat : Int)) := by rw [decide_eq_decide]; omega
  have h2 : decide (b.toNat ≤ 122) = decide ((b.toNat : Int) ≤ 122) := by rw [decide_eq_decide]; omega
  rw [h1, h2]
theorem E_letters {s : ByteArray} (h : s.size ≤ 1000000) : m_impl_letters s = some (lower s.data.toList) := by
  unfold m_impl_letters sBytes?
  rw [if_pos (by omega)]
  simp only [Option.bind_some]
  have hl : s.data.toList.length ≤ 1000000 := h
  have := scanA (p := fun b : UInt8 => !(decide (97 ≤ (b.toNat : Int)) && decide ((b.toNat : Int) ≤ 122))) (r0 := false) (r1 := true) s.data.toList (fun n k => m_impl_letters_l1 n s.data.toList (s.data.toList.length : Int) k) (fun n k x hx => by
    have := lt_of_at hx
    simp only [m_impl_letters_l1, dlt this, at_of hx, E_between, ck1 (show k < 1000000000000 by omega), Option.bind_some, cond_true]) (fun n => by simp only [m_impl_letters_l1, dnlt]; rfl) _ fuel0
  rw [this, lower_any]
  cases s.data.toList.any fun b => !(decide (97 ≤ (b.toNat : Int)) && decide ((b.toNat : Int) ≤ 122)) <;> rfl
theorem sAt_of {s : ByteArray} {k : Nat} {x : UInt8} (h : s.data.toList[k]? = some x) : sAt? s (k : Int) = some x := by
  unfold sAt?
  rw [if_pos (by omega)]
  obtain ⟨h1, h2⟩ := List.getElem?_eq_some_iff.1 h
  have hs : k < s.size := by have := h1; rwa [Array.length_toList] at this
  have : s[k]? = some (s[k]'hs) := by simp [hs]
  rw [Int.toNat_natCast, this]
  congr 1
theorem E_l1Text {s : ByteArray} (h : s.size ≤ 1000000) : m_spec_l1Text s = some (lower s.data.toList && decide (s.size ≤ 6)) := by
  unfold m_spec_l1Text
  have hl : s.data.toList.length = s.size := rfl
  rw [← hl]
  have := scanA (p := fun b : UInt8 => !(decide (97 ≤ (b.toNat : Int)) && decide ((b.toNat : Int) ≤ 122))) (r0 := false) (r1 := decide ((s.size : Int) ≤ 6)) s.data.toList (fun n k => m_spec_l1Text_l1 n s k) (fun n k x hx => by
    have := lt_of_at hx
    have hd : decide ((k : Int) < (s.size : Int)) = true := by rw [← hl]; exact dlt this
    simp only [m_spec_l1Text_l1, m_spec_l1Text_j1, hd, sAt_of hx, ck1 (show k < 1000000000000 by omega), Option.bind_some, cond_true]
    have e1 : ((97 : UInt8).toNat : Int) = 97 := rfl
    have e2 : ((122 : UInt8).toNat : Int) = 122 := rfl
    rw [e1, e2]
    by_cases h1 : (x.toNat : Int) < 97
    · have : ¬ (97 ≤ (x.toNat : Int)) := by omega
      simp [h1, this]
    · have h1' : 97 ≤ (x.toNat : Int) := by omega
      by_cases h2 : (x.toNat : Int) > 122
      · have : ¬ ((x.toNat : Int) ≤ 122) := by omega
        simp [h1, h2, this]
      · have : (x.toNat : Int) ≤ 122 := by omega
        simp [h1, h2, this, h1']) (fun n => by simp only [m_spec_l1Text_l1, hl, dnlt]; rfl) _ fuel0
  rw [this, lower_any]
  have e : decide ((s.size : Int) ≤ 6) = decide (s.size ≤ 6) := by rw [decide_eq_decide]; omega
  rw [e]
  cases s.data.toList.any fun b => !(decide (97 ≤ (b.toNat : Int)) && decide ((b.toNat : Int) ≤ 122)) <;> simp
theorem E_Value_ok {v : V} (h : v.S.size ≤ 1000000) : m_impl_Value_ok v = some (vOk v) := by
  unfold m_impl_Value_ok m_impl_Value_ok_j1 m_impl_Value_ok_j2 m_impl_Value_ok_j3 vOk
  simp only [E_between, E_letters h, Option.bind_some, sEq_eq]
  by_cases h0 : v.Kind = 0
  · simp [h0]
  · by_cases h1 : v.Kind = 1
    · by_cases hs : v.S = ⟨#[]⟩ <;> simp [beqF h0, h0, h1, hs]
    · by_cases h2 : v.Kind = 2
      · by_cases hn : v.N = 0
        · by_cases hs : v.S.size ≤ 6
          · have : (v.S.size : Int) ≤ 6 := by omega
            simp [beqF h0, beqF h1, h0, h1, h2, hn, hs, this]
          · have : ¬ (v.S.size : Int) ≤ 6 := by omega
            simp [beqF h0, beqF h1, h0, h1, h2, hn, hs, this]
        · simp [beqF h0, beqF h1, h0, h1, h2, beqF hn, hn]
      · by_cases h3 : v.Kind = 3
        · by_cases hs : v.S = ⟨#[]⟩ <;> simp [beqF h0, beqF h1, beqF h2, h0, h1, h2, h3, hs]
        · simp [beqF h0, beqF h1, beqF h2, beqF h3, h0, h1, h2, h3]
theorem E_spec_ValueOk {v : V} (h : v.S.size ≤ 1000000) : m_spec_ValueOk v = some (vOk v) := by
  unfold m_spec_ValueOk m_spec_ValueOk_j1 m_spec_ValueOk_j2 m_spec_ValueOk_j3 m_spec_ValueOk_j4 vOk
  simp only [E_l1In, E_l1Text h, Option.bind_some, sEq_eq]
  obtain ⟨k, n, s⟩ := v
  simp only [S_impl_Value.mk.injEq]
  by_cases h0 : k = 0
  · by_cases hn : n = 0
    · simp [h0, hn]
    · simp [h0, hn, beqF hn]
  · by_cases h1 : k = 1
    · by_cases hs : s = ⟨#[]⟩ <;> by_cases ha : -9999 ≤ n <;> by_cases hb : n ≤ 9999 <;> simp [beqF h0, h0, h1, hs, ha, hb]
    · by_cases h2 : k = 2
      · by_cases hn : n = 0
        · simp [beqF h0, beqF h1, h0, h1, h2, hn, Bool.and_comm]
        · simp [beqF h0, beqF h1, h0, h1, h2, beqF hn, hn]
      · by_cases h3 : k = 3
        · by_cases hs : s = ⟨#[]⟩ <;> by_cases ha : 0 ≤ n <;> by_cases hb : n ≤ 1 <;> simp [beqF h0, beqF h1, beqF h2, h0, h1, h2, h3, hs, ha, hb]
        · simp [beqF h0, beqF h1, beqF h2, beqF h3, h0, h1, h2, h3]
theorem E_impl_RowOk {l : Row} (h : rSm l) : m_impl_RowOk l = some (rowOk l) := by
  unfold m_impl_RowOk m_impl_RowOk_j1 rowOk
  obtain ⟨h1, h2⟩ := h
  rw [E_IndexFunc_V (q := fun v => !(vOk v)) (by omega) (fun v hv => by unfold m_impl_RowOk_1; rw [E_Value_ok (by have := h2 v hv; unfold vSm at this; omega)]; rfl)]
  simp only [Option.bind_some]
  rw [List.all_eq_not_any_not]
  by_cases h : l.length ≤ 4
  · have : (l.length : Int) ≤ 4 := by omega
    simp [h, this]
  · have : ¬ (l.length : Int) ≤ 4 := by omega
    simp [h, this]
theorem E_spec_RowOk {l : Row} (h : rSm l) : m_spec_RowOk l = some (rowOk l) := by
  unfold m_spec_RowOk rowOk
  obtain ⟨h1, h2⟩ := h
  have := scanA (p := fun v => !(vOk v)) (r0 := false) (r1 := decide ((l.length : Int) ≤ 4)) l (fun n k => m_spec_RowOk_l1 n l k) (fun n k x hx => by
    have := lt_of_at hx
    have hsm := h2 x (List.mem_of_getElem? hx)
    unfold vSm at hsm
    simp only [m_spec_RowOk_l1, dlt this, at_of hx, E_spec_ValueOk (show x.S.size ≤ 1000000 by omega), ck1 (show k < 1000000000000 by omega), Option.bind_some, cond_true]) (fun n => by simp only [m_spec_RowOk_l1, dnlt]; rfl) _ fuel0
  rw [this, List.all_eq_not_any_not]
  have e : decide ((l.length : Int) ≤ 4) = decide (l.length ≤ 4) := by rw [decide_eq_decide]; omega
  rw [e]
  cases l.any fun v => !(vOk v) <;> simp
theorem E_allRows {l : Rows} (h : rsSm l) : m_laws_allRows l = some (l.all rowOk) := by
  unfold m_laws_allRows
  obtain ⟨h1, h2⟩ := h
  have := scanA (p := fun r => !(rowOk r)) (r0 := false) (r1 := true) l (fun n k => m_laws_allRows_l1 n l k) (fun n k x hx => by
    have := lt_of_at hx
    simp only [m_laws_allRows_l1, dlt this, at_of hx, E_impl_RowOk (h2 x (List.mem_of_getElem? hx)), ck1 (show k < 1000000000000 by omega), Option.bind_some, cond_true]) (fun n => by simp only [m_laws_allRows_l1, dnlt]; rfl) _ fuel0
  rw [this, List.all_eq_not_any_not]
  cases l.any fun v => !(rowOk v) <;> rfl
theorem E_alive : m_laws_alive = some true := by
  unfold m_laws_alive m_laws_alive_j1 m_impl_ValueOk
  rw [E_Value_ok (by decide), E_Value_ok (by decide)]
  rfl
theorem E_CompareI (a b : Int) : m_cmp_Compare_int a b = some (cmpI a b) := by
  unfold m_cmp_Compare_int m_cmp_isNaN_int cmpI
  have e : ∀ x : Int, (x != x) = false := fun x => by simp
  simp only [e, Option.bind_some, cond_false]
  by_cases h : a < b
  · simp [h]
  · by_cases h2 : a > b
    · simp [h, h2]
    · simp [h, h2]
theorem E_CompareS (a b : ByteArray) : m_cmp_Compare_string a b = some (cmpS a b) := by
  unfold m_cmp_Compare_string m_cmp_isNaN_string cmpS
  have e : ∀ x : ByteArray, (!(sEq x x)) = false := fun x => by simp [sEq_eq]
  simp only [e, Option.bind_some, cond_false]
  cases h1 : sLt a b <;> cases h2 : sEq a b <;> simp
theorem E_l1Cmp (a b : ByteArray) : m_spec_l1Cmp a b = some (cmpS a b) := by
  unfold m_spec_l1Cmp cmpS
  cases h1 : sLt a b <;> cases h2 : sEq a b <;> simp
theorem E_Or {l : List Int} (h : l.length ≤ 1000000) : m_cmp_Or_int l = some (orI l) := by
  unfold m_cmp_Or_int
  rw [scanC l (fun n k (_ : Unit) => m_cmp_Or_int_l1 n 0 l (l.length : Int) k) (fun x s k => bif (x != 0) then some x else k s) (fun _ => some 0) (fun n k x s hx => by
    have := lt_of_at hx
    rw [m_cmp_Or_int_l1, dlt this, cond_true, at_of hx, Option.bind_some, ck1 (show k < 1000000000000 by omega), Option.bind_some]) (fun n s => by rw [m_cmp_Or_int_l1, dnlt]; rfl) _ fuel0 ()]
  clear h
  unfold orI
  induction l with
  | nil => rfl
  | cons x l ih =>
    simp only [foldC, List.find?_cons]
    cases hx : (x != 0)
    · simpa using ih
    · rfl
theorem E_order (v w : V) : m_impl_Value_order v w = some (vOrd v w) := by
  unfold m_impl_Value_order vOrd
  rw [E_CompareI, Option.bind_some, E_CompareI, Option.bind_some, E_CompareS, Option.bind_some, E_Or (by simp)]
  rfl
theorem E_CompareFunc {a b : Row} {p : V → V → Option Int} {q : V → V → Int} (ha : a.length ≤ 1000000) (hp : ∀ v w, p v w = some (q v w)) : m_slices_CompareFunc_Limpl_Value_Limpl_Value_impl_Value_impl_Value a b p = some (cmpL q a b) := by
  unfold m_slices_CompareFunc_Limpl_Value_Limpl_Value_impl_Value_impl_Value
  have key : ∀ (ys : Row) (k n : Nat), a.drop k = ys → k ≤ a.length → k ≤ b.length → ys.length < n → m_slices_CompareFunc_Limpl_Value_Limpl_Value_impl_Value_impl_Value_l1 p n a b a (a.length : Int) (k : Int) = some (cmpL q ys (b.drop k)) := by
    intro ys
    induction ys with
    | nil =>
      intro k n hd hk hk2 hn
      have : k = a.length := by
        have := congrArg List.length hd
        simp at this; omega
      subst this
      obtain ⟨m, rfl⟩ : ∃ m, n = m + 1 := ⟨n - 1, by simp at hn; omega⟩
      rw [m_slices_CompareFunc_Limpl_Value_Limpl_Value_impl_Value_impl_Value_l1, dnlt, cond_false]
      unfold m_slices_CompareFunc_Limpl_Value_Limpl_Value_impl_Value_impl_Value_j1
      by_cases h : a.length < b.length
      · rw [List.drop_eq_getElem_cons h]
        have : (a.length : Int) < (b.length : Int) := by omega
        simp [this, cmpL]
      · rw [List.drop_eq_nil_of_le (by omega)]
        have : ¬ (a.length : Int) < (b.length : Int) := by omega
        simp [this, cmpL]
    | cons y ys ih =>
      intro k n hd hk hk2 hn
      have hlt : k < a.length := by
        have := congrArg List.length hd
        simp at this; omega
      have hc := List.drop_eq_getElem_cons hlt
      rw [hd] at hc
      simp only [List.cons.injEq] at hc
      have hx : a[k]? = some y := by rw [List.getElem?_eq_getElem hlt, hc.1]
      obtain ⟨m, rfl⟩ : ∃ m, n = m + 1 := ⟨n - 1, by simp at hn; omega⟩
      rw [m_slices_CompareFunc_Limpl_Value_Limpl_Value_impl_Value_impl_Value_l1, dlt hlt, cond_true, at_of hx, Option.bind_some]
      show (bif decide ((k : Int) ≥ (b.length : Int)) then _ else _) = _
      by_cases h : k < b.length
      · have hd2 : decide ((k : Int) ≥ (b.length : Int)) = false := by simp; omega
        have hb : b[k]? = some b[k] := by simp [h]
        rw [hd2, cond_false, at_of hb, Option.bind_some]
        show ((p y b[k]).bind _) = _
        rw [hp, Option.bind_some, ck1 (show k < 1000000000000 by omega), Option.bind_some, List.drop_eq_getElem_cons h]
        simp only [cmpL]
        have := ih (k + 1) m hc.2.symm (by omega) (by omega) (by simp at hn; omega)
        by_cases hq : q y b[k] = 0
        · rw [if_pos hq]
          have hq' : (q y b[k] != 0) = false := by simp [hq]
          rw [hq', cond_false]
          exact this
        · rw [if_neg hq, beqF' hq, cond_true]
      · have hd2 : decide ((k : Int) ≥ (b.length : Int)) = true := by simp; omega
        rw [hd2, cond_true, List.drop_eq_nil_of_le (by omega)]
        rfl
  have := key a 0 _ rfl (by omega) (by omega) (show a.length < (((a.length : Int) - 0).toNat + 1) by omega)
  simpa using this
theorem E_rowOrder {a b : Row} (ha : a.length ≤ 1000000) : m_impl_rowOrder a b = some (rOrd a b) := by
  unfold m_impl_rowOrder rOrd
  rw [E_CompareFunc ha (fun v w => E_order v w), Option.bind_some, E_CompareI, Option.bind_some, E_Or (by simp)]
  rfl
theorem E_impl_RowOrder {a b : Row} (ha : rSm a) (hb : rSm b) : m_impl_RowOrder a b = some (rrOrd a b) := by
  unfold m_impl_RowOrder m_impl_RowOrder_j1 rrOrd
  rw [E_impl_RowOk ha, Option.bind_some, E_impl_RowOk hb, Option.bind_some, E_rowOrder (by have := ha.1; omega)]
  cases rowOk a <;> cases rowOk b <;> rfl
def lessI (a b : Int) : Int := if a < b then 1 else 0
theorem E_Less (a b : Int) : m_spec_l1Less a b = some (lessI a b) := by
  unfold m_spec_l1Less lessI
  by_cases h : a < b <;> simp [h]
theorem less_b (a b : Int) : 0 ≤ lessI a b ∧ lessI a b ≤ 1 := by unfold lessI; split <;> omega
theorem orI_1 {x : Int} {l : List Int} (h : x ≠ 0) : orI (x :: l) = x := by simp [orI, h]
theorem orI_0 {l : List Int} : orI (0 :: l) = orI l := by simp [orI]
theorem cmpI_0 {a b : Int} : cmpI a b = 0 ↔ a = b := by unfold cmpI; split <;> (try split) <;> omega
theorem less_cmp {a b : Int} (h : a ≠ b) : 2 * lessI b a - 1 = cmpI a b := by unfold lessI cmpI; split <;> split <;> (try split) <;> omega
theorem E_ValueOrder {a b : V} (ha : vSm a) (hb : vSm b) : m_spec_ValueOrder a b = some (vvOrd a b) := by
  unfold m_spec_ValueOrder m_spec_ValueOrder_j1 vvOrd vOrd
  unfold vSm at ha hb
  rw [E_spec_ValueOk (by omega), Option.bind_some, E_spec_ValueOk (by omega), Option.bind_some]
  cases vOk a
  · rfl
  cases vOk b
  · rfl
  simp only [Bool.not_true, cond_false, Bool.and_self, if_true, E_Less, E_l1Cmp, Option.bind_some]
  by_cases h1 : a.Kind = b.Kind
  · have : (a.Kind != b.Kind) = false := by simp [h1]
    rw [this, cond_false, cmpI_0.2 h1, orI_0]
    by_cases h2 : a.N = b.N
    · have : (a.N != b.N) = false := by simp [h2]
      rw [this, cond_false, cmpI_0.2 h2, orI_0]
      by_cases h3 : cmpS a.S b.S = 0
      · rw [h3, orI_0]; rfl
      · rw [orI_1 h3]
    · rw [beqF' h2, cond_true, orI_1 (by rw [ne_eq, cmpI_0]; exact h2), ← less_cmp h2]
      have := less_b b.N a.N
      rw [ckI_of (by omega) (by omega), Option.bind_some, ckI_of (by omega) (by omega), Option.bind_some]
  · rw [beqF' h1, cond_true, orI_1 (by rw [ne_eq, cmpI_0]; exact h1), ← less_cmp h1]
    have := less_b b.Kind a.Kind
    rw [ckI_of (by omega) (by omega), Option.bind_some, ckI_of (by omega) (by omega), Option.bind_some]
theorem cmpL_0 {α : Type} {p : α → α → Int} : ∀ {a b : List α}, cmpL p a b = 0 → a.length = b.length
  | [], [], _ => rfl
  | [], _ :: _, h => by simp [cmpL] at h
  | _ :: _, [], h => by simp [cmpL] at h
  | x :: a, y :: b, h => by
    simp only [cmpL] at h
    split at h
    · simpa using cmpL_0 h
    · exact absurd h (by assumption)
theorem rOrd_cmpL (a b : Row) : rOrd a b = cmpL vOrd a b := by
  unfold rOrd
  by_cases h : cmpL vOrd a b = 0
  · have := cmpL_0 h
    simp [orI, h, cmpI, this]
  · simp [orI, h]
theorem E_spec_RowOrder {a b : Row} (ha : rSm a) (hb : rSm b) : m_spec_RowOrder a b = some (rrOrd a b) := by
  unfold m_spec_RowOrder m_spec_RowOrder_j1 rrOrd
  rw [E_spec_RowOk ha, Option.bind_some, E_spec_RowOk hb, Option.bind_some]
  cases hoa : rowOk a
  · rfl
  cases hob : rowOk b
  · rfl
  simp only [Bool.not_true, cond_false, Bool.and_self, if_true]
  obtain ⟨ha1, ha2⟩ := ha
  obtain ⟨hb1, hb2⟩ := hb
  unfold rowOk at hoa hob
  simp only [Bool.and_eq_true, List.all_eq_true] at hoa hob
  rw [rOrd_cmpL]
  have key : ∀ (ys : Row) (k n : Nat), a.drop k = ys → k ≤ a.length → k ≤ b.length → ys.length < n → m_spec_RowOrder_l1 n a b (k : Int) = some (cmpL vOrd ys (b.drop k)) := by
    intro ys
    induction ys with
    | nil =>
      intro k n hd hk hk2 hn
      have : k = a.length := by
        have := congrArg List.length hd
        simp at this; omega
      subst this
      obtain ⟨m, rfl⟩ : ∃ m, n = m + 1 := ⟨n - 1, by simp at hn; omega⟩
      rw [m_spec_RowOrder_l1, dnlt, cond_false]
      unfold m_spec_RowOrder_j2 m_spec_RowOrder_j3
      rw [cond_false, E_Less, Option.bind_some, E_Less, Option.bind_some]
      have := less_b b.length a.length
      have := less_b a.length b.length
      rw [ckI_of (by omega) (by omega), Option.bind_some]
      congr 1
      by_cases h : a.length < b.length
      · rw [List.drop_eq_getElem_cons h]
        unfold lessI
        rw [if_neg (by omega), if_pos (by omega)]; rfl
      · rw [List.drop_eq_nil_of_le (by omega)]
        unfold lessI
        rw [if_neg (by omega), if_neg (by omega)]; rfl
    | cons y ys ih =>
      intro k n hd hk hk2 hn
      have hlt : k < a.length := by
        have := congrArg List.length hd
        simp at this; omega
      have hc := List.drop_eq_getElem_cons hlt
      rw [hd] at hc
      simp only [List.cons.injEq] at hc
      have hx : a[k]? = some y := by rw [List.getElem?_eq_getElem hlt, hc.1]
      obtain ⟨m, rfl⟩ : ∃ m, n = m + 1 := ⟨n - 1, by simp at hn; omega⟩
      rw [m_spec_RowOrder_l1, dlt hlt, cond_true]
      unfold m_spec_RowOrder_j2
      by_cases h : k < b.length
      · have hb : b[k]? = some b[k] := by simp [h]
        rw [dlt h, cond_true, at_of hx, Option.bind_some, at_of hb, Option.bind_some, E_ValueOrder (ha2 y (List.mem_of_getElem? hx)) (hb2 _ (List.getElem_mem h)), Option.bind_some, ck1 (show k < 1000000000000 by omega), Option.bind_some, List.drop_eq_getElem_cons h]
        have hv : vvOrd y b[k] = vOrd y b[k] := by
          unfold vvOrd
          rw [hoa.2 y (List.mem_of_getElem? hx), hob.2 _ (List.getElem_mem h)]; rfl
        rw [hv]
        simp only [cmpL]
        have := ih (k + 1) m hc.2.symm (by omega) (by omega) (by simp at hn; omega)
        by_cases hq : vOrd y b[k] = 0
        · rw [if_pos hq]
          have hq' : (vOrd y b[k] != 0) = false := by simp [hq]
          rw [hq', cond_false]
          exact this
        · rw [if_neg hq, beqF' hq, cond_true]
      · have hd2 : decide ((k : Int) < (b.length : Int)) = false := by simp; omega
        have hkb : k = b.length := by omega
        unfold m_spec_RowOrder_j3
        rw [hd2, cond_false, E_Less, Option.bind_some, E_Less, Option.bind_some]
        have := less_b b.length a.length
        have := less_b a.length b.length
        rw [ckI_of (by omega) (by omega), Option.bind_some]
        congr 1
        rw [List.drop_eq_nil_of_le (by omega)]
        unfold lessI
        rw [if_pos (by omega), if_neg (by omega)]; rfl
  have := key a 0 1000000000 rfl (by omega) (by omega) (by omega)
  simpa using this
theorem E_clone {l : Row} (h : l.length ≤ 1000000) : m_impl_clone_impl_Value l = some l := by
  unfold m_impl_clone_impl_Value appN?
  cases l with
  | nil => rfl
  | cons x l =>
    have e : (((x :: l).length : Int) == 0) = false := by simp; omega
    rw [e, cond_false, if_pos ⟨by simp, by omega⟩, Option.bind_some]; rfl
theorem foldl_snoc {α : Type} : ∀ (l a : List α), l.foldl (fun s x => s ++ [x]) a = a ++ l
  | [], a => by simp
  | x :: l, a => by rw [List.foldl_cons, foldl_snoc l]; simp
theorem E_rowsCopy {l : Rows} (h : l.length ≤ 1000000) (hr : ∀ r ∈ l, r.length ≤ 1000000) : m_impl_rowsCopy l = some l := by
  unfold m_impl_rowsCopy
  have := (scanF (f := fun (s : Rows) x => s ++ [x]) (J := fun s => some s) (fun k s => s.length = k) l (fun n k s => m_impl_rowsCopy_l1 n l (l.length : Int) k s) (fun n k x s hx hI => by
    have := lt_of_at hx
    rw [m_impl_rowsCopy_l1, dlt this, cond_true, at_of hx, Option.bind_some, E_clone (hr x (List.mem_of_getElem? hx)), Option.bind_some, app_of (by simp; omega), Option.bind_some, ck1 (show k < 1000000000000 by omega), Option.bind_some]
    exact ⟨rfl, by simp [hI]⟩) (fun n s _ => by
      rw [m_impl_rowsCopy_l1, dnlt, cond_false]
      unfold m_impl_rowsCopy_j1
      rfl) _ fuel0 [] rfl).1
  rw [this, foldl_snoc]; rfl
theorem E_l3Own {l : Row} (h : l.length ≤ 1000000) : m_spec_l3Own l = some l := by
  unfold m_spec_l3Own
  rw [app_of (by simp; omega)]; rfl

/-- Where a row goes, looked for from the end. -/
def posN (out : Rows) (r : Row) : Nat → Nat
  | 0 => 0
  | n + 1 => if rrOrd (out.getD n []) r > 0 then posN out r n else n + 1
def insR (out : Rows) (r : Row) : Rows := out.take (posN out r out.length) ++ r :: out.drop (posN out r out.length)
/-- Rows put in order, one after the other. -/
def sortR (rs : Rows) : Rows := rs.foldl insR []
theorem posN_le (out : Rows) (r : Row) : ∀ n, posN out r n ≤ n
  | 0 => Nat.le_refl _
  | n + 1 => by
    simp only [posN]
    split
    · exact Nat.le_succ_of_le (posN_le out r n)
    · exact Nat.le_refl _
theorem insR_len (out : Rows) (r : Row) : (insR out r).length = out.length + 1 := by
  have := posN_le out r out.length
  unfold insR
  simp; omega
theorem insR_mem (out : Rows) (r x : Row) : x ∈ insR out r ↔ x = r ∨ x ∈ out := by
  unfold insR
  rw [List.mem_append, List.mem_cons]
  conv => rhs; rw [← List.take_append_drop (posN out r out.length) out, List.mem_append]
  constructor
  · rintro (h | h | h) <;> simp [h]
  · rintro (h | h | h) <;> simp [h]
theorem rsSm_insR {out : Rows} {r : Row} (h : ∀ x ∈ out, rSm x) (hr : rSm r) : ∀ x ∈ insR out r, rSm x := by
  intro x hx
  rcases (insR_mem _ _ _).1 hx with rfl | hx
  · exact hr
  · exact h x hx
theorem getD_at {out : Rows} {j : Nat} (h : j < out.length) : out[j]? = some (out.getD j []) := by simp [h]
theorem ckd {j : Nat} (h : j + 1 < 1000000000000) : ckI (((j + 1 : Nat) : Int) - 1) = some (j : Int) := by
  rw [ckI_of (by omega) (by omega)]; congr 1; omega

theorem impl_inner {k1 : Rows → Int → Int → Rows → Option Rows} {r : Row} {t7 : Rows} {t8 t9 : Int} {o : Rows} (hr : rSm r) (ho : ∀ x ∈ o, rSm x) (hl : o.length ≤ 1000000) : ∀ (j n : Nat), j ≤ o.length → j < n →
    m_impl_RowsSorted_l2 k1 n r (j : Int) t7 t8 t9 o = m_impl_RowsSorted_j2 k1 r (posN o r j : Int) t7 t8 t9 o := by
  intro j
  induction j with
  | zero =>
    intro n _ hn
    obtain ⟨m, rfl⟩ : ∃ m, n = m + 1 := ⟨n - 1, by omega⟩
    rw [m_impl_RowsSorted_l2, show decide (((0 : Nat) : Int) > 0) = false from rfl, cond_false]
    unfold m_impl_RowsSorted_j1
    rfl
  | succ j ih =>
    intro n hj hn
    obtain ⟨m, rfl⟩ : ∃ m, n = m + 1 := ⟨n - 1, by omega⟩
    have hd : decide (((j + 1 : Nat) : Int) > 0) = true := by rw [decide_eq_true_eq]; omega
    rw [m_impl_RowsSorted_l2, hd, cond_true, ckd (by omega), Option.bind_some, at_of (getD_at (by omega)), Option.bind_some, Option.bind_some,
      E_impl_RowOrder (ho _ (by rw [List.getD_eq_getElem?_getD, List.getElem?_eq_getElem (by omega)]; exact List.getElem_mem _)) hr, Option.bind_some]
    unfold m_impl_RowsSorted_j1
    simp only [posN]
    by_cases h : rrOrd (o.getD j []) r > 0
    · rw [if_pos h, decide_eq_true h, cond_true, ckd (by omega), Option.bind_some]
      exact ih m (by omega) (by omega)
    · rw [if_neg h, decide_eq_false h, cond_false]
theorem E_impl_RowsSorted {rs : Rows} (h : rsSm rs) : m_impl_RowsSorted rs = some (sortR rs) := by
  unfold m_impl_RowsSorted
  obtain ⟨h1, h2⟩ := h
  have hh := scanF (f := insR) (J := fun s => m_impl_RowsSorted_j4 s) (fun k s => s.length = k ∧ ∀ x ∈ s, rSm x) rs (fun n k s => m_impl_RowsSorted_l1 n rs (rs.length : Int) k s) (fun n k x s hx hI => by
    have hlt := lt_of_at hx
    obtain ⟨hI1, hI2⟩ := hI
    have hxs := h2 x (List.mem_of_getElem? hx)
    refine ⟨?_, by rw [insR_len, hI1], rsSm_insR hI2 hxs⟩
    have hp := posN_le s x s.length
    rw [m_impl_RowsSorted_l1, dlt hlt, cond_true, at_of hx, Option.bind_some, impl_inner hxs hI2 (by omega) s.length _ (Nat.le_refl _) (by omega)]
    unfold m_impl_RowsSorted_j2 m_slices_Insert_LLimpl_Value_Limpl_Value
    simp only
    rw [if_pos (by omega), Option.bind_some]
    unfold m_impl_RowsSorted_j3
    rw [ck1 (show k < 1000000000000 by omega), Option.bind_some, Int.toNat_natCast]
    rfl) (fun n s _ => by rw [m_impl_RowsSorted_l1, dnlt, cond_false]) _ fuel0 [] ⟨rfl, by simp⟩
  rw [hh.1]
  unfold m_impl_RowsSorted_j4
  have hi := hh.2
  rw [E_rowsCopy (by omega) (fun r hr => by have := (hi.2 r hr).1; omega)]
  rfl
theorem spec_inner {k1 : Rows → Int → Rows → Option Rows} {t0 : Rows} {t : Nat} {r : Row} {o : Rows} (ht : t0[t]? = some r) (hr : rSm r) (ho : ∀ x ∈ o, rSm x) (hl : o.length ≤ 1000000) : ∀ (j n : Nat), j ≤ o.length → j < n →
    m_spec_RowsSorted_l2 k1 n t0 (t : Int) (j : Int) o = m_spec_RowsSorted_j2 k1 t0 (t : Int) (posN o r j : Int) o := by
  intro j
  induction j with
  | zero =>
    intro n _ hn
    obtain ⟨m, rfl⟩ : ∃ m, n = m + 1 := ⟨n - 1, by omega⟩
    rw [m_spec_RowsSorted_l2, show decide (((0 : Nat) : Int) > 0) = false from rfl, cond_false]
    unfold m_spec_RowsSorted_j1
    rfl
  | succ j ih =>
    intro n hj hn
    obtain ⟨m, rfl⟩ : ∃ m, n = m + 1 := ⟨n - 1, by omega⟩
    have hd : decide (((j + 1 : Nat) : Int) > 0) = true := by rw [decide_eq_true_eq]; omega
    rw [m_spec_RowsSorted_l2, hd, cond_true, ckd (by omega), Option.bind_some, at_of (getD_at (by omega)), Option.bind_some, Option.bind_some, at_of ht, Option.bind_some,
      E_spec_RowOrder (ho _ (by rw [List.getD_eq_getElem?_getD, List.getElem?_eq_getElem (by omega)]; exact List.getElem_mem _)) hr, Option.bind_some]
    unfold m_spec_RowsSorted_j1
    simp only [posN]
    by_cases h : rrOrd (o.getD j []) r > 0
    · rw [if_pos h, decide_eq_true h, cond_true, ckd (by omega), Option.bind_some]
      exact ih m (by omega) (by omega)
    · rw [if_neg h, decide_eq_false h, cond_false]
theorem cut_of {α : Type} {l : List α} {lo hi : Nat} (h : lo ≤ hi) (h2 : hi ≤ l.length) : cut? l (lo : Int) (hi : Int) = some ((l.take hi).drop lo) := by
  unfold cut?
  rw [if_pos (by omega)]
  simp
theorem E_spec_RowsSorted {rs : Rows} (h : rsSm rs) : m_spec_RowsSorted rs = some (sortR rs) ∧ (sortR rs).length = rs.length ∧ ∀ r ∈ sortR rs, rSm r := by
  unfold m_spec_RowsSorted
  obtain ⟨h1, h2⟩ := h
  have hh := scanF (f := insR) (J := fun s => some s) (fun k s => s.length = k ∧ ∀ x ∈ s, rSm x) rs (fun n k s => m_spec_RowsSorted_l1 n rs k s) (fun n k x s hx hI => by
    have hlt := lt_of_at hx
    obtain ⟨hI1, hI2⟩ := hI
    have hxs := h2 x (List.mem_of_getElem? hx)
    refine ⟨?_, by rw [insR_len, hI1], rsSm_insR hI2 hxs⟩
    have hp := posN_le s x s.length
    rw [m_spec_RowsSorted_l1, dlt hlt, cond_true, spec_inner hx hxs hI2 (by omega) s.length _ (Nat.le_refl _) (by omega)]
    unfold m_spec_RowsSorted_j2
    have hxl := hxs.1
    rw [show (0 : Int) = ((0 : Nat) : Int) from rfl, cut_of (Nat.zero_le _) hp, Option.bind_some, app_of (by simp; omega), Option.bind_some, at_of hx, Option.bind_some, E_l3Own (by omega), Option.bind_some, app_of (by simp; omega), Option.bind_some,
      cut_of hp (Nat.le_refl _), Option.bind_some, app_of (by simp; omega), Option.bind_some]
    unfold m_spec_RowsSorted_j3
    rw [ck1 (show k < 1000000000000 by omega), Option.bind_some]
    congr 1
    unfold insR
    simp) (fun n s _ => by rw [m_spec_RowsSorted_l1, dnlt, cond_false]; rfl) _ fuel0 [] ⟨rfl, by simp⟩
  exact ⟨hh.1, hh.2⟩
abbrev Rd := S_spec_l20Rd
theorem tmod_b {m n : Int} (h : 0 ≤ m) (hn : 0 < n) : 0 ≤ m.tmod n ∧ m.tmod n < n := ⟨Int.tmod_nonneg n h, Int.tmod_lt_of_pos m hn⟩
theorem tdiv_b {m n : Int} (h : 0 ≤ m) (hn : 0 < n) : 0 ≤ m.tdiv n ∧ m.tdiv n ≤ m := ⟨Int.tdiv_nonneg h (Int.le_of_lt hn), Int.tdiv_le_self _ h⟩
theorem T_pick {o : Rd} {n : Int} (ho : 0 ≤ o.p ∧ o.p ≤ 1000000000) : Tot (m_Pspec_l20Rd_pick o n) fun r => 0 ≤ r.1 ∧ (r.1 < n ∨ r.1 = 0) ∧ r.2.p = o.p + 1 := by
  unfold m_Pspec_l20Rd_pick
  refine Tot.ck (by omega) (by omega) (Tot.lt ?_)
  refine Tot.bif (fun h => ?_) (fun h => ?_)
  · unfold m_Pspec_l20Rd_pick_j1
    exact Tot.ret ⟨Int.le_refl _, .inr rfl, rfl⟩
  · simp only [decide_eq_false_iff_not] at h
    unfold m_Pspec_l20Rd_pick_j1
    refine Tot.bif (fun h2 => Tot.ret ⟨Int.le_refl _, .inr rfl, rfl⟩) (fun h2 => ?_)
    have hb : 0 < (o.b.length : Int) := by simp at h2; have := List.length_pos_iff.2 h2; omega
    refine Tot.ck (by simp only; omega) (by simp only; omega) ?_
    have e : (o.p + 1 - 1) = o.p := by omega
    simp only [e]
    refine Tot.bif (fun h3 => ?_) (fun h3 => ?_)
    · simp only [decide_eq_true_eq] at h3
      refine Tot.at (by omega) h3 (fun x _ => ?_)
      refine Tot.rem (by omega) (Tot.ret ?_)
      have := tmod_b (m := (x.toNat : Int)) (n := n) (by omega) (by omega)
      exact ⟨this.1, .inl this.2, rfl⟩
    · have m1 := tmod_b (m := o.p) (n := o.b.length) (by omega) hb
      refine Tot.rem (by omega) (Tot.at m1.1 m1.2 (fun x _ => ?_))
      have hx := x.toNat_lt
      refine Tot.ck (by omega) (by omega) (Tot.ck (by omega) (by omega) (Tot.ck (by omega) (by omega) ?_))
      have m2 := tmod_b (m := o.p * 7 + 3) (n := o.b.length) (by omega) hb
      refine Tot.rem (by omega) (Tot.at m2.1 m2.2 (fun y _ => ?_))
      have hy := y.toNat_lt
      refine Tot.ck (by omega) (by omega) (Tot.ck (by omega) (by omega) (Tot.ck (by omega) (by omega) (Tot.ck (by omega) (by omega) ?_)))
      have d1 := tdiv_b (m := o.p) (n := o.b.length) (by omega) hb
      refine Tot.quo (by omega) (by omega) (by omega) (Tot.ck (by omega) (by omega) (Tot.ck (by omega) (by omega) ?_))
      have hz : 0 ≤ (x.toNat : Int) * 131 + (y.toNat : Int) * 1117 + o.p * 29 + o.p.tdiv o.b.length * 53 ∧ (x.toNat : Int) * 131 + (y.toNat : Int) * 1117 + o.p * 29 + o.p.tdiv o.b.length * 53 < 1000000000000 := by omega
      generalize (x.toNat : Int) * 131 + (y.toNat : Int) * 1117 + o.p * 29 + o.p.tdiv o.b.length * 53 = z at hz ⊢
      have d2 := tdiv_b (m := z) (n := 64) (by omega) (by omega)
      refine Tot.quo (by omega) (by omega) (by omega) (Tot.xor (by omega) (fun u h4 h5 => Tot.rem (by omega) (Tot.ret ?_)))
      have := tmod_b (m := u) (n := n) (by omega) (by omega)
      exact ⟨this.1, .inl this.2, rfl⟩
theorem T_odd {o : Rd} {n : Int} (ho : 0 ≤ o.p ∧ o.p ≤ 1000000000) (hn : -1000000 ≤ n ∧ n ≤ 1000000) : Tot (m_Pspec_l20Rd_odd o n) fun r => o.p ≤ r.2.p ∧ r.2.p ≤ o.p + 1 := by
  unfold m_Pspec_l20Rd_odd m_Pspec_l20Rd_odd_j1
  refine Tot.bif (fun h => ?_) (fun h => Tot.ret ⟨Int.le_refl _, by simp only; omega⟩)
  refine Tot.bind (T_pick ho) (fun r hr => ?_)
  exact Tot.ck (by omega) (by omega) (Tot.ret ⟨by simp only; omega, by simp only; omega⟩)
/-- A value that was drawn. -/
def vDr (v : V) : Prop := v.S.size ≤ 20 ∧ -10000 ≤ v.N ∧ v.N ≤ 10000 ∧ -10 ≤ v.Kind ∧ v.Kind ≤ 10
theorem T_l20Value_j3 {n : Int} {o : Rd} {v w : V} (ho : 0 ≤ o.p ∧ o.p ≤ 1000000000 - 10) (hn : -1000000 ≤ n ∧ n ≤ 1000000) (hv : w.S.size ≤ 10 ∧ -10000 ≤ w.N ∧ w.N ≤ 10000 ∧ -10 ≤ w.Kind ∧ w.Kind ≤ 10) : Tot (m_spec_l20Value_j3 n o v w) fun r => vDr r.1 ∧ o.p ≤ r.2.p ∧ r.2.p ≤ o.p + 5 := by
  unfold m_spec_l20Value_j3 m_spec_l20Value_j4
  refine Tot.bind (T_odd (by omega) hn) (fun r hr => ?_)
  refine Tot.bif (fun _ => ?_) (fun _ => ?_)
  · refine Tot.bind (T_pick (by omega)) (fun q hq => ?_)
    refine Tot.bif (fun _ => ?_) (fun _ => Tot.bif (fun _ => ?_) (fun _ => Tot.bif (fun _ => ?_) (fun _ => ?_)))
    · refine Tot.lt (Tot.lt (Tot.ret ⟨⟨by simp only; omega, by simp only; omega, by simp only; omega, by simp only; omega, by simp only; omega⟩, by simp only; omega, by simp only; omega⟩))
    · refine Tot.cat (by rw [show ByteArray.size ⟨#[97, 98, 99, 100, 101, 102, 103]⟩ = 7 from rfl]; omega) (Tot.lt (Tot.lt (Tot.ret ⟨⟨?_, by simp only; omega, by simp only; omega, by simp only; omega, by simp only; omega⟩, by simp only; omega, by simp only; omega⟩)))
      simp only [ByteArray.size_append]
      rw [show ByteArray.size ⟨#[97, 98, 99, 100, 101, 102, 103]⟩ = 7 from rfl]; omega
    · refine Tot.bind (T_pick (by omega)) (fun u hu => ?_)
      refine Tot.ck (by omega) (by omega) (Tot.lt (Tot.lt (Tot.ret ⟨⟨by simp only; omega, by simp only; omega, by simp only; omega, by simp only; omega, by simp only; omega⟩, by simp only; omega, by simp only; omega⟩)))
    · refine Tot.cat (by rw [show ByteArray.size ⟨#[65]⟩ = 1 from rfl]; omega) (Tot.lt (Tot.lt (Tot.ret ⟨⟨?_, by simp only; omega, by simp only; omega, by simp only; omega, by simp only; omega⟩, by simp only; omega, by simp only; omega⟩)))
      simp only [ByteArray.size_append]
      rw [show ByteArray.size ⟨#[65]⟩ = 1 from rfl]; omega
  · exact Tot.lt (Tot.ret ⟨⟨by simp only; omega, by simp only; omega, by simp only; omega, by simp only; omega, by simp only; omega⟩, by simp only; omega, by simp only; omega⟩)
theorem T_l20Value_l1 {n : Int} {v : V} (hn : -1000000 ≤ n ∧ n ≤ 1000000) {p : Int} (hp : 0 ≤ p ∧ p ≤ 1000000000 - 20) : ∀ (f : Nat) (t : Int) (s : Rd × V), 0 ≤ t → t < f → (t ≤ 4 ∧ p ≤ s.1.p ∧ s.1.p + t ≤ p + 4 ∧ (s.2.S.size : Int) + t ≤ 4 ∧ -10000 ≤ s.2.N ∧ s.2.N ≤ 10000 ∧ -10 ≤ s.2.Kind ∧ s.2.Kind ≤ 10) →
    Tot (m_spec_l20Value_l1 f n t s.1 v s.2) fun r => vDr r.1 ∧ p ≤ r.2.p ∧ r.2.p ≤ p + 9 := by
  refine Tot.down (fun f t (s : Rd × V) => m_spec_l20Value_l1 f n t s.1 v s.2) _ (fun f s h => ?_) (fun f t s ht h ih => ?_)
  · rw [m_spec_l20Value_l1, show decide ((0 : Int) > 0) = false from rfl, cond_false]
    exact (T_l20Value_j3 (by omega) hn ⟨by omega, by omega, by omega, by omega, by omega⟩).mono fun r hr => ⟨hr.1, by omega, by omega⟩
  · rw [m_spec_l20Value_l1, decide_eq_true (show t > 0 by omega), cond_true]
    refine Tot.bind (T_pick (by omega)) (fun r hr => ?_)
    refine Tot.ck (by omega) (by omega) (Tot.cat ?_ (Tot.lt (Tot.ck (by omega) (by omega) ?_)))
    · rw [show (bStr [Lift.byteOf (97 + r.1)]).size = 1 from rfl]; omega
    · refine ih (r.2, { s.2 with S := s.2.S ++ bStr [Lift.byteOf (97 + r.1)] }) ⟨by omega, by simp only; omega, by simp only; omega, ?_, by simp only; omega, by simp only; omega, by simp only; omega, by simp only; omega⟩
      simp only [ByteArray.size_append]
      rw [show (bStr [Lift.byteOf (97 + r.1)]).size = 1 from rfl]; omega
theorem T_l20Value {o : Rd} {n : Int} (ho : 0 ≤ o.p ∧ o.p ≤ 1000000000 - 100) (hn : -1000000 ≤ n ∧ n ≤ 1000000) : Tot (m_spec_l20Value o n) fun r => vDr r.1 ∧ o.p ≤ r.2.p ∧ r.2.p ≤ o.p + 15 := by
  unfold m_spec_l20Value
  have e0 : ByteArray.size ⟨#[]⟩ = 0 := rfl
  have j2 : ∀ (b : Bool) (q : Rd) (v w : V), o.p ≤ q.p → q.p ≤ o.p + 2 → w.S.size = 0 → w.N = 0 → w.Kind = 0 → Tot (m_spec_l20Value_j2 n b q v w) fun r => vDr r.1 ∧ o.p ≤ r.2.p ∧ r.2.p ≤ o.p + 15 := by
    intro b q v w h1 h2 h3 h4 h5
    unfold m_spec_l20Value_j2
    refine Tot.bif (fun _ => Tot.lt ?_) (fun _ => ?_)
    · refine Tot.bind (T_pick (by omega)) (fun r hr => ?_)
      exact (T_l20Value_l1 (v := v) hn (p := r.2.p) (by omega) _ r.1 (r.2, ⟨2, 0, ⟨#[]⟩⟩) (by omega) (by omega) ⟨by omega, by simp only; omega, by simp only; omega, by simp only [e0]; omega, by first | decide | omega | (simp only; omega), by first | decide | omega | (simp only; omega), by first | decide | omega | (simp only; omega), by first | decide | omega | (simp only; omega)⟩).mono fun x hx => ⟨hx.1, by omega, by omega⟩
    · refine Tot.bind (T_pick (by omega)) (fun r hr => Tot.lt ?_)
      exact (T_l20Value_j3 (by omega) hn ⟨by simp only [e0]; omega, by simp only; omega, by simp only; omega, by first | decide | omega | (simp only; omega), by first | decide | omega | (simp only; omega)⟩).mono fun x hx => ⟨hx.1, by omega, by omega⟩
  have j1 : ∀ (t : Int) (b : Bool) (q : Rd) (v w : V), o.p ≤ q.p → q.p ≤ o.p + 1 → w.S.size = 0 → w.N = 0 → w.Kind = 0 → Tot (m_spec_l20Value_j1 n t b q v w) fun r => vDr r.1 ∧ o.p ≤ r.2.p ∧ r.2.p ≤ o.p + 15 := by
    intro t b q v w h1 h2 h3 h4 h5
    unfold m_spec_l20Value_j1
    refine Tot.bif (fun _ => ?_) (fun _ => Tot.bif (fun _ => j2 _ _ _ _ h1 (by omega) h3 h4 h5) (fun _ => j2 _ _ _ _ h1 (by omega) h3 h4 h5))
    refine Tot.bind (T_pick (by omega)) (fun r hr => Tot.ck (by omega) (by omega) (Tot.lt ?_))
    refine Tot.bind (T_pick (by omega)) (fun u hu => Tot.bif (fun _ => ?_) (fun _ => ?_))
    · refine Tot.bind (T_pick (by omega)) (fun x hx => Tot.at (by omega) (by simp only [List.length_cons, List.length_nil]; omega) (fun y hy => Tot.lt ?_))
      have hy' : -10000 ≤ y ∧ y ≤ 10000 := by simp at hy; omega
      exact (T_l20Value_j3 (by omega) hn ⟨by simp only [e0]; omega, by simp only; omega, by simp only; omega, by first | decide | omega | (simp only; omega), by first | decide | omega | (simp only; omega)⟩).mono fun x hx => ⟨hx.1, by omega, by omega⟩
    · exact (T_l20Value_j3 (by omega) hn ⟨by simp only [e0]; omega, by simp only; omega, by simp only; omega, by first | decide | omega | (simp only; omega), by first | decide | omega | (simp only; omega)⟩).mono fun x hx => ⟨hx.1, by omega, by omega⟩
  refine Tot.lt (Tot.bind (T_pick (by omega)) (fun r hr => ?_))
  refine Tot.bif (fun _ => ?_) (fun _ => Tot.bif (fun _ => ?_) (fun _ => Tot.bif (fun _ => ?_) (fun _ => ?_)))
  · exact (T_l20Value_j3 (by omega) hn ⟨by simp only [e0]; omega, by simp only; omega, by simp only; omega, by first | decide | omega | (simp only; omega), by first | decide | omega | (simp only; omega)⟩).mono fun x hx => ⟨hx.1, by omega, by omega⟩
  · exact j1 _ _ _ _ _ (by omega) (by omega) rfl rfl rfl
  · exact j1 _ _ _ _ _ (by omega) (by omega) rfl rfl rfl
  · exact j1 _ _ _ _ _ (by omega) (by omega) rfl rfl rfl
def cDr (c : S_impl_Column) : Prop := -10 ≤ c.Kind ∧ c.Kind ≤ 10
theorem T_l20Like {o : Rd} {c : S_impl_Column} (ho : 0 ≤ o.p ∧ o.p ≤ 1000000000 - 100) : Tot (m_spec_l20Like o c) fun r => vDr r.1 ∧ o.p ≤ r.2.p ∧ r.2.p ≤ o.p + 3 := by
  unfold m_spec_l20Like
  have e0 : ByteArray.size ⟨#[]⟩ = 0 := rfl
  have j1 : ∀ (b : Bool) (q : Rd) (v : V), o.p ≤ q.p → q.p ≤ o.p + 1 → Tot (m_spec_l20Like_j1 c b q v) fun r => vDr r.1 ∧ o.p ≤ r.2.p ∧ r.2.p ≤ o.p + 3 := by
    intro b q v h1 h2
    unfold m_spec_l20Like_j1
    refine Tot.bif (fun _ => Tot.lt (Tot.ret ⟨⟨by first | decide | omega | (simp only; omega), by first | decide | omega | (simp only; omega), by first | decide | omega | (simp only; omega), by first | decide | omega | (simp only; omega), by first | decide | omega | (simp only; omega)⟩, h1, by simp only; omega⟩)) (fun _ => Tot.bif (fun _ => ?_) (fun _ => Tot.bif (fun _ => ?_) (fun _ => ?_)))
    · refine Tot.bind (T_pick (by omega)) (fun r hr => Tot.lt (Tot.ret ⟨⟨by simp only [e0]; omega, by simp only; omega, by simp only; omega, by simp only; omega, by simp only; omega⟩, by simp only; omega, by simp only; omega⟩))
    · refine Tot.bind (T_pick (by omega)) (fun r hr => Tot.at (by omega) (by simp only [List.length_cons, List.length_nil]; omega) (fun y hy => Tot.lt (Tot.ret ⟨⟨?_, by simp only; omega, by simp only; omega, by simp only; omega, by simp only; omega⟩, by simp only; omega, by simp only; omega⟩)))
      simp only [List.mem_cons, List.mem_nil_iff, or_false] at hy
      rcases hy with rfl | rfl | rfl | rfl <;> exact Nat.le_of_ble_eq_true rfl
    · refine Tot.bind (T_pick (by omega)) (fun r hr => Tot.lt (Tot.ret ⟨⟨by simp only [e0]; omega, by simp only; omega, by simp only; omega, by simp only; omega, by simp only; omega⟩, by simp only; omega, by simp only; omega⟩))
  refine Tot.bif (fun _ => Tot.bind (T_pick (by omega)) (fun r hr => j1 _ _ _ (by omega) (by omega))) (fun _ => j1 _ _ _ (by omega) (by omega))
theorem T_l20Columns {o : Rd} {n : Int} (ho : 0 ≤ o.p ∧ o.p ≤ 1000000000 - 100) (hn : -1000000 ≤ n ∧ n ≤ 1000000) : Tot (m_spec_l20Columns o n) fun r => (1 ≤ r.1.length ∧ r.1.length ≤ 6 ∧ ∀ c ∈ r.1, cDr c) ∧ o.p ≤ r.2.p ∧ r.2.p ≤ o.p + 20 := by
  unfold m_spec_l20Columns
  refine Tot.bind (T_pick (by omega)) (fun r hr => Tot.ck (by omega) (by omega) ?_)
  refine Tot.down (fun f t (s : Rd × List S_impl_Column) => m_spec_l20Columns_l1 f n t s.1 s.2) (fun t s => t ≤ 3 ∧ r.2.p ≤ s.1.p ∧ s.1.p + 2 * t ≤ r.2.p + 6 ∧ (s.2.length : Int) + t = 1 + r.1 ∧ ∀ c ∈ s.2, cDr c) (fun f s h => ?_) (fun f t s ht h ih => ?_) _ (1 + r.1) (r.2, []) (by omega) (by omega) ⟨by omega, by simp only; omega, by simp only; omega, by first | (simp; done) | (simp; omega), by simp⟩
  · obtain ⟨g1, g2, g3, g4, g5⟩ := h
    rw [m_spec_l20Columns_l1, show decide ((0 : Int) > 0) = false from rfl, cond_false]
    unfold m_spec_l20Columns_j1 m_spec_l20Columns_j2
    refine Tot.bind (T_odd (by omega) hn) (fun q hq => Tot.bif (fun _ => ?_) (fun _ => Tot.ret ⟨⟨by simp only; omega, by simp only; omega, g5⟩, by simp only; omega, by simp only; omega⟩))
    refine Tot.bind (T_pick (by omega)) (fun u hu => Tot.ck (by omega) (by omega) (Tot.app (by simp only [List.length_cons, List.length_nil]; omega) (Tot.ret ⟨⟨by first | (simp; done) | (simp; omega), by first | (simp; done) | (simp; omega), ?_⟩, by simp only; omega, by simp only; omega⟩)))
    intro c hc
    simp only [List.mem_append, List.mem_cons, List.mem_nil_iff, or_false] at hc
    rcases hc with hc | rfl | rfl | rfl
    · exact g5 c hc
    · exact ⟨by simp only; omega, by simp only; omega⟩
    · exact ⟨by first | decide | omega | (simp only; omega), by first | decide | omega | (simp only; omega)⟩
    · exact ⟨by first | decide | omega | (simp only; omega), by first | decide | omega | (simp only; omega)⟩
  · obtain ⟨g1, g2, g3, g4, g5⟩ := h
    rw [m_spec_l20Columns_l1, decide_eq_true (show t > 0 by omega), cond_true]
    refine Tot.bind (T_pick (by omega)) (fun x hx => Tot.at (by omega) (by simp only [List.length_cons, List.length_nil]; omega) (fun y hy => ?_))
    have hy' : -10 ≤ y ∧ y ≤ 10 := by simp at hy; omega
    refine Tot.bind (T_pick (by omega)) (fun z hz => Tot.app (by simp only [List.length_cons, List.length_nil]; omega) (Tot.ck (by omega) (by omega) ?_))
    refine ih (z.2, s.2 ++ [⟨y, decide (z.1 > 0)⟩]) ⟨by omega, by simp only; omega, by simp only; omega, by first | (simp; done) | (simp; omega), ?_⟩
    intro c hc
    simp only [List.mem_append, List.mem_cons, List.mem_nil_iff, or_false] at hc
    rcases hc with hc | rfl
    · exact g5 c hc
    · exact hy'
/-- A row that was drawn. -/
def rDr (r : Row) : Prop := r.length ≤ 9 ∧ ∀ v ∈ r, vDr v
theorem T_l20Fit {o : Rd} {cs : List S_impl_Column} {n : Int} (ho : 0 ≤ o.p ∧ o.p ≤ 1000000000 - 1000) (hn : -1000000 ≤ n ∧ n ≤ 1000000) (hc : cs.length ≤ 6) : Tot (m_spec_l20Fit o cs n) fun r => rDr r.1 ∧ o.p ≤ r.2.p ∧ r.2.p ≤ o.p + 80 := by
  unfold m_spec_l20Fit
  refine Tot.up (cs.length : Int) (fun f t (s : Rd × Row) => m_spec_l20Fit_l1 f cs n t s.1 s.2) (fun t s => o.p ≤ s.1.p ∧ s.1.p ≤ o.p + 3 * t ∧ (s.2.length : Int) = t ∧ ∀ v ∈ s.2, vDr v) (fun f s h => ?_) (fun f t s h0 ht h ih => ?_) _ 0 (o, []) (by omega) (by omega) (by omega) ⟨by simp only; omega, by simp only; omega, by simp, by simp⟩
  · obtain ⟨g1, g2, g3, g4⟩ := h
    rw [m_spec_l20Fit_l1, show decide ((cs.length : Int) < cs.length) = false by simp, cond_false]
    unfold m_spec_l20Fit_j1 m_spec_l20Fit_j2
    refine Tot.bind (T_odd (by omega) hn) (fun q hq => Tot.bif (fun _ => ?_) (fun _ => Tot.ret ⟨⟨by simp only; omega, g4⟩, by simp only; omega, by simp only; omega⟩))
    refine Tot.bind (T_pick (by omega)) (fun u hu => Tot.bif (fun _ => ?_) (fun _ => Tot.bif (fun _ => ?_) (fun _ => ?_)))
    · refine Tot.app (by simp only [List.length_cons, List.length_nil]; omega) (Tot.ret ⟨⟨by first | (simp; done) | (simp; omega), ?_⟩, by simp only; omega, by simp only; omega⟩)
      intro c hc
      simp only [List.mem_append, List.mem_cons, List.mem_nil_iff, or_false] at hc
      rcases hc with hc | rfl
      · exact g4 c hc
      · exact ⟨by first | decide | omega | (simp only; omega), by first | decide | omega | (simp only; omega), by first | decide | omega | (simp only; omega), by first | decide | omega | (simp only; omega), by first | decide | omega | (simp only; omega)⟩
    · refine Tot.bif (fun h3 => ?_) (fun _ => Tot.ret ⟨⟨by simp only; omega, g4⟩, by simp only; omega, by simp only; omega⟩)
      simp only [gt_iff_lt, decide_eq_true_eq] at h3
      refine Tot.bind (T_pick (by omega)) (fun x hx => Tot.bind (T_l20Value (by omega) (by omega)) (fun y hy => Tot.at (by omega) (by omega) (fun _ _ => Tot.at (by omega) (by omega) (fun _ _ => Tot.lt (Tot.ret ⟨⟨by first | (simp; done) | (simp; omega), ?_⟩, by simp only; omega, by simp only; omega⟩)))))
      intro c hc
      rcases List.mem_or_eq_of_mem_set hc with hc | rfl
      · exact g4 c hc
      · exact hy.1
    · refine Tot.bind (T_l20Value (by omega) (by omega)) (fun x hx => Tot.bind (T_l20Value (by omega) (by omega)) (fun y hy => Tot.bind (T_l20Value (by omega) (by omega)) (fun z hz => Tot.app (by simp only [List.length_cons, List.length_nil]; omega) (Tot.ret ⟨⟨by first | (simp; done) | (simp; omega), ?_⟩, by simp only; omega, by simp only; omega⟩))))
      intro c hc
      simp only [List.mem_append, List.mem_cons, List.mem_nil_iff, or_false] at hc
      rcases hc with hc | rfl | rfl | rfl
      · exact g4 c hc
      · exact hx.1
      · exact hy.1
      · exact hz.1
  · obtain ⟨g1, g2, g3, g4⟩ := h
    rw [m_spec_l20Fit_l1, decide_eq_true ht, cond_true]
    refine Tot.at h0 ht (fun c hc => Tot.bind (T_l20Like (by omega)) (fun x hx => Tot.app (by simp only [List.length_cons, List.length_nil]; omega) (Tot.ck (by omega) (by omega) ?_)))
    refine ih (x.2, s.2 ++ [x.1]) ⟨by simp only; omega, by simp only; omega, by first | (simp; done) | (simp; omega), ?_⟩
    intro c hc
    simp only [List.mem_append, List.mem_cons, List.mem_nil_iff, or_false] at hc
    rcases hc with hc | rfl
    · exact g4 c hc
    · exact hx.1
/-- Rows that were drawn. -/
def rsDr (n : Nat) (rs : Rows) : Prop := rs.length ≤ n ∧ ∀ r ∈ rs, rDr r
theorem T_l20Bag {o : Rd} {cs : List S_impl_Column} {n : Int} (ho : 0 ≤ o.p ∧ o.p ≤ 1000000000 - 10000) (hn : -1000000 ≤ n ∧ n ≤ 1000000) (hc : cs.length ≤ 6) : Tot (m_spec_l20Bag o cs n) fun r => rsDr 6 r.1 ∧ o.p ≤ r.2.p ∧ r.2.p ≤ o.p + 600 := by
  unfold m_spec_l20Bag
  refine Tot.bind (T_pick (by omega)) (fun r hr => ?_)
  refine Tot.down (fun f t (s : Rd × Rows) => m_spec_l20Bag_l1 f cs n t s.1 s.2) (fun t s => t ≤ r.1 ∧ o.p ≤ s.1.p ∧ s.1.p + 90 * t ≤ o.p + 1 + 90 * r.1 ∧ (s.2.length : Int) + t = r.1 ∧ ∀ x ∈ s.2, rDr x) (fun f s h => ?_) (fun f t s ht h ih => ?_) _ r.1 (r.2, []) (by omega) (by omega) ⟨by omega, by simp only; omega, by simp only; omega, by simp, by simp⟩
  · obtain ⟨g1, g2, g3, g4, g5⟩ := h
    rw [m_spec_l20Bag_l1, show decide ((0 : Int) > 0) = false from rfl, cond_false]
    exact Tot.ret ⟨⟨by simp only; omega, g5⟩, by simp only; omega, by simp only; omega⟩
  · obtain ⟨g1, g2, g3, g4, g5⟩ := h
    rw [m_spec_l20Bag_l1, decide_eq_true (show t > 0 by omega), cond_true]
    have j2 : ∀ (q : Rd) (x : Row), s.1.p ≤ q.p → q.p ≤ s.1.p + 90 → rDr x → Tot (m_spec_l20Bag_j2 (m_spec_l20Bag_l1 f) cs n t q (s.2 ++ [x])) fun r => rsDr 6 r.1 ∧ o.p ≤ r.2.p ∧ r.2.p ≤ o.p + 600 := by
      intro q x h1 h2 h3
      unfold m_spec_l20Bag_j2
      refine Tot.ck (by omega) (by omega) ?_
      refine ih (q, s.2 ++ [x]) ⟨by omega, by simp only; omega, by simp only; omega, by first | (simp; done) | (simp; omega), ?_⟩
      intro c hc
      simp only [List.mem_append, List.mem_cons, List.mem_nil_iff, or_false] at hc
      rcases hc with hc | rfl
      · exact g5 c hc
      · exact h3
    have j1 : ∀ (b : Bool) (q : Rd), s.1.p ≤ q.p → q.p ≤ s.1.p + 2 → (b = true → 0 < s.2.length) → Tot (m_spec_l20Bag_j1 (m_spec_l20Bag_l1 f) cs n t b q s.2) fun r => rsDr 6 r.1 ∧ o.p ≤ r.2.p ∧ r.2.p ≤ o.p + 600 := by
      intro b q h1 h2 h3
      unfold m_spec_l20Bag_j1
      refine Tot.bif (fun hb => ?_) (fun _ => ?_)
      · have := h3 hb
        refine Tot.bind (T_pick (by omega)) (fun x hx => Tot.at (by omega) (by omega) (fun _ _ => Tot.at (by omega) (by omega) (fun y hy => ?_)))
        have hy' := g5 y hy
        refine Tot.eq (E_l3Own (by have := hy'.1; omega)) (Tot.app (by simp only [List.length_cons, List.length_nil]; omega) (j2 _ _ (by omega) (by omega) hy'))
      · refine Tot.bind (T_l20Fit (by omega) hn hc) (fun x hx => Tot.app (by simp only [List.length_cons, List.length_nil]; omega) (j2 _ _ (by omega) (by omega) hx.1))
    refine Tot.bif (fun h3 => ?_) (fun _ => j1 _ _ (by omega) (by omega) (by intro e; cases e))
    simp only [gt_iff_lt, decide_eq_true_eq] at h3
    refine Tot.bind (T_pick (by omega)) (fun x hx => j1 _ _ (by omega) (by omega) (fun _ => by omega))
theorem rDr_sm {r : Row} (h : rDr r) : rSm r := ⟨by have := h.1; omega, fun v hv => by have := (h.2 v hv).1; unfold vSm; omega⟩
theorem rsDr_sm {n : Nat} {rs : Rows} (h : rsDr n rs) (hn : n ≤ 100000) : rsSm rs := ⟨by have := h.1; omega, fun r hr => rDr_sm (h.2 r hr)⟩
theorem sortR_mem : ∀ (rs : Rows) (x : Row), x ∈ sortR rs ↔ x ∈ rs := by
  have key : ∀ (rs out : Rows) (x : Row), x ∈ rs.foldl insR out ↔ x ∈ out ∨ x ∈ rs := by
    intro rs
    induction rs with
    | nil => intro out x; simp
    | cons r rs ih => intro out x; rw [List.foldl_cons, ih, insR_mem, List.mem_cons]; constructor <;> (rintro (h | h) <;> first | (rcases h with h | h <;> simp [h]) | simp [h])
  intro rs x; unfold sortR; rw [key]; simp
theorem T_l20Open {l : List UInt8} : Tot (m_spec_l20Open l) fun r => r.p = 0 := by
  unfold m_spec_l20Open m_spec_l20Open_j1
  refine Tot.bif (fun h => ?_) (fun _ => Tot.ret rfl)
  simp only [gt_iff_lt, decide_eq_true_eq] at h
  exact Tot.cut (by omega) (Tot.ret rfl)
/-- A total order, told by numbers. -/
structure TO {α : Type} (p : α → α → Int) : Prop where
  eq0 : ∀ a b, p a b = 0 ↔ a = b
  anti : ∀ a b, p a b < 0 ↔ 0 < p b a
  trans : ∀ a b c, p a b < 0 → p b c < 0 → p a c < 0
theorem TO.comap {α β : Type} {p : β → β → Int} (h : TO p) (f : α → β) (hf : ∀ a b, f a = f b → a = b) : TO fun a b => p (f a) (f b) where
  eq0 a b := ⟨fun e => hf a b ((h.eq0 _ _).1 e), fun e => (h.eq0 _ _).2 (by rw [e])⟩
  anti a b := h.anti _ _
  trans a b c := h.trans _ _ _
theorem TO.le_trans {α : Type} {p : α → α → Int} (h : TO p) {a b c : α} (h1 : p a b ≤ 0) (h2 : p b c ≤ 0) : p a c ≤ 0 := by
  rcases Int.lt_or_eq_of_le h1 with h1 | h1
  · rcases Int.lt_or_eq_of_le h2 with h2 | h2
    · exact Int.le_of_lt (h.trans _ _ _ h1 h2)
    · rw [← (h.eq0 _ _).1 h2]; omega
  · rw [(h.eq0 _ _).1 h1]; exact h2
theorem TO.le_antisymm {α : Type} {p : α → α → Int} (h : TO p) {a b : α} (h1 : p a b ≤ 0) (h2 : p b a ≤ 0) : a = b := by
  refine (h.eq0 _ _).1 ?_
  have := h.anti a b
  omega
theorem TO.total {α : Type} {p : α → α → Int} (h : TO p) (a b : α) : 0 < p a b ↔ p b a < 0 := (h.anti b a).symm
def lx (x y : Int) : Int := if x = 0 then y else x
theorem TO.lex {α β : Type} {p : α → α → Int} {q : β → β → Int} (h : TO p) (k : TO q) : TO fun (a b : α × β) => lx (p a.1 b.1) (q a.2 b.2) where
  eq0 a b := by
    have h1 := h.eq0 a.1 b.1
    have h2 := k.eq0 a.2 b.2
    unfold lx
    split
    · rename_i e; rw [h2]; exact ⟨fun e2 => Prod.ext (h1.1 e) e2, fun e2 => by rw [e2]⟩
    · rename_i e; exact ⟨fun e2 => absurd e2 e, fun e2 => absurd (h1.2 (by rw [e2])) e⟩
  anti a b := by
    have h1 := h.anti a.1 b.1
    have h2 := k.anti a.2 b.2
    have h3 := h.eq0 a.1 b.1
    have h4 := h.eq0 b.1 a.1
    unfold lx
    by_cases e : a.1 = b.1
    · rw [if_pos (h3.2 e), if_pos (h4.2 e.symm)]; exact h2
    · rw [if_neg (fun x => e (h3.1 x)), if_neg (fun x => e (h4.1 x).symm)]; exact h1
  trans a b c := by
    have h1 := h.trans a.1 b.1 c.1
    have h2 := k.trans a.2 b.2 c.2
    unfold lx
    by_cases e1 : a.1 = b.1
    · rw [if_pos ((h.eq0 _ _).2 e1), e1]
      by_cases e2 : b.1 = c.1
      · rw [if_pos ((h.eq0 _ _).2 e2), if_pos ((h.eq0 _ _).2 e2)]; exact h2
      · rw [if_neg (fun x => e2 ((h.eq0 _ _).1 x)), if_neg (fun x => e2 ((h.eq0 _ _).1 x))]; exact fun _ g => g
    · rw [if_neg (fun x => e1 ((h.eq0 _ _).1 x))]
      by_cases e2 : b.1 = c.1
      · rw [← e2, if_pos ((h.eq0 _ _).2 rfl), if_neg (fun x => e1 ((h.eq0 _ _).1 x))]; exact fun g _ => g
      · rw [if_neg (fun x => e2 ((h.eq0 _ _).1 x))]
        intro g1 g2
        have := h1 g1 g2
        rw [if_neg (by omega)]; exact this
theorem TO_int : TO cmpI where
  eq0 a b := by unfold cmpI; split <;> (try split) <;> omega
  anti a b := by unfold cmpI; split <;> split <;> (try split) <;> (try split) <;> omega
  trans a b c := by unfold cmpI; split <;> split <;> (try split) <;> (try split) <;> (try split) <;> omega
def cmpB : List UInt8 → List UInt8 → Int
  | [], [] => 0
  | [], _ :: _ => -1
  | _ :: _, [] => 1
  | a :: x, b :: y => lx (cmpI a.toNat b.toNat) (cmpB x y)
theorem cmpB_less : ∀ a b : List UInt8, (if Op.bytesLess a b then (-1 : Int) else if Op.bytesLess a b || a == b then 0 else 1) = cmpB a b
  | [], [] => rfl
  | [], _ :: _ => rfl
  | _ :: _, [] => rfl
  | a :: x, b :: y => by
    have ih := cmpB_less x y
    simp only [cmpB, ← ih]
    unfold lx cmpI
    simp only [Op.bytesLess]
    rcases Nat.lt_trichotomy a.toNat b.toNat with h | h | h
    · have h' : a < b := UInt8.lt_iff_toNat_lt.2 h
      have h2 : (a.toNat : Int) < b.toNat := by omega
      simp [h', h2]
    · have h' : a = b := UInt8.toNat_inj.1 h
      subst h'
      simp
    · have h' : ¬ a < b := fun e => by have := UInt8.lt_iff_toNat_lt.1 e; omega
      have h2 : ¬ (a.toNat : Int) < b.toNat := by omega
      have h3 : (b.toNat : Int) < a.toNat := by omega
      have h4 : ¬ a = b := fun e => by rw [e] at h; omega
      simp [h', h2, h3, h4]
theorem TO_list {α : Type} {p : α → α → Int} (h : TO p) : TO (cmpL p) where
  eq0 := by
    intro a
    induction a with
    | nil => intro b; cases b <;> simp [cmpL]
    | cons x a ih =>
      intro b
      cases b with
      | nil => simp [cmpL]
      | cons y b =>
        simp only [cmpL]
        split
        · rename_i e; rw [ih b, List.cons.injEq]; exact ⟨fun e2 => ⟨(h.eq0 _ _).1 e, e2⟩, fun e2 => e2.2⟩
        · rename_i e; rw [List.cons.injEq]; exact ⟨fun e2 => absurd e2 e, fun e2 => absurd ((h.eq0 _ _).2 e2.1) e⟩
  anti := by
    intro a
    induction a with
    | nil => intro b; cases b <;> simp [cmpL]
    | cons x a ih =>
      intro b
      cases b with
      | nil => simp [cmpL]
      | cons y b =>
        simp only [cmpL]
        by_cases e : x = y
        · rw [if_pos ((h.eq0 _ _).2 e), if_pos ((h.eq0 _ _).2 e.symm)]; exact ih b
        · rw [if_neg (fun g => e ((h.eq0 _ _).1 g)), if_neg (fun g => e ((h.eq0 _ _).1 g).symm)]; exact h.anti x y
  trans := by
    intro a
    induction a with
    | nil => intro b c; cases b <;> cases c <;> simp [cmpL]
    | cons x a ih =>
      intro b c
      cases b with
      | nil => simp [cmpL]
      | cons y b =>
        cases c with
        | nil => simp [cmpL]
        | cons z c =>
          simp only [cmpL]
          by_cases e1 : x = y
          · rw [if_pos ((h.eq0 _ _).2 e1), e1]
            by_cases e2 : y = z
            · rw [if_pos ((h.eq0 _ _).2 e2), if_pos ((h.eq0 _ _).2 e2)]; exact ih b c
            · rw [if_neg (fun g => e2 ((h.eq0 _ _).1 g)), if_neg (fun g => e2 ((h.eq0 _ _).1 g))]; exact fun _ g => g
          · rw [if_neg (fun g => e1 ((h.eq0 _ _).1 g))]
            by_cases e2 : y = z
            · rw [← e2, if_pos ((h.eq0 _ _).2 rfl), if_neg (fun g => e1 ((h.eq0 _ _).1 g))]; exact fun g _ => g
            · rw [if_neg (fun g => e2 ((h.eq0 _ _).1 g))]
              intro g1 g2
              have := h.trans x y z g1 g2
              rw [if_neg (by omega)]; exact this
theorem TO_byte : TO fun (a b : UInt8) => cmpI a.toNat b.toNat := TO_int.comap (fun b : UInt8 => (b.toNat : Int)) fun a b h => UInt8.toNat_inj.1 (by omega)
theorem cmpB_L : ∀ a b : List UInt8, cmpB a b = cmpL (fun (a b : UInt8) => cmpI a.toNat b.toNat) a b
  | [], [] => rfl
  | [], _ :: _ => rfl
  | _ :: _, [] => rfl
  | a :: x, b :: y => by simp only [cmpB, cmpL, lx, cmpB_L x y]
theorem TO_str : TO cmpS := by
  have h := (TO_list TO_byte).comap (fun s : ByteArray => s.data.toList) (fun a b h => ByteArray.ext (Array.toList_inj.1 h))
  have e : cmpS = fun a b : ByteArray => cmpL (fun (a b : UInt8) => cmpI a.toNat b.toNat) a.data.toList b.data.toList := by
    funext a b
    unfold cmpS sLt sEq
    rw [ByteArray.toList_eq, ByteArray.toList_eq, cmpB_less, cmpB_L]
  rw [e]; exact h
theorem orI_2 (a b : Int) : orI [a, b] = lx a b := by
  unfold lx; split
  · rename_i h; subst h; rw [orI_0]
    by_cases h : b = 0
    · subst h; rfl
    · rw [orI_1 h]
  · rename_i h; rw [orI_1 h]
theorem orI_3 (a b c : Int) : orI [a, b, c] = lx a (lx b c) := by
  by_cases h : a = 0
  · subst h; rw [orI_0, orI_2]; rfl
  · rw [orI_1 h]; unfold lx; rw [if_neg h]
theorem TO_value : TO vOrd := by
  have h := (TO_int.lex (TO_int.lex TO_str)).comap (fun v : V => (v.Kind, (v.N, v.S))) (fun a b h => by
    cases a; cases b; simp only [Prod.mk.injEq] at h; simp [h])
  have e : vOrd = fun a b : V => lx (cmpI a.Kind b.Kind) (lx (cmpI a.N b.N) (cmpS a.S b.S)) := by
    funext a b; unfold vOrd; rw [orI_3]
  rw [e]; exact h
theorem TO_row : TO rOrd := by
  have e : rOrd = cmpL vOrd := by funext a b; exact rOrd_cmpL a b
  rw [e]; exact TO_list TO_value
/-- In order. -/
def inOrd (l : Rows) : Prop := l.Pairwise fun a b => rOrd a b ≤ 0
theorem posN_at {out : Rows} {r : Row} : ∀ n, (∀ i, posN out r n ≤ i → i < n → rrOrd (out.getD i []) r > 0) ∧ (posN out r n = 0 ∨ ∃ j, posN out r n = j + 1 ∧ rrOrd (out.getD j []) r ≤ 0)
  | 0 => ⟨fun i h1 h2 => by omega, .inl rfl⟩
  | n + 1 => by
    obtain ⟨h1, h2⟩ := posN_at (out := out) (r := r) n
    simp only [posN]
    split
    · rename_i h
      refine ⟨fun i g1 g2 => ?_, h2⟩
      rcases Nat.lt_or_ge i n with g | g
      · exact h1 i g1 g
      · have : i = n := by omega
        subst this; exact h
    · rename_i h
      exact ⟨fun i g1 g2 => by omega, .inr ⟨n, rfl, by omega⟩⟩
theorem rr_ok {a b : Row} (ha : rowOk a = true) (hb : rowOk b = true) : rrOrd a b = rOrd a b := by unfold rrOrd; rw [ha, hb]; rfl
theorem insR_ord {out : Rows} {r : Row} (ho : ∀ x ∈ out, rowOk x = true) (hr : rowOk r = true) (h : inOrd out) : inOrd (insR out r) := by
  obtain ⟨h1, h2⟩ := posN_at (out := out) (r := r) out.length
  have hle := posN_le out r out.length
  unfold insR
  generalize posN out r out.length = j at h1 h2 hle
  have hsplit : inOrd (out.take j ++ out.drop j) := by rw [List.take_append_drop]; exact h
  unfold inOrd at hsplit ⊢
  rw [List.pairwise_append] at hsplit
  obtain ⟨p1, p2, p3⟩ := hsplit
  rw [List.pairwise_append]
  refine ⟨p1, ?_, ?_⟩
  · rw [List.pairwise_cons]
    refine ⟨fun x hx => ?_, p2⟩
    obtain ⟨i, hi⟩ := List.mem_iff_getElem?.1 hx
    rw [List.getElem?_drop] at hi
    obtain ⟨hlt, hi⟩ := List.getElem?_eq_some_iff.1 hi
    have := h1 (j + i) (by omega) hlt
    rw [List.getD_eq_getElem?_getD, List.getElem?_eq_getElem hlt, Option.getD_some, hi, rr_ok (ho x (List.mem_of_mem_drop hx)) hr] at this
    have := (TO_row.total x r).1 this
    omega
  · intro x hx y hy
    rcases List.mem_cons.1 hy with rfl | hy
    · rcases h2 with rfl | ⟨k, rfl, hk⟩
      · simp at hx
      · have hkl : k < out.length := by omega
        rw [List.getD_eq_getElem?_getD, List.getElem?_eq_getElem hkl, Option.getD_some, rr_ok (ho _ (List.getElem_mem hkl)) hr] at hk
        rw [List.take_succ_eq_append_getElem hkl] at hx p1
        rcases List.mem_append.1 hx with hx | hx
        · rw [List.pairwise_append] at p1
          exact TO_row.le_trans (p1.2.2 x hx _ (by simp)) hk
        · simp at hx; subst hx; exact hk
    · exact p3 x hx y hy
theorem insR_perm (out : Rows) (r : Row) : (insR out r).Perm (r :: out) := by
  unfold insR
  have := List.perm_middle (a := r) (l₁ := out.take (posN out r out.length)) (l₂ := out.drop (posN out r out.length))
  rwa [List.take_append_drop] at this
theorem sortR_perm (rs : Rows) : (sortR rs).Perm rs := by
  have key : ∀ (rs out : Rows), (rs.foldl insR out).Perm (out ++ rs) := by
    intro rs
    induction rs with
    | nil => intro out; simp
    | cons r rs ih =>
      intro out
      rw [List.foldl_cons]
      refine (ih _).trans ((insR_perm out r).append_right rs |>.trans ?_)
      have := List.perm_middle (a := r) (l₁ := out) (l₂ := rs)
      exact this.symm
  have := key rs []
  simpa [sortR] using this
theorem sortR_ord {rs : Rows} (h : ∀ r ∈ rs, rowOk r = true) : inOrd (sortR rs) := by
  have key : ∀ (rs out : Rows), (∀ r ∈ rs, rowOk r = true) → (∀ r ∈ out, rowOk r = true) → inOrd out → inOrd (rs.foldl insR out) := by
    intro rs
    induction rs with
    | nil => intro out _ _ h; exact h
    | cons r rs ih =>
      intro out h1 h2 h3
      rw [List.foldl_cons]
      refine ih _ (fun x hx => h1 x (by simp [hx])) (fun x hx => ?_) (insR_ord h2 (h1 r (by simp)) h3)
      rcases (insR_mem _ _ _).1 hx with rfl | hx
      · exact h1 _ (by simp)
      · exact h2 x hx
  exact key rs [] h (by simp) List.Pairwise.nil
theorem rowMany_count (rs : Rows) (r : Row) : rowMany rs r = rs.count r := by
  unfold rowMany List.count
  congr 1
  funext x
  rw [Bool.eq_iff_iff]; simp
theorem L_slices_IndexFunc_LLimpl_Value_Limpl_Value {l : List (List S_impl_Value)} {p : (List S_impl_Value) → Option Bool} {q : (List S_impl_Value) → Bool} (hl : l.length ≤ 1000000) (hp : ∀ v ∈ l, p v = some (q v)) : m_slices_IndexFunc_LLimpl_Value_Limpl_Value l p = some (idxI q l) := by
  unfold m_slices_IndexFunc_LLimpl_Value_Limpl_Value
  exact scanI (q := q) (g := fun i => some i) l (fun n k => m_slices_IndexFunc_LLimpl_Value_Limpl_Value_l1 p n l (l.length : Int) k) (fun n k x hx => by
    have := lt_of_at hx
    rw [m_slices_IndexFunc_LLimpl_Value_Limpl_Value_l1, dlt this, cond_true]
    simp only [at_of hx, Option.bind_some, hp x (List.mem_of_getElem? hx), ck1 (show k < 1000000000000 by omega)]) (fun n => by rw [m_slices_IndexFunc_LLimpl_Value_Limpl_Value_l1, dnlt]; rfl) _ fuel0
theorem L_slices_ContainsFunc_LLimpl_Value_Limpl_Value {l : List (List S_impl_Value)} {p : (List S_impl_Value) → Option Bool} {q : (List S_impl_Value) → Bool} (hl : l.length ≤ 1000000) (hp : ∀ v ∈ l, p v = some (q v)) : m_slices_ContainsFunc_LLimpl_Value_Limpl_Value l p = some (l.any q) := by
  unfold m_slices_ContainsFunc_LLimpl_Value_Limpl_Value
  rw [L_slices_IndexFunc_LLimpl_Value_Limpl_Value hl hp, Option.bind_some, (idxI_ge q l).2.2]
theorem L_slices_IsSortedFunc_LLimpl_Value_Limpl_Value {l : List (List S_impl_Value)} {p : (List S_impl_Value) → (List S_impl_Value) → Option Int} {q : (List S_impl_Value) → (List S_impl_Value) → Int} (hl : l.length ≤ 1000000) (hp : ∀ x ∈ l, ∀ y ∈ l, p x y = some (q x y)) : m_slices_IsSortedFunc_LLimpl_Value_Limpl_Value l p = some (adjB (fun x y => decide (q y x < 0)) l) := by
  unfold m_slices_IsSortedFunc_LLimpl_Value_Limpl_Value
  rw [ckI_of (by omega) (by omega), Option.bind_some]
  refine adjDown l (fun m i => m_slices_IsSortedFunc_LLimpl_Value_Limpl_Value_l1 p m l i) (fun m i hi => ?_) (fun m j x y hx hy => ?_) _ (by omega) (by omega)
  · rw [m_slices_IsSortedFunc_LLimpl_Value_Limpl_Value_l1, decide_eq_false (by omega)]; rfl
  · have := lt_of_at hy
    rw [m_slices_IsSortedFunc_LLimpl_Value_Limpl_Value_l1, dgt0, cond_true]
    simp only [at_of hx, at_of hy, ckdd (show j < 1000000000000 by omega), Option.bind_some, hp y (List.mem_of_getElem? hy) x (List.mem_of_getElem? hx)]
theorem L_slices_Clone_LLimpl_Value_Limpl_Value {l : List (List S_impl_Value)} (hl : l.length ≤ 1000000) : m_slices_Clone_LLimpl_Value_Limpl_Value l = some l := by
  unfold m_slices_Clone_LLimpl_Value_Limpl_Value
  cases l with
  | nil => rfl
  | cons x l =>
    simp only [nilM, cond_false]
    rw [app_of (by simp at hl ⊢; omega), Option.bind_some, List.nil_append]
theorem L2_slices_CompactFunc_LLimpl_Value_Limpl_Value {p : (List S_impl_Value) → (List S_impl_Value) → Option Bool} {q : (List S_impl_Value) → (List S_impl_Value) → Bool} {k1 : Int → List (List S_impl_Value) → Option (List (List S_impl_Value))} {orig : List (List S_impl_Value)} (hN : orig.length ≤ 1000000) (hp : ∀ x ∈ orig, ∀ y ∈ orig, p x y = some (q x y)) (off : Nat) : ∀ (d r m w : Nat) (o : List (List S_impl_Value)) (x0 : (List S_impl_Value)), r + d = orig.length → off < r → w < r → d < m → o.length = orig.length → (∀ i, r - 1 ≤ i → o[i]? = orig[i]?) → orig[r - 1]? = some x0 →
    m_slices_CompactFunc_LLimpl_Value_Limpl_Value_l2 p k1 m (w : Int) off (orig.length - off) ((r - off : Nat) : Int) o = some (o.take w ++ goC q x0 (orig.drop r)) := by
  intro d
  induction d with
  | zero =>
    intro r m w o x0 hr hoff hw hm ho hi hx0
    obtain ⟨m, rfl⟩ : ∃ q, m = q + 1 := ⟨m - 1, by omega⟩
    obtain rfl : r = orig.length := by omega
    rw [m_slices_CompactFunc_LLimpl_Value_Limpl_Value_l2, decide_eq_false (by omega), cond_false]
    unfold m_slices_CompactFunc_LLimpl_Value_Limpl_Value_j2
    rw [rng_of (by omega), Option.bind_some, rng_of (by omega), Option.bind_some, Int.toNat_natCast, leN_of (by simp; omega), Option.bind_some]
    simp [goC, List.take_take]
  | succ d ih =>
    intro r m w o x0 hr hoff hw hm ho hi hx0
    obtain ⟨m, rfl⟩ : ∃ q, m = q + 1 := ⟨m - 1, by omega⟩
    obtain ⟨j, hj⟩ : ∃ j, r - off = j + 1 := ⟨r - off - 1, by omega⟩
    have hlt : r < orig.length := by omega
    have hx : orig[r]? = some orig[r] := List.getElem?_eq_getElem hlt
    have ox : o[r]? = some orig[r] := by rw [hi r (by omega)]; exact hx
    have oy : o[r - 1]? = some x0 := by rw [hi (r - 1) (by omega)]; exact hx0
    have mx := List.mem_of_getElem? hx
    have my := List.mem_of_getElem? hx0
    rw [m_slices_CompactFunc_LLimpl_Value_Limpl_Value_l2, hj, decide_eq_true (show (((j + 1 : Nat) : Int) < ((orig.length - off : Nat) : Int)) by omega), cond_true]
    rw [atc_of (show off + (j + 1) = r by omega) (by omega) ox, Option.bind_some, at_off (show off + (j + 1) = r by omega) ox, Option.bind_some, ckdd (by omega), Option.bind_some, atc_of (show off + j = r - 1 by omega) (by omega) oy, Option.bind_some, at_off (show off + j = r - 1 by omega) oy, Option.bind_some, hp _ mx _ my, Option.bind_some]
    have e1 : ((j + 1 : Nat) : Int) + 1 = ((r + 1 - off : Nat) : Int) := by omega
    have hd : orig.drop r = orig[r] :: orig.drop (r + 1) := List.drop_eq_getElem_cons hlt
    rw [hd, goC]
    unfold m_slices_CompactFunc_LLimpl_Value_Limpl_Value_j1
    cases hq : q orig[r] x0 with
    | false =>
      have ow : o[w]? = some o[w] := List.getElem?_eq_getElem (by omega)
      rw [Bool.not_false, cond_true, Option.bind_some, Option.bind_some, at_of ow, Option.bind_some, Option.bind_some, ck1 (by omega), ck1 (by omega)]
      simp only [Go.Lift.lt, Int.toNat_natCast, Option.bind_some]
      rw [e1, show ((w : Int) + 1) = ((w + 1 : Nat) : Int) by omega, ih (r + 1) m (w + 1) (o.set w orig[r]) orig[r] (by omega) (by omega) (by omega) (by omega) (by simpa using ho) (fun i h => by
        rw [List.getElem?_set_ne (by omega)]; exact hi i (by omega)) (by simpa using hx)]
      rw [if_neg (by simp)]
      congr 1
      have : (o.set w orig[r]).take (w + 1) = o.take w ++ [orig[r]] := by
        rw [List.take_succ_eq_append_getElem (by simp; omega), List.take_set_of_le (by omega)]
        simp
      rw [this]; simp
    | true =>
      rw [Bool.not_true, cond_false, ck1 (by omega), Option.bind_some, e1, ih (r + 1) m w o orig[r] (by omega) (by omega) (by omega) (by omega) ho (fun i h => hi i (by omega)) (by simpa using hx), if_pos rfl]
theorem L_slices_CompactFunc_LLimpl_Value_Limpl_Value {l : List (List S_impl_Value)} {p : (List S_impl_Value) → (List S_impl_Value) → Option Bool} {q : (List S_impl_Value) → (List S_impl_Value) → Bool} (hN : l.length ≤ 1000000) (hp : ∀ x ∈ l, ∀ y ∈ l, p x y = some (q x y)) : m_slices_CompactFunc_LLimpl_Value_Limpl_Value l p = some (compactE q l) := by
  unfold m_slices_CompactFunc_LLimpl_Value_Limpl_Value
  by_cases h2 : l.length < 2
  · rw [decide_eq_true (show ((l.length : Int) < 2) by omega), cond_true]
    cases l with
    | nil => rfl
    | cons x l =>
      cases l with
      | nil => rfl
      | cons y l => exact absurd h2 (by simp)
  · rw [decide_eq_false (show ¬ ((l.length : Int) < 2) by omega), cond_false]
    have key : ∀ (d k n : Nat), k + d = l.length → 1 ≤ k → d < n → (∀ i x y, 0 < i → i < k → l[i]? = some x → l[i - 1]? = some y → q x y = false) → m_slices_CompactFunc_LLimpl_Value_Limpl_Value_l1 p n (k : Int) l = some (compactE q l) := by
      intro d
      induction d with
      | zero =>
        intro k n hk h1 hn hq
        obtain ⟨n, rfl⟩ : ∃ q, n = q + 1 := ⟨n - 1, by omega⟩
        obtain rfl : k = l.length := by omega
        rw [m_slices_CompactFunc_LLimpl_Value_Limpl_Value_l1, dnlt, cond_false]
        unfold m_slices_CompactFunc_LLimpl_Value_Limpl_Value_j4
        rw [compactE_take l (l.length - 1) (by omega) (fun i x y h0 hi hx hy => hq i x y h0 (by omega) hx hy) l[l.length - 1] (List.getElem?_eq_getElem (by omega)), show l.length - 1 + 1 = l.length by omega]
        simp [goC]
      | succ d ih =>
        intro k n hk h1 hn hq
        obtain ⟨n, rfl⟩ : ∃ q, n = q + 1 := ⟨n - 1, by omega⟩
        obtain ⟨j, rfl⟩ : ∃ j, k = j + 1 := ⟨k - 1, by omega⟩
        have hx : l[j + 1]? = some l[j + 1] := List.getElem?_eq_getElem (by omega)
        have hy : l[j]? = some l[j] := List.getElem?_eq_getElem (by omega)
        rw [m_slices_CompactFunc_LLimpl_Value_Limpl_Value_l1, dlt (by omega), cond_true, at_of hx, Option.bind_some, Option.bind_some, ckdd (by omega), Option.bind_some, at_of hy, Option.bind_some, Option.bind_some, hp _ (List.mem_of_getElem? hx) _ (List.mem_of_getElem? hy), Option.bind_some]
        cases hb : q l[j + 1] l[j] with
        | false =>
          rw [cond_false]
          unfold m_slices_CompactFunc_LLimpl_Value_Limpl_Value_j3
          rw [ck1 (by omega), Option.bind_some, show (((j + 1 : Nat) : Int) + 1) = ((j + 1 + 1 : Nat) : Int) by omega]
          refine ih (j + 1 + 1) n (by omega) (by omega) (by omega) fun i x y h0 hi ha hc => ?_
          rcases Nat.lt_or_ge i (j + 1) with h3 | h3
          · exact hq i x y h0 h3 ha hc
          · obtain rfl : i = j + 1 := by omega
            rw [hx] at ha; rw [show j + 1 - 1 = j by omega, hy] at hc; cases ha; cases hc; exact hb
        | true =>
          rw [cond_true, rng_of (by omega), Option.bind_some]
          have := L2_slices_CompactFunc_LLimpl_Value_Limpl_Value (k1 := m_slices_CompactFunc_LLimpl_Value_Limpl_Value_l1 p n) hN hp (0 + ((j + 1 : Nat) : Int).toNat) (l.length - (j + 2)) (j + 2) ((((l.length - ((j + 1 : Nat) : Int).toNat : Nat) : Int) - 1).toNat + 1) (j + 1) l l[j + 1] (by omega) (by simp) (by omega) (by simp; omega) rfl (fun _ _ => rfl) hx
          rw [show j + 2 - (0 + ((j + 1 : Nat) : Int).toNat) = 1 by simp] at this
          have e1 : l.length - (0 + ((j + 1 : Nat) : Int).toNat) = l.length - ((j + 1 : Nat) : Int).toNat := by simp
          rw [e1] at this
          refine Eq.trans this ?_
          congr 1
          rw [compactE_take l j (by omega) (fun i x y h0 hi hx hy => hq i x y h0 (by omega) hx hy) l[j] hy]
          congr 1
          rw [List.drop_eq_getElem_cons (show j + 1 < l.length by omega), goC, if_pos hb]
    refine key (l.length - 1) 1 _ (by omega) (by omega) (by omega) fun i x y h0 hi => by omega
theorem L_slices_Equal_Limpl_Value_impl_Value {a b : List S_impl_Value} (ha : a.length ≤ 1000000) : m_slices_Equal_Limpl_Value_impl_Value a b = some (decide (a = b)) := by
  unfold m_slices_Equal_Limpl_Value_impl_Value
  by_cases hl : a.length = b.length
  · have : ((a.length : Int) != (b.length : Int)) = false := by simp [hl]
    rw [this, cond_false]
    rw [← all2_eq hl]
    exact scan2 (q := fun x y => decide (x = y)) a b hl (fun n k => m_slices_Equal_Limpl_Value_impl_Value_l1 n a b (a.length : Int) k) (fun n k x y hx hy => by
      have := lt_of_at hx
      rw [m_slices_Equal_Limpl_Value_impl_Value_l1, dlt this, cond_true]
      simp only [at_of hx, at_of hy, ck1 (show k < 1000000000000 by omega), Option.bind_some]
      cases decide (x = y) <;> rfl) (fun n => by rw [m_slices_Equal_Limpl_Value_impl_Value_l1, dnlt]; rfl) _ fuel0
  · have : ((a.length : Int) != (b.length : Int)) = true := by simp; omega
    rw [this, cond_true]
    congr 1
    symm
    rw [decide_eq_false_iff_not]
    exact fun h => hl (congrArg _ h)
def rGt (x y : Row) : Bool := decide (rOrd y x < 0)
def inOk (r : Rows) : Bool := r.all rowOk && adjB rGt r
theorem E_allOk {rs : Rows} (h : rsSm rs) : m_impl_allOk rs = some (rs.all rowOk) := by
  unfold m_impl_allOk
  rw [L_slices_ContainsFunc_LLimpl_Value_Limpl_Value (q := fun r => !(rowOk r)) (by have := h.1; omega) (fun r hr => by unfold m_impl_allOk_1; rw [E_impl_RowOk (h.2 r hr)]; rfl), Option.bind_some, List.all_eq_not_any_not]
theorem E_inOrder {rs : Rows} (h : rsSm rs) : m_impl_inOrder rs = some (inOk rs) := by
  unfold m_impl_inOrder m_impl_inOrder_j1 inOk
  rw [E_allOk h, Option.bind_some]
  cases rs.all rowOk
  · rfl
  rw [cond_true, L_slices_IsSortedFunc_LLimpl_Value_Limpl_Value (q := rOrd) (by have := h.1; omega) (fun x hx y _ => E_rowOrder (by have := (h.2 x hx).1; omega)), Option.bind_some]
  rfl
theorem rGt_trans (x y z : Row) (h1 : rGt x y = false) (h2 : rGt y z = false) : rGt x z = false := by
  unfold rGt at *
  rw [decide_eq_false_iff_not] at *
  have a1 := TO_row.anti y x
  have a2 := TO_row.anti z y
  have a3 := TO_row.anti z x
  have := TO_row.le_trans (a := x) (b := y) (c := z) (by omega) (by omega)
  omega
theorem inOk_ord {rs : Rows} (h : inOk rs = true) : OrdB rGt rs := by
  unfold inOk at h
  rw [Bool.and_eq_true] at h
  exact Adj.ord rGt_trans (adjB_iff.1 h.2)
theorem ord_inOrd {rs : Rows} : OrdB rGt rs ↔ inOrd rs := by
  unfold OrdB inOrd
  constructor <;> intro h <;> refine h.imp fun {a b} hab => ?_
  · unfold rGt at hab
    rw [decide_eq_false_iff_not] at hab
    have := TO_row.anti b a
    omega
  · unfold rGt
    rw [decide_eq_false_iff_not]
    have := TO_row.anti b a
    omega

def total (left : List Rows) : Nat := left.flatten.length
theorem rr_le {a b : Row} (ha : rowOk a = true) (hb : rowOk b = true) : rrOrd a b ≤ 0 ↔ rGt a b = false := by
  rw [rr_ok ha hb]
  unfold rGt
  rw [decide_eq_false_iff_not]
  have := TO_row.anti b a
  omega
/-- What is looked at of a run from a place on. -/
def runFrom (run : Rows) (j : Nat) : Prop := ∀ i x, j ≤ i → run[i]? = some x → rowOk x = true ∧ ∀ y, 0 < i → run[i - 1]? = some y → rrOrd y x ≤ 0
theorem runFrom_0 {run : Rows} : runFrom run 0 ↔ inOk run = true := by
  unfold inOk
  rw [Bool.and_eq_true, List.all_eq_true, adjB_iff]
  constructor
  · intro h
    have hok : ∀ r ∈ run, rowOk r = true := fun r hr => by
      obtain ⟨i, hi⟩ := List.getElem?_of_mem hr
      exact (h i r (by omega) hi).1
    refine ⟨hok, fun i x y hx hy => ?_⟩
    exact (rr_le (hok x (List.mem_of_getElem? hx)) (hok y (List.mem_of_getElem? hy))).1 ((h (i + 1) y (by omega) hy).2 x (by omega) hx)
  · rintro ⟨h1, h2⟩ i x _ hx
    refine ⟨h1 x (List.mem_of_getElem? hx), fun y hi hy => ?_⟩
    obtain ⟨i, rfl⟩ : ∃ q, i = q + 1 := ⟨i - 1, by omega⟩
    exact (rr_le (h1 y (List.mem_of_getElem? hy)) (h1 x (List.mem_of_getElem? hx))).2 (h2 i y x (by simpa using hy) hx)
theorem T_l20Much {o : Rd} {n : Int} (ho : 0 ≤ o.p ∧ o.p ≤ 1000000000 - 100000) (hn : -1000000 ≤ n ∧ n ≤ 1000000) : Tot (m_spec_l20Much o n) fun r => rsDr 18 r.1 ∧ o.p ≤ r.2.p ∧ r.2.p ≤ o.p + 2000 := by
  unfold m_spec_l20Much
  refine Tot.bind (T_l20Columns (by omega) (by omega)) (fun c hc => Tot.cut (by omega) ?_)
  have hcl : ((c.1.take (1 : Int).toNat).drop (0 : Int).toNat).length ≤ 6 := by first | (simp; done) | (simp; omega)
  refine Tot.bind (T_l20Bag (by omega) (by omega) hcl) (fun a ha => Tot.bind (T_l20Bag (by omega) (by omega) hcl) fun b hb => Tot.app (by have := ha.1.1; have := hb.1.1; omega) (Tot.bind (T_l20Bag (by omega) (by omega) hcl) fun d hd => Tot.app (by have := ha.1.1; have := hb.1.1; have := hd.1.1; simp; omega) (Tot.ret ⟨⟨?_, ?_⟩, by show o.p ≤ d.2.p; omega, by show d.2.p ≤ o.p + 2000; omega⟩)))
  · have := ha.1.1; have := hb.1.1; have := hd.1.1
    simp; omega
  · intro r hr
    simp only [List.mem_append] at hr
    rcases hr with (hr | hr) | hr
    · exact ha.1.2 r hr
    · exact hb.1.2 r hr
    · exact hd.1.2 r hr
def eqR (a b : Row) : Bool := decide (a = b)
def once1 (rs : Rows) : Rows := if inOk rs then compactE eqR rs else []
theorem E_impl_NeighboursOnce {rs : Rows} (h : rsSm rs) : m_impl_NeighboursOnce rs = some (once1 rs) := by
  have h1 := h.1
  unfold m_impl_NeighboursOnce once1
  rw [E_inOrder h, Option.bind_some]
  cases inOk rs
  · rfl
  rw [Bool.not_true, cond_false, L_slices_Clone_LLimpl_Value_Limpl_Value (by omega), Option.bind_some,
    L_slices_CompactFunc_LLimpl_Value_Limpl_Value (q := eqR) (by omega) (fun x hx y _ => L_slices_Equal_Limpl_Value_impl_Value (by have := (h.2 x hx).1; omega)), Option.bind_some,
    E_rowsCopy (by have := (compactE_sub (q := eqR) rs).length_le; omega) (fun r hr => by have := (h.2 r ((compactE_sub (q := eqR) rs).subset hr)).1; omega), Option.bind_some, if_pos rfl]
/-- What is still put out from a place on. -/
def extN (rs : Rows) : Nat → Rows
  | 0 => compactE eqR rs
  | k + 1 => goC eqR (rs.getD k []) (rs.drop (k + 1))
theorem E_spec_NeighboursOnce {rs : Rows} (h : rsSm rs) : m_spec_NeighboursOnce rs = some (once1 rs) := by
  have h1 := h.1
  unfold m_spec_NeighboursOnce
  have key : ∀ (d k n : Nat) (out : Rows), k + d = rs.length → d < n → out.length ≤ k →
      ∃ b, m_spec_NeighboursOnce_l1 n rs (k : Int) out = (bif b then some (out ++ extN rs k) else some []) ∧ (b = true ↔ runFrom rs k) := by
    intro d
    induction d with
    | zero =>
      intro k n out hk hn ho
      obtain ⟨n, rfl⟩ : ∃ q, n = q + 1 := ⟨n - 1, by omega⟩
      obtain rfl : k = rs.length := by omega
      refine ⟨true, ?_, ⟨fun _ i x hi hx => by have := lt_of_at hx; omega, fun _ => rfl⟩⟩
      rw [m_spec_NeighboursOnce_l1, dnlt, cond_false, cond_true]
      unfold m_spec_NeighboursOnce_j4
      cases hl : rs.length with
      | zero =>
        have : rs = [] := List.length_eq_zero_iff.1 hl
        subst this; simp [extN, compactE]
      | succ m =>
        have : rs.drop (m + 1) = [] := List.drop_eq_nil_of_le (by omega)
        simp [extN, this, goC]
    | succ d ih =>
      intro k n out hk hn ho
      obtain ⟨n, rfl⟩ : ∃ q, n = q + 1 := ⟨n - 1, by omega⟩
      have hlt : k < rs.length := by omega
      have hx : rs[k]? = some rs[k] := List.getElem?_eq_getElem hlt
      have hxs := h.2 _ (List.mem_of_getElem? hx)
      have hxl := hxs.1
      -- what the rest comes to, with what is put out now
      have rest : ∀ (out' : Rows), out'.length ≤ k + 1 → out' ++ extN rs (k + 1) = out ++ extN rs k → (rowOk rs[k] = true ∧ ∀ y, 0 < k → rs[k - 1]? = some y → rrOrd y rs[k] ≤ 0) → ∃ b, m_spec_NeighboursOnce_j3 (m_spec_NeighboursOnce_l1 n) rs (k : Int) out' = (bif b then some (out ++ extN rs k) else some []) ∧ (b = true ↔ runFrom rs k) := by
        intro out' h2 h3 h4
        obtain ⟨b, e1, e2⟩ := ih (k + 1) n out' (by omega) (by omega) h2
        refine ⟨b, ?_, e2.trans ⟨fun hf i x hi hix => ?_, fun hf i x hi hix => hf i x (by omega) hix⟩⟩
        · unfold m_spec_NeighboursOnce_j3
          rw [ck1 (by omega), Option.bind_some, show ((k : Int) + 1) = ((k + 1 : Nat) : Int) by omega, e1, h3]
        · rcases Nat.lt_or_ge k i with h5 | h5
          · exact hf i x (by omega) hix
          · obtain rfl : i = k := by omega
            rw [hx] at hix; cases hix; exact h4
      have bad : ¬ (rowOk rs[k] = true ∧ ∀ y, 0 < k → rs[k - 1]? = some y → rrOrd y rs[k] ≤ 0) → ∃ b, m_spec_NeighboursOnce_j1 (m_spec_NeighboursOnce_l1 n) rs (k : Int) true out = (bif b then some (out ++ extN rs k) else some []) ∧ (b = true ↔ runFrom rs k) := by
        intro h2
        refine ⟨false, ?_, ⟨fun h => (by cases h), fun hf => absurd (hf k _ (Nat.le_refl _) hx) h2⟩⟩
        unfold m_spec_NeighboursOnce_j1
        rw [cond_true, cond_false]
      have own : m_spec_l3Own rs[k] = some rs[k] := E_l3Own (by omega)
      rw [m_spec_NeighboursOnce_l1, dlt hlt, cond_true, at_of hx, Option.bind_some, E_spec_RowOk hxs, Option.bind_some]
      cases hok : rowOk rs[k] with
      | false =>
        rw [Bool.not_false, cond_true]
        exact bad (by rw [hok]; simp)
      | true =>
        rw [Bool.not_true, cond_false]
        cases k with
        | zero =>
          rw [dgt00, cond_false]
          unfold m_spec_NeighboursOnce_j1
          rw [cond_false, show (((0 : Nat) : Int) == 0) = true from rfl, cond_true]
          unfold m_spec_NeighboursOnce_j2
          rw [cond_true, at_of hx, Option.bind_some, own, Option.bind_some, app_of (by simp; omega), Option.bind_some]
          refine rest _ (by rw [List.length_append, List.length_singleton]; omega) ?_ ⟨hok, fun y h => absurd h (by omega)⟩
          rw [List.append_assoc]
          congr 1
          cases rs with
          | nil => simp at hlt
          | cons r l => simp [extN, compactE]
        | succ j =>
          have hy : rs[j]? = some rs[j] := List.getElem?_eq_getElem (by omega)
          have hys := h.2 _ (List.mem_of_getElem? hy)
          have hyl := hys.1
          rw [dgt0, cond_true, ckdd (show j < 1000000000000 by omega), Option.bind_some, at_of hy, Option.bind_some, Option.bind_some, E_spec_RowOrder hys hxs, Option.bind_some]
          by_cases hb : rrOrd rs[j] rs[j + 1] > 0
          · rw [decide_eq_true hb]
            exact bad fun hc => by have := hc.2 rs[j] (by omega) (by rw [show j + 1 - 1 = j by omega]; exact hy); omega
          · rw [decide_eq_false hb]
            unfold m_spec_NeighboursOnce_j1
            rw [cond_false, beqF (show ¬ ((j + 1 : Nat) : Int) = 0 by omega), cond_false, ckdd (show j < 1000000000000 by omega), Option.bind_some, at_of hy, Option.bind_some, at_of hx, Option.bind_some, E_l3Same (by omega), Option.bind_some]
            have hgood : rowOk rs[j + 1] = true ∧ ∀ y, 0 < j + 1 → rs[j + 1 - 1]? = some y → rrOrd y rs[j + 1] ≤ 0 := ⟨hok, fun y _ hy' => by rw [show j + 1 - 1 = j by omega, hy] at hy'; cases hy'; omega⟩
            have hg : rs.getD j [] = rs[j] := by rw [List.getD_eq_getElem?_getD, hy]; rfl
            have hg1 : rs.getD (j + 1) [] = rs[j + 1] := by rw [List.getD_eq_getElem?_getD, hx]; rfl
            have hex : extN rs (j + 1) = if eqR rs[j + 1] rs[j] then extN rs (j + 1 + 1) else rs[j + 1] :: extN rs (j + 1 + 1) := by
              simp only [extN]
              rw [List.drop_eq_getElem_cons hlt, goC, hg, hg1]
            unfold m_spec_NeighboursOnce_j2
            by_cases he : rs[j] = rs[j + 1]
            · rw [decide_eq_true he, Bool.not_true, cond_false]
              refine rest _ (by omega) ?_ hgood
              rw [hex, if_pos (by unfold eqR; rw [decide_eq_true he.symm])]
            · rw [decide_eq_false he, Bool.not_false, cond_true, at_of hx, Option.bind_some, own, Option.bind_some, app_of (by simp; omega), Option.bind_some]
              refine rest _ (by simp; omega) ?_ hgood
              rw [hex, if_neg (by unfold eqR; simp; exact fun h => he h.symm)]
              simp
  obtain ⟨b, e1, e2⟩ := key rs.length 0 (((rs.length : Int) - 0).toNat + 1) [] (by omega) (by omega) (by simp)
  rw [show ((0 : Nat) : Int) = 0 from rfl] at e1
  rw [e1]
  have hb : b = inOk rs := by rw [Bool.eq_iff_iff, e2, runFrom_0]
  unfold once1
  rw [← hb]
  cases b
  · rw [cond_false, if_neg (by simp)]
  · rw [cond_true, if_pos rfl]; rfl
def onceR (rs : Rows) : Rows := rs.foldl (fun out r => if r ∈ out then out else out ++ [r]) []
theorem E_rowsHas {out : Rows} {r : Row} (h : rsSm out) : m_impl_rowsHas out r = some (decide (r ∈ out)) := by
  unfold m_impl_rowsHas
  rw [E_impl_RowMany (by have := h.1; omega) (fun x hx => by have := (h.2 x hx).1; omega), Option.bind_some, rowMany_count]
  congr 1
  rw [decide_eq_decide]
  have : 0 < out.count r ↔ r ∈ out := List.count_pos_iff
  rw [← this]
  omega
theorem E_impl_RowsOnce {rs : Rows} (h : rsSm rs) : m_impl_RowsOnce rs = some (onceR rs) := by
  obtain ⟨h1, h2⟩ := h
  unfold m_impl_RowsOnce
  have hh := scanF (f := fun (out : Rows) r => if r ∈ out then out else out ++ [r]) (J := fun s => m_impl_RowsOnce_j2 s) (fun k s => s.length ≤ k ∧ ∀ x ∈ s, rSm x) rs (fun n k s => m_impl_RowsOnce_l1 n rs (rs.length : Int) k s) (fun n k x s hx hI => by
    have hlt := lt_of_at hx
    obtain ⟨hI1, hI2⟩ := hI
    have hxs := h2 x (List.mem_of_getElem? hx)
    rw [m_impl_RowsOnce_l1, dlt hlt, cond_true, at_of hx, Option.bind_some, E_rowsHas ⟨by omega, hI2⟩, Option.bind_some]
    unfold m_impl_RowsOnce_j1
    by_cases hm : x ∈ s
    · rw [decide_eq_true hm, Bool.not_true, cond_false, ck1 (by omega), Option.bind_some, if_pos hm]
      exact ⟨rfl, by omega, hI2⟩
    · rw [decide_eq_false hm, Bool.not_false, cond_true, app_of (by simp; omega), Option.bind_some, ck1 (by omega), Option.bind_some, if_neg hm]
      refine ⟨rfl, by simp; omega, fun y hy => ?_⟩
      rcases List.mem_append.1 hy with hy | hy
      · exact hI2 y hy
      · rw [List.mem_singleton.1 hy]; exact hxs) (fun n s _ => by rw [m_impl_RowsOnce_l1, dnlt, cond_false]) _ fuel0 [] ⟨by simp, by simp⟩
  rw [hh.1]
  unfold m_impl_RowsOnce_j2
  rw [E_rowsCopy (by have := hh.2.1; omega) (fun r hr => by have := (hh.2.2 r hr).1; omega)]
  rfl
theorem onceR_ord {rs : Rows} (h : inOrd rs) : onceR rs = compactE eqR rs := by
  have key : ∀ (l out : Rows) (p : Row), (∀ x ∈ out, rOrd x p ≤ 0) → p ∈ out → inOrd (p :: l) → l.foldl (fun out r => if r ∈ out then out else out ++ [r]) out = out ++ goC eqR p l := by
    intro l
    induction l with
    | nil => intro out p _ _ _; simp [goC]
    | cons y l ih =>
      intro out p h1 h2 h3
      obtain ⟨h4, h5⟩ := List.pairwise_cons.1 h3
      have hpy := h4 y (by simp)
      have hout : ∀ x ∈ out, rOrd x y ≤ 0 := fun x hx => TO_row.le_trans (h1 x hx) hpy
      rw [List.foldl_cons, goC]
      by_cases he : y = p
      · rw [if_pos (show y ∈ out from he ▸ h2), if_pos (show eqR y p = true from decide_eq_true he)]
        exact ih out y hout (he ▸ h2) h5
      · have hny : y ∉ out := fun hy => he (TO_row.le_antisymm (h1 y hy) hpy)
        rw [if_neg hny, if_neg (show ¬ eqR y p = true by unfold eqR; simp [he])]
        rw [ih (out ++ [y]) y (fun x hx => by
          rcases List.mem_append.1 hx with hx | hx
          · exact hout x hx
          · rw [List.mem_singleton.1 hx]; exact Int.le_of_eq ((TO_row.eq0 _ _).2 rfl)) (by simp) h5]
        simp
  cases rs with
  | nil => rfl
  | cons r l =>
    unfold onceR
    rw [List.foldl_cons, if_neg (by simp), key l ([] ++ [r]) r (fun x hx => by simp at hx; rw [hx]; exact Int.le_of_eq ((TO_row.eq0 _ _).2 rfl)) (by simp) h]
    rfl
theorem sortR_id {rs : Rows} (ho : ∀ r ∈ rs, rowOk r = true) (h : inOrd rs) : sortR rs = rs := by
  refine List.Perm.eq_of_pairwise (le := fun a b => rOrd a b ≤ 0) ?_ (sortR_ord ho) h (sortR_perm _)
  intro x y _ _ h1 h2
  exact TO_row.le_antisymm h1 h2
theorem inOk_iff {rs : Rows} : inOk rs = true ↔ rs.all rowOk = true ∧ sortR rs = rs := by
  constructor
  · intro h
    have h2 := ord_inOrd.1 (inOk_ord h)
    unfold inOk at h
    rw [Bool.and_eq_true] at h
    exact ⟨h.1, sortR_id (List.all_eq_true.1 h.1) h2⟩
  · rintro ⟨h1, h2⟩
    unfold inOk
    rw [Bool.and_eq_true, adjB_iff]
    refine ⟨h1, OrdB.adj (ord_inOrd.2 ?_)⟩
    rw [← h2]; exact sortR_ord (List.all_eq_true.1 h1)
theorem T_DrawNeighboursOnce {l : List UInt8} : Tot (m_spec_DrawNeighboursOnce l) fun r => rsDr 18 r := by
  unfold m_spec_DrawNeighboursOnce m_spec_DrawNeighboursOnce_j1
  refine Tot.bind T_l20Open fun r hr => Tot.bind (T_l20Much (by omega) (by omega)) fun m hm => Tot.bind (T_pick (by omega)) fun p hp => Tot.bif (fun _ => ?_) (fun _ => Tot.ret hm.1)
  obtain ⟨g1, g2, g3⟩ := E_spec_RowsSorted (rsDr_sm hm.1 (by omega))
  exact Tot.eq g1 (Tot.ret ⟨by rw [g2]; exact hm.1.1, fun x hx => hm.1.2 x ((sortR_mem _ _).1 hx)⟩)
theorem pure_FnNeighboursOnce (l : List UInt8) : m_laws_FnNeighboursOnce l = some true := by
  unfold m_laws_FnNeighboursOnce
  cases hlen : decide ((l.length : Int) > 1048576)
  · rw [cond_false]
    obtain ⟨rs, hd, hrs⟩ := T_DrawNeighboursOnce (l := l)
    have sr := rsDr_sm hrs (by omega)
    have hl := sr.1
    have sub : (once1 rs).Sublist rs := by unfold once1; split; exact compactE_sub rs; exact List.nil_sublist _
    have so : rsSm (once1 rs) := ⟨by have := sub.length_le; omega, fun r hr => sr.2 r (sub.subset hr)⟩
    have sol := so.1
    have same : ∀ b : Rows, m_laws_sameRows (once1 rs) b = some (decide (once1 rs = b)) := fun b => E_sameRows (by omega) (fun r hr => by have := (so.2 r hr).1; omega)
    rw [hd, Option.bind_some, E_impl_NeighboursOnce sr, Option.bind_some, E_spec_NeighboursOnce sr, Option.bind_some, same, Option.bind_some, decide_eq_true rfl, Bool.not_true, cond_false, E_allRows sr, Option.bind_some]
    unfold m_laws_FnNeighboursOnce_j1 m_laws_FnNeighboursOnce_j2 m_laws_FnNeighboursOnce_j3
    have none0 : inOk rs = false → once1 rs = [] := fun h => by unfold once1; rw [h]; rfl
    cases hok : rs.all rowOk with
    | false =>
      have hin : inOk rs = false := by unfold inOk; rw [hok]; rfl
      rw [none0 hin, Bool.not_false, cond_true, cond_true, E_alive]; rfl
    | true =>
      have hsl := (sortR_perm rs).length_eq
      rw [Bool.not_true, cond_false, E_impl_RowsSorted sr, Option.bind_some, E_sameRows (by omega) (fun r hr => by have := (sr.2 r ((sortR_mem _ _).1 hr)).1; omega), Option.bind_some]
      by_cases hs : sortR rs = rs
      · have hin : inOk rs = true := inOk_iff.2 ⟨hok, hs⟩
        have hord := ord_inOrd.1 (inOk_ord hin)
        have he : once1 rs = onceR rs := by unfold once1; rw [if_pos hin, onceR_ord hord]
        have hso : sortR (once1 rs) = once1 rs := sortR_id (fun r hr => List.all_eq_true.1 hok r (sub.subset hr)) (List.Pairwise.sublist sub hord)
        rw [decide_eq_true hs, Bool.not_true, cond_false, E_impl_RowsOnce sr, Option.bind_some, same, Option.bind_some, decide_eq_true he, cond_true, E_impl_RowsSorted so, Option.bind_some, hso, same, Option.bind_some, decide_eq_true rfl, cond_true, E_alive]
        rfl
      · have hin : inOk rs = false := by
          cases h : inOk rs
          · rfl
          · exact absurd (inOk_iff.1 h).2 hs
        rw [decide_eq_false hs, none0 hin, Bool.not_false, cond_true, E_alive]; rfl
  · rfl
end Go.Proofs.Ytemfdnnhknepbaa
