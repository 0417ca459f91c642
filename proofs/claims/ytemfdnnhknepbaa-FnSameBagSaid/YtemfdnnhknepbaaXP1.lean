/- Values and rows: what their mirrors come to. Own work. -/
import Derived.Test.YtemfdnnhknepbaaXW4
import Derived.Test.YtemfdnnhknepbaaLd
set_option linter.unusedVariables false
set_option linter.unusedSimpArgs false
namespace Go.Proofs.Ytemfdnnhknepbaa
open Go.Proofs Go.Lift
abbrev V := S_impl_Value
abbrev Row := List V
abbrev Rows := List Row

/-! ### plain words -/
def cmpI (a b : Int) : Int := if a < b then -1 else if b < a then 1 else 0
def cmpS (a b : ByteArray) : Int := if sLt a b then -1 else if sLt a b || sEq a b then 0 else 1
def orI (l : List Int) : Int := (l.find? (· != 0)).getD 0
def lower (l : List UInt8) : Bool := l.all fun b => decide (97 ≤ b.toNat) && decide (b.toNat ≤ 122)
/-- A value is one. -/
def vOk (v : V) : Bool :=
  if v.Kind = 0 then decide (v = ⟨0, 0, ⟨#[]⟩⟩)
  else if v.Kind = 1 then decide (v.S = ⟨#[]⟩) && (decide (-9999 ≤ v.N) && decide (v.N ≤ 9999))
  else if v.Kind = 2 then decide (v.N = 0) && decide (v.S.size ≤ 6) && lower v.S.data.toList
  else if v.Kind = 3 then decide (v.S = ⟨#[]⟩) && (decide (0 ≤ v.N) && decide (v.N ≤ 1))
  else false
def vOrd (v w : V) : Int := orI [cmpI v.Kind w.Kind, cmpI v.N w.N, cmpS v.S w.S]
def rowMany (rs : Rows) (r : Row) : Nat := rs.countP fun x => decide (x = r)
def rowOk (l : Row) : Bool := decide (l.length ≤ 4) && l.all vOk
/-- As memory holds it with ease. -/
def vSm (v : V) : Prop := v.S.size ≤ 1000
def rSm (l : Row) : Prop := l.length ≤ 1000 ∧ ∀ v ∈ l, vSm v
def rsSm (l : Rows) : Prop := l.length ≤ 100000 ∧ ∀ r ∈ l, rSm r
def cmpL {α : Type} (p : α → α → Int) : List α → List α → Int
  | [], [] => 0
  | [], _ :: _ => -1
  | _ :: _, [] => 1
  | a :: x, b :: y => if p a b = 0 then cmpL p x y else p a b
def vvOrd (a b : V) : Int := if vOk a && vOk b then vOrd a b else 0
def rOrd (a b : Row) : Int := orI [cmpL vOrd a b, cmpI a.length b.length]
def rrOrd (a b : Row) : Int := if rowOk a && rowOk b then rOrd a b else 0

theorem E_Equal {a b : Row} (ha : a.length ≤ 1000000) : m_slices_Equal_Limpl_Value_impl_Value a b = some (decide (a = b)) := by
  unfold m_slices_Equal_Limpl_Value_impl_Value
  by_cases h : a.length = b.length
  · have hc : ((a.length : Int) != (b.length : Int)) = false := by simp [h]
    rw [hc, cond_false, ← all2_eq h]
    refine scan2 a b h (fun n k => m_slices_Equal_Limpl_Value_impl_Value_l1 n a b (a.length : Int) k) (fun n k x y hx hy => ?_) (fun n => ?_) _ (by omega)
    · have := lt_of_at hx
      simp only [m_slices_Equal_Limpl_Value_impl_Value_l1, dlt this, at_of hx, at_of hy, ck1 (show k < 1000000000000 by omega), Option.bind_some, cond_true]
      cases decide (x = y) <;> rfl
    · simp only [m_slices_Equal_Limpl_Value_impl_Value_l1, dnlt]; rfl
  · have hc : ((a.length : Int) != (b.length : Int)) = true := by simp; omega
    rw [hc, cond_true]
    have : a ≠ b := fun e => h (by rw [e])
    simp [this]
theorem E_l3Same {a b : Row} (ha : a.length ≤ 1000000) : m_spec_l3Same a b = some (decide (a = b)) := by
  unfold m_spec_l3Same
  by_cases h : a.length = b.length
  · have hc : ((a.length : Int) != (b.length : Int)) = false := by simp [h]
    rw [hc, cond_false, ← all2_eq h]
    refine scan2 a b h (fun n k => m_spec_l3Same_l1 n a b k) (fun n k x y hx hy => ?_) (fun n => ?_) _ (by omega)
    · have := lt_of_at hx
      simp only [m_spec_l3Same_l1, dlt this, at_of hx, at_of hy, ck1 (show k < 1000000000000 by omega), Option.bind_some, cond_true]
      cases decide (x = y) <;> rfl
    · simp only [m_spec_l3Same_l1, dnlt]; rfl
  · have hc : ((a.length : Int) != (b.length : Int)) = true := by simp; omega
    rw [hc, cond_true]
    have : a ≠ b := fun e => h (by rw [e])
    simp [this]
theorem E_sameRow {a b : Row} (ha : a.length ≤ 1000000) : m_laws_sameRow a b = some (decide (a = b)) := by
  unfold m_laws_sameRow
  by_cases h : a.length = b.length
  · have hc : ((a.length : Int) != (b.length : Int)) = false := by simp [h]
    rw [hc, cond_false, ← all2_eq h]
    refine scan2 a b h (fun n k => m_laws_sameRow_l1 n a b k) (fun n k x y hx hy => ?_) (fun n => ?_) _ (by omega)
    · have := lt_of_at hx
      simp only [m_laws_sameRow_l1, dlt this, at_of hx, at_of hy, ck1 (show k < 1000000000000 by omega), Option.bind_some, cond_true]
      cases decide (x = y) <;> rfl
    · simp only [m_laws_sameRow_l1, dnlt]; rfl
  · have hc : ((a.length : Int) != (b.length : Int)) = true := by simp; omega
    rw [hc, cond_true]
    have : a ≠ b := fun e => h (by rw [e])
    simp [this]
theorem E_sameRows {a b : Rows} (ha : a.length ≤ 1000000) (hr : ∀ r ∈ a, r.length ≤ 1000000) : m_laws_sameRows a b = some (decide (a = b)) := by
  unfold m_laws_sameRows
  by_cases h : a.length = b.length
  · have hc : ((a.length : Int) != (b.length : Int)) = false := by simp [h]
    rw [hc, cond_false, ← all2_eq h]
    refine scan2 a b h (fun n k => m_laws_sameRows_l1 n a b k) (fun n k x y hx hy => ?_) (fun n => ?_) _ (by omega)
    · have := lt_of_at hx
      simp only [m_laws_sameRows_l1, dlt this, at_of hx, at_of hy, ck1 (show k < 1000000000000 by omega), Option.bind_some, cond_true, E_sameRow (hr x (List.mem_of_getElem? hx))]
      cases decide (x = y) <;> rfl
    · simp only [m_laws_sameRows_l1, dnlt]; rfl
  · have hc : ((a.length : Int) != (b.length : Int)) = true := by simp; omega
    rw [hc, cond_true]
    have : a ≠ b := fun e => h (by rw [e])
    simp [this]
theorem E_impl_RowMany {rs : Rows} {r : Row} (h : rs.length ≤ 1000000) (hr : ∀ x ∈ rs, x.length ≤ 1000000) : m_impl_RowMany rs r = some (rowMany rs r : Int) := by
  unfold m_impl_RowMany rowMany
  refine scanN (p := fun x => decide (x = r)) (J := fun s => some s) rs (fun n k s => m_impl_RowMany_l1 n r s rs (rs.length : Int) k) (fun n k x s hx h0 h1 => ?_) (fun n s => ?_) _ (by omega)
  · have := lt_of_at hx
    rw [m_impl_RowMany_l1, dlt this, cond_true, at_of hx, Option.bind_some, E_Equal (hr x (List.mem_of_getElem? hx)), Option.bind_some]
    simp only [m_impl_RowMany_j1]
    rw [ckI_of (by omega) (by omega), ck1 (show k < 1000000000000 by omega)]
    cases decide (x = r) <;> rfl
  · simp only [m_impl_RowMany_l1, dnlt]; rfl
theorem E_spec_RowMany {rs : Rows} {r : Row} (h : rs.length ≤ 1000000) (hr : ∀ x ∈ rs, x.length ≤ 1000000) : m_spec_RowMany rs r = some (rowMany rs r : Int) := by
  unfold m_spec_RowMany rowMany
  refine scanN (p := fun x => decide (x = r)) (J := fun s => some s) rs (fun n k s => m_spec_RowMany_l1 n rs r s k) (fun n k x s hx h0 h1 => ?_) (fun n s => ?_) _ (by omega)
  · have := lt_of_at hx
    rw [m_spec_RowMany_l1, dlt this, cond_true, at_of hx, Option.bind_some, E_l3Same (hr x (List.mem_of_getElem? hx)), Option.bind_some]
    simp only [m_spec_RowMany_j1]
    rw [ckI_of (by omega) (by omega), ck1 (show k < 1000000000000 by omega)]
    cases decide (x = r) <;> rfl
  · simp only [m_spec_RowMany_l1, dnlt]; rfl
theorem E_IndexFunc_V {l : Row} {p : V → Option Bool} {q : V → Bool} (hl : l.length ≤ 1000000) (hp : ∀ v ∈ l, p v = some (q v)) : m_slices_ContainsFunc_Limpl_Value_impl_Value l p = some (l.any q) := by
  unfold m_slices_ContainsFunc_Limpl_Value_impl_Value m_slices_IndexFunc_Limpl_Value_impl_Value
  have key : ∀ (ys : Row) (k n : Nat), l.drop k = ys → k ≤ l.length → ys.length < n → ∃ i : Int, m_slices_IndexFunc_Limpl_Value_impl_Value_l1 p n l (l.length : Int) (k : Int) = some i ∧ decide (i ≥ 0) = ys.any q := by
    intro ys
    induction ys with
    | nil =>
      intro k n hd hk hn
      have : k = l.length := by
        have := congrArg List.length hd
        simp at this; omega
      subst this
      obtain ⟨m, rfl⟩ : ∃ m, n = m + 1 := ⟨n - 1, by simp at hn; omega⟩
      exact ⟨-1, by simp only [m_slices_IndexFunc_Limpl_Value_impl_Value_l1, dnlt]; rfl, rfl⟩
    | cons y ys ih =>
      intro k n hd hk hn
      have hlt : k < l.length := by
        have := congrArg List.length hd
        simp at this; omega
      have hc := List.drop_eq_getElem_cons hlt
      rw [hd] at hc
      simp only [List.cons.injEq] at hc
      have hx : l[k]? = some y := by rw [List.getElem?_eq_getElem hlt, hc.1]
      obtain ⟨m, rfl⟩ : ∃ m, n = m + 1 := ⟨n - 1, by simp at hn; omega⟩
      simp only [m_slices_IndexFunc_Limpl_Value_impl_Value_l1, dlt hlt, at_of hx, hp y (List.mem_of_getElem? hx), ck1 (show k < 1000000000000 by omega), Option.bind_some, cond_true]
      cases hq : q y
      · obtain ⟨i, h1, h2⟩ := ih (k + 1) m hc.2.symm (by omega) (by simp at hn; omega)
        exact ⟨i, by simpa using h1, by rw [h2]; simp [hq]⟩
      · exact ⟨(k : Int), rfl, by simp [hq]⟩
  obtain ⟨i, h1, h2⟩ := key l 0 _ rfl (by omega) (show l.length < (((l.length : Int) - 0).toNat + 1) by omega)
  rw [show ((0 : Nat) : Int) = 0 from rfl] at h1
  rw [h1]
  simp only [Option.bind_some, h2]
theorem E_between (a b c : Int) : m_impl_between a b c = some (decide (b ≤ a) && decide (a ≤ c)) := by
  unfold m_impl_between m_impl_between_j1
  by_cases h : a ≥ b <;> simp [h]
theorem E_l1In (a b c : Int) : m_spec_l1In a b c = some (decide (b ≤ a) && decide (a ≤ c)) := by
  unfold m_spec_l1In m_spec_l1In_j1
  by_cases h : a ≥ b <;> simp [h]
theorem lower_any (l : List UInt8) : lower l = !(l.any fun b => !(decide (97 ≤ (b.toNat : Int)) && decide ((b.toNat : Int) ≤ 122))) := by
  unfold lower
  rw [List.all_eq_not_any_not]
  congr 2
  funext b
  congr 1
  have h1 : decide (97 ≤ b.toNat) = decide (97 ≤ (b.toNat : Int)) := by rw [decide_eq_decide]; omega
  have h2 : decide (b.toNat ≤ 122) = decide ((b.toNat : Int) ≤ 122) := by rw [decide_eq_decide]; omega
  rw [h1, h2]
theorem E_letters {s : ByteArray} (h : s.size ≤ 1000000) : m_impl_letters s = some (lower s.data.toList) := by
  unfold m_impl_letters sBytes?
  rw [if_pos (by omega)]
  simp only [Option.bind_some]
  have hl : s.data.toList.length ≤ 1000000 := h
  have := scanA (p := fun b : UInt8 => !(decide (97 ≤ (b.toNat : Int)) && decide ((b.toNat : Int) ≤ 122))) (r0 := false) (r1 := true) s.data.toList (fun n k => m_impl_letters_l1 n s.data.toList (s.data.toList.length : Int) k) (fun n k x hx => by
    have := lt_of_at hx
    simp only [m_impl_letters_l1, dlt this, at_of hx, E_between, ck1 (show k < 1000000000000 by omega), Option.bind_some, cond_true]) (fun n => by simp only [m_impl_letters_l1, dnlt]; rfl) _ fuel0
  rw [this, lower_any]
  cases s.data.toList.any fun b => !(decide (97 ≤ (b.toNat : Int)) && decide ((b.toNat : Int) ≤ 122)) <;> rfl
theorem sAt_of {s : ByteArray} {k : Nat} {x : UInt8} (h : s.data.toList[k]? = some x) : sAt? s (k : Int) = some x := by
  unfold sAt?
  rw [if_pos (by omega)]
  obtain ⟨h1, h2⟩ := List.getElem?_eq_some_iff.1 h
  have hs : k < s.size := by have := h1; rwa [Array.length_toList] at this
  have : s[k]? = some (s[k]'hs) := by simp [hs]
  rw [Int.toNat_natCast, this]
  congr 1
theorem E_l1Text {s : ByteArray} (h : s.size ≤ 1000000) : m_spec_l1Text s = some (lower s.data.toList && decide (s.size ≤ 6)) := by
  unfold m_spec_l1Text
  have hl : s.data.toList.length = s.size := rfl
  rw [← hl]
  have := scanA (p := fun b : UInt8 => !(decide (97 ≤ (b.toNat : Int)) && decide ((b.toNat : Int) ≤ 122))) (r0 := false) (r1 := decide ((s.size : Int) ≤ 6)) s.data.toList (fun n k => m_spec_l1Text_l1 n s k) (fun n k x hx => by
    have := lt_of_at hx
    have hd : decide ((k : Int) < (s.size : Int)) = true := by rw [← hl]; exact dlt this
    simp only [m_spec_l1Text_l1, m_spec_l1Text_j1, hd, sAt_of hx, ck1 (show k < 1000000000000 by omega), Option.bind_some, cond_true]
    have e1 : ((97 : UInt8).toNat : Int) = 97 := rfl
    have e2 : ((122 : UInt8).toNat : Int) = 122 := rfl
    rw [e1, e2]
    by_cases h1 : (x.toNat : Int) < 97
    · have : ¬ (97 ≤ (x.toNat : Int)) := by omega
      simp [h1, this]
    · have h1' : 97 ≤ (x.toNat : Int) := by omega
      by_cases h2 : (x.toNat : Int) > 122
      · have : ¬ ((x.toNat : Int) ≤ 122) := by omega
        simp [h1, h2, this]
      · have : (x.toNat : Int) ≤ 122 := by omega
        simp [h1, h2, this, h1']) (fun n => by simp only [m_spec_l1Text_l1, hl, dnlt]; rfl) _ fuel0
  rw [this, lower_any]
  have e : decide ((s.size : Int) ≤ 6) = decide (s.size ≤ 6) := by rw [decide_eq_decide]; omega
  rw [e]
  cases s.data.toList.any fun b => !(decide (97 ≤ (b.toNat : Int)) && decide ((b.toNat : Int) ≤ 122)) <;> simp
theorem E_Value_ok {v : V} (h : v.S.size ≤ 1000000) : m_impl_Value_ok v = some (vOk v) := by
  unfold m_impl_Value_ok m_impl_Value_ok_j1 m_impl_Value_ok_j2 m_impl_Value_ok_j3 vOk
  simp only [E_between, E_letters h, Option.bind_some, sEq_eq]
  by_cases h0 : v.Kind = 0
  · simp [h0]
  · by_cases h1 : v.Kind = 1
    · by_cases hs : v.S = ⟨#[]⟩ <;> simp [beqF h0, h0, h1, hs]
    · by_cases h2 : v.Kind = 2
      · by_cases hn : v.N = 0
        · by_cases hs : v.S.size ≤ 6
          · have : (v.S.size : Int) ≤ 6 := by omega
            simp [beqF h0, beqF h1, h0, h1, h2, hn, hs, this]
          · have : ¬ (v.S.size : Int) ≤ 6 := by omega
            simp [beqF h0, beqF h1, h0, h1, h2, hn, hs, this]
        · simp [beqF h0, beqF h1, h0, h1, h2, beqF hn, hn]
      · by_cases h3 : v.Kind = 3
        · by_cases hs : v.S = ⟨#[]⟩ <;> simp [beqF h0, beqF h1, beqF h2, h0, h1, h2, h3, hs]
        · simp [beqF h0, beqF h1, beqF h2, beqF h3, h0, h1, h2, h3]
theorem E_spec_ValueOk {v : V} (h : v.S.size ≤ 1000000) : m_spec_ValueOk v = some (vOk v) := by
  unfold m_spec_ValueOk m_spec_ValueOk_j1 m_spec_ValueOk_j2 m_spec_ValueOk_j3 m_spec_ValueOk_j4 vOk
  simp only [E_l1In, E_l1Text h, Option.bind_some, sEq_eq]
  obtain ⟨k, n, s⟩ := v
  simp only [S_impl_Value.mk.injEq]
  by_cases h0 : k = 0
  · by_cases hn : n = 0
    · simp [h0, hn]
    · simp [h0, hn, beqF hn]
  · by_cases h1 : k = 1
    · by_cases hs : s = ⟨#[]⟩ <;> by_cases ha : -9999 ≤ n <;> by_cases hb : n ≤ 9999 <;> simp [beqF h0, h0, h1, hs, ha, hb]
    · by_cases h2 : k = 2
      · by_cases hn : n = 0
        · simp [beqF h0, beqF h1, h0, h1, h2, hn, Bool.and_comm]
        · simp [beqF h0, beqF h1, h0, h1, h2, beqF hn, hn]
      · by_cases h3 : k = 3
        · by_cases hs : s = ⟨#[]⟩ <;> by_cases ha : 0 ≤ n <;> by_cases hb : n ≤ 1 <;> simp [beqF h0, beqF h1, beqF h2, h0, h1, h2, h3, hs, ha, hb]
        · simp [beqF h0, beqF h1, beqF h2, beqF h3, h0, h1, h2, h3]
theorem E_impl_RowOk {l : Row} (h : rSm l) : m_impl_RowOk l = some (rowOk l) := by
  unfold m_impl_RowOk m_impl_RowOk_j1 rowOk
  obtain ⟨h1, h2⟩ := h
  rw [E_IndexFunc_V (q := fun v => !(vOk v)) (by omega) (fun v hv => by unfold m_impl_RowOk_1; rw [E_Value_ok (by have := h2 v hv; unfold vSm at this; omega)]; rfl)]
  simp only [Option.bind_some]
  rw [List.all_eq_not_any_not]
  by_cases h : l.length ≤ 4
  · have : (l.length : Int) ≤ 4 := by omega
    simp [h, this]
  · have : ¬ (l.length : Int) ≤ 4 := by omega
    simp [h, this]
theorem E_spec_RowOk {l : Row} (h : rSm l) : m_spec_RowOk l = some (rowOk l) := by
  unfold m_spec_RowOk rowOk
  obtain ⟨h1, h2⟩ := h
  have := scanA (p := fun v => !(vOk v)) (r0 := false) (r1 := decide ((l.length : Int) ≤ 4)) l (fun n k => m_spec_RowOk_l1 n l k) (fun n k x hx => by
    have := lt_of_at hx
    have hsm := h2 x (List.mem_of_getElem? hx)
    unfold vSm at hsm
    simp only [m_spec_RowOk_l1, dlt this, at_of hx, E_spec_ValueOk (show x.S.size ≤ 1000000 by omega), ck1 (show k < 1000000000000 by omega), Option.bind_some, cond_true]) (fun n => by simp only [m_spec_RowOk_l1, dnlt]; rfl) _ fuel0
  rw [this, List.all_eq_not_any_not]
  have e : decide ((l.length : Int) ≤ 4) = decide (l.length ≤ 4) := by rw [decide_eq_decide]; omega
  rw [e]
  cases l.any fun v => !(vOk v) <;> simp
theorem E_allRows {l : Rows} (h : rsSm l) : m_laws_allRows l = some (l.all rowOk) := by
  unfold m_laws_allRows
  obtain ⟨h1, h2⟩ := h
  have := scanA (p := fun r => !(rowOk r)) (r0 := false) (r1 := true) l (fun n k => m_laws_allRows_l1 n l k) (fun n k x hx => by
    have := lt_of_at hx
    simp only [m_laws_allRows_l1, dlt this, at_of hx, E_impl_RowOk (h2 x (List.mem_of_getElem? hx)), ck1 (show k < 1000000000000 by omega), Option.bind_some, cond_true]) (fun n => by simp only [m_laws_allRows_l1, dnlt]; rfl) _ fuel0
  rw [this, List.all_eq_not_any_not]
  cases l.any fun v => !(rowOk v) <;> rfl
theorem E_alive : m_laws_alive = some true := by
  unfold m_laws_alive m_laws_alive_j1 m_impl_ValueOk
  rw [E_Value_ok (by decide), E_Value_ok (by decide)]
  rfl
end Go.Proofs.Ytemfdnnhknepbaa
