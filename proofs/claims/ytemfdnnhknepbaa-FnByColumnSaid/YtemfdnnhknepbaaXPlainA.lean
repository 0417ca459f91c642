/- What the mirrors come to, in plain Lean: the law itself at the end. -/
import Derived.Test.YtemfdnnhknepbaaXW5
import Derived.Test.YtemfdnnhknepbaaLd
set_option linter.unusedVariables false
set_option linter.unusedSimpArgs false
namespace Go.Proofs.Ytemfdnnhknepbaa
open Go.Proofs Go.Lift
abbrev V := S_impl_Value
abbrev Row := List V
abbrev Rows := List Row

def cmpI (a b : Int) : Int := if a < b then -1 else if b < a then 1 else 0
def cmpS (a b : ByteArray) : Int := if sLt a b then -1 else if sLt a b || sEq a b then 0 else 1
def orI (l : List Int) : Int := (l.find? (· != 0)).getD 0
def lower (l : List UInt8) : Bool := l.all fun b => decide (97 ≤ b.toNat) && decide (b.toNat ≤ 122)
/-- A value is one. -/
def vOk (v : V) : Bool :=
  if v.Kind = 0 then decide (v = ⟨0, 0, ⟨#[]⟩⟩)
  else if v.Kind = 1 then decide (v.S = ⟨#[]⟩) && (decide (-9999 ≤ v.N) && decide (v.N ≤ 9999))
  else if v.Kind = 2 then decide (v.N = 0) && decide (v.S.size ≤ 6) && lower v.S.data.toList
  else if v.Kind = 3 then decide (v.S = ⟨#[]⟩) && (decide (0 ≤ v.N) && decide (v.N ≤ 1))
  else false
def vOrd (v w : V) : Int := orI [cmpI v.Kind w.Kind, cmpI v.N w.N, cmpS v.S w.S]
def rowMany (rs : Rows) (r : Row) : Nat := rs.countP fun x => decide (x = r)
def rowOk (l : Row) : Bool := decide (l.length ≤ 4) && l.all vOk
/-- As memory holds it with ease. -/
def vSm (v : V) : Prop := v.S.size ≤ 1000
def rSm (l : Row) : Prop := l.length ≤ 1000 ∧ ∀ v ∈ l, vSm v
def rsSm (l : Rows) : Prop := l.length ≤ 100000 ∧ ∀ r ∈ l, rSm r
def cmpL {α : Type} (p : α → α → Int) : List α → List α → Int
  | [], [] => 0
  | [], _ :: _ => -1
  | _ :: _, [] => 1
  | a :: x, b :: y => if p a b = 0 then cmpL p x y else p a b
def vvOrd (a b : V) : Int := if vOk a && vOk b then vOrd a b else 0
theorem E_Equal {a b : Row} (ha : a.length ≤ 1000000) : m_slices_Equal_Limpl_Value_impl_Value a b = some (decide (a = b)) := by
  unfold m_slices_Equal_Limpl_Value_impl_Value
  by_cases h : a.length = b.length
  · have hc : ((a.length : Int) != (b.length : Int)) = false := by simp [h]
    rw [hc, cond_false, ← all2_eq h]
    refine scan2 a b h (fun n k => m_slices_Equal_Limpl_Value_impl_Value_l1 n a b (a.length : Int) k) (fun n k x y hx hy => ?_) (fun n => ?_) _ (by omega)
    · have := lt_of_at hx
      simp only [m_slices_Equal_Limpl_Value_impl_Value_l1, dlt this, at_of hx, at_of hy, ck1 (show k < 1000000000000 by omega), Option.bind_some, cond_true]
      cases decide (x = y) <;> rfl
    · simp only [m_slices_Equal_Limpl_Value_impl_Value_l1, dnlt]; rfl
  · have hc : ((a.length : Int) != (b.length : Int)) = true := by simp; omega
    rw [hc, cond_true]
    have : a ≠ b := fun e => h (by rw [e])
    simp [this]
theorem E_sameRow {a b : Row} (ha : a.length ≤ 1000000) : m_laws_sameRow a b = some (decide (a = b)) := by
  unfold m_laws_sameRow
  by_cases h : a.length = b.length
  · have hc : ((a.length : Int) != (b.length : Int)) = false := by simp [h]
    rw [hc, cond_false, ← all2_eq h]
    refine scan2 a b h (fun n k => m_laws_sameRow_l1 n a b k) (fun n k x y hx hy => ?_) (fun n => ?_) _ (by omega)
    · have := lt_of_at hx
      simp only [m_laws_sameRow_l1, dlt this, at_of hx, at_of hy, ck1 (show k < 1000000000000 by omega), Option.bind_some, cond_true]
      cases decide (x = y) <;> rfl
    · simp only [m_laws_sameRow_l1, dnlt]; rfl
  · have hc : ((a.length : Int) != (b.length : Int)) = true := by simp; omega
    rw [hc, cond_true]
    have : a ≠ b := fun e => h (by rw [e])
    simp [this]
theorem E_sameRows {a b : Rows} (ha : a.length ≤ 1000000) (hr : ∀ r ∈ a, r.length ≤ 1000000) : m_laws_sameRows a b = some (decide (a = b)) := by
  unfold m_laws_sameRows
  by_cases h : a.length = b.length
  · have hc : ((a.length : Int) != (b.length : Int)) = false := by simp [h]
    rw [hc, cond_false, ← all2_eq h]
    refine scan2 a b h (fun n k => m_laws_sameRows_l1 n a b k) (fun n k x y hx hy => ?_) (fun n => ?_) _ (by omega)
    · have := lt_of_at hx
      simp only [m_laws_sameRows_l1, dlt this, at_of hx, at_of hy, ck1 (show k < 1000000000000 by omega), Option.bind_some, cond_true, E_sameRow (hr x (List.mem_of_getElem? hx))]
      cases decide (x = y) <;> rfl
    · simp only [m_laws_sameRows_l1, dnlt]; rfl
  · have hc : ((a.length : Int) != (b.length : Int)) = true := by simp; omega
    rw [hc, cond_true]
    have : a ≠ b := fun e => h (by rw [e])
    simp [this]
theorem E_impl_RowMany {rs : Rows} {r : Row} (h : rs.length ≤ 1000000) (hr : ∀ x ∈ rs, x.length ≤ 1000000) : m_impl_RowMany rs r = some (rowMany rs r : Int) := by
  unfold m_impl_RowMany rowMany
  refine scanN (p := fun x => decide (x = r)) (J := fun s => some s) rs (fun n k s => m_impl_RowMany_l1 n r s rs (rs.length : Int) k) (fun n k x s hx h0 h1 => ?_) (fun n s => ?_) _ (by omega)
  · have := lt_of_at hx
    rw [m_impl_RowMany_l1, dlt this, cond_true, at_of hx, Option.bind_some, E_Equal (hr x (List.mem_of_getElem? hx)), Option.bind_some]
    simp only [m_impl_RowMany_j1]
    rw [ckI_of (by omega) (by omega), ck1 (show k < 1000000000000 by omega)]
    cases decide (x = r) <;> rfl
  · simp only [m_impl_RowMany_l1, dnlt]; rfl
theorem E_IndexFunc_V {l : Row} {p : V → Option Bool} {q : V → Bool} (hl : l.length ≤ 1000000) (hp : ∀ v ∈ l, p v = some (q v)) : m_slices_ContainsFunc_Limpl_Value_impl_Value l p = some (l.any q) := by
  unfold m_slices_ContainsFunc_Limpl_Value_impl_Value m_slices_IndexFunc_Limpl_Value_impl_Value
  have key : ∀ (ys : Row) (k n : Nat), l.drop k = ys → k ≤ l.length → ys.length < n → ∃ i : Int, m_slices_IndexFunc_Limpl_Value_impl_Value_l1 p n l (l.length : Int) (k : Int) = some i ∧ decide (i ≥ 0) = ys.any q := by
    intro ys
    induction ys with
    | nil =>
      intro k n hd hk hn
      have : k = l.length := by
        have := congrArg List.length hd
        simp at this; omega
      subst this
      obtain ⟨m, rfl⟩ : ∃ m, n = m + 1 := ⟨n - 1, by simp at hn; omega⟩
      exact ⟨-1, by simp only [m_slices_IndexFunc_Limpl_Value_impl_Value_l1, dnlt]; rfl, rfl⟩
    | cons y ys ih =>
      intro k n hd hk hn
      have hlt : k < l.length := by
        have := congrArg List.length hd
        simp at this; omega
      have hc := List.drop_eq_getElem_cons hlt
      rw [hd] at hc
      simp only [List.cons.injEq] at hc
      have hx : l[k]? = some y := by rw [List.getElem?_eq_getElem hlt, hc.1]
      obtain ⟨m, rfl⟩ : ∃ m, n = m + 1 := ⟨n - 1, by simp at hn; omega⟩
      simp only [m_slices_IndexFunc_Limpl_Value_impl_Value_l1, dlt hlt, at_of hx, hp y (List.mem_of_getElem? hx), ck1 (show k < 1000000000000 by omega), Option.bind_some, cond_true]
      cases hq : q y
      · obtain ⟨i, h1, h2⟩ := ih (k + 1) m hc.2.symm (by omega) (by simp at hn; omega)
        exact ⟨i, by simpa using h1, by rw [h2]; simp [hq]⟩
      · exact ⟨(k : Int), rfl, by simp [hq]⟩
  obtain ⟨i, h1, h2⟩ := key l 0 _ rfl (by omega) (show l.length < (((l.length : Int) - 0).toNat + 1) by omega)
  rw [show ((0 : Nat) : Int) = 0 from rfl] at h1
  rw [h1]
  simp only [Option.bind_some, h2]
theorem E_between (a b c : Int) : m_impl_between a b c = some (decide (b ≤ a) && decide (a ≤ c)) := by
  unfold m_impl_between m_impl_between_j1
  by_cases h : a ≥ b <;> simp [h]
theorem E_l1In (a b c : Int) : m_spec_l1In a b c = some (decide (b ≤ a) && decide (a ≤ c)) := by
  unfold m_spec_l1In m_spec_l1In_j1
  by_cases h : a ≥ b <;> simp [h]
theorem lower_any (l : List UInt8) : lower l = !(l.any fun b => !(decide (97 ≤ (b.toNat : Int)) && decide ((b.toNat : Int) ≤ 122))) := by
  unfold lower
  rw [List.all_eq_not_any_not]
  congr 2
  funext b
  congr 1
  have h1 : decide (97 ≤ b.toNat) = decide (97 ≤ (b.toNat : Int)) := by rw [decide_eq_decide]; omega
  have h2 : decide (b.toNat ≤ 122) = decide ((b.toNat : Int) ≤ 122) := by rw [decide_eq_decide]; omega
  rw [h1, h2]
theorem E_letters {s : ByteArray} (h : s.size ≤ 1000000) : m_impl_letters s = some (lower s.data.toList) := by
  unfold m_impl_letters sBytes?
  rw [if_pos (by omega)]
  simp only [Option.bind_some]
  have hl : s.data.toList.length ≤ 1000000 := h
  have := scanA (p := fun b : UInt8 => !(decide (97 ≤ (b.toNat : Int)) && decide ((b.toNat : Int) ≤ 122))) (r0 := false) (r1 := true) s.data.toList (fun n k => m_impl_letters_l1 n s.data.toList (s.data.toList.length : Int) k) (fun n k x hx => by
    have := lt_of_at hx
    simp only [m_impl_letters_l1, dlt this, at_of hx, E_between, ck1 (show k < 1000000000000 by omega), Option.bind_some, cond_true]) (fun n => by simp only [m_impl_letters_l1, dnlt]; rfl) _ fuel0
  rw [this, lower_any]
  cases s.data.toList.any fun b => !(decide (97 ≤ (b.toNat : Int)) && decide ((b.toNat : Int) ≤ 122)) <;> rfl
theorem sAt_of {s : ByteArray} {k : Nat} {x : UInt8} (h : s.data.toList[k]? = some x) : sAt? s (k : Int) = some x := by
  unfold sAt?
  rw [if_pos (by omega)]
  obtain ⟨h1, h2⟩ := List.getElem?_eq_some_iff.1 h
  have hs : k < s.size := by have := h1; rwa [Array.length_toList] at this
  have : s[k]? = some (s[k]'hs) := by simp [hs]
  rw [Int.toNat_natCast, this]
  congr 1
theorem E_l1Text {s : ByteArray} (h : s.size ≤ 1000000) : m_spec_l1Text s = some (lower s.data.toList && decide (s.size ≤ 6)) := by
  unfold m_spec_l1Text
  have hl : s.data.toList.length = s.size := rfl
  rw [← hl]
  have := scanA (p := fun b : UInt8 => !(decide (97 ≤ (b.toNat : Int)) && decide ((b.toNat : Int) ≤ 122))) (r0 := false) (r1 := decide ((s.size : Int) ≤ 6)) s.data.toList (fun n k => m_spec_l1Text_l1 n s k) (fun n k x hx => by
    have := lt_of_at hx
    have hd : decide ((k : Int) < (s.size : Int)) = true := by rw [← hl]; exact dlt this
    simp only [m_spec_l1Text_l1, m_spec_l1Text_j1, hd, sAt_of hx, ck1 (show k < 1000000000000 by omega), Option.bind_some, cond_true]
    have e1 : ((97 : UInt8).toNat : Int) = 97 := rfl
    have e2 : ((122 : UInt8).toNat : Int) = 122 := rfl
    rw [e1, e2]
    by_cases h1 : (x.toNat : Int) < 97
    · have : ¬ (97 ≤ (x.toNat : Int)) := by omega
      simp [h1, this]
    · have h1' : 97 ≤ (x.toNat : Int) := by omega
      by_cases h2 : (x.toNat : Int) > 122
      · have : ¬ ((x.toNat : Int) ≤ 122) := by omega
        simp [h1, h2, this]
      · have : (x.toNat : Int) ≤ 122 := by omega
        simp [h1, h2, this, h1']) (fun n => by simp only [m_spec_l1Text_l1, hl, dnlt]; rfl) _ fuel0
  rw [this, lower_any]
  have e : decide ((s.size : Int) ≤ 6) = decide (s.size ≤ 6) := by rw [decide_eq_decide]; omega
  rw [e]
  cases s.data.toList.any fun b => !(decide (97 ≤ (b.toNat : Int)) && decide ((b.toNat : Int) ≤ 122)) <;> simp
theorem E_Value_ok {v : V} (h : v.S.size ≤ 1000000) : m_impl_Value_ok v = some (vOk v) := by
  unfold m_impl_Value_ok m_impl_Value_ok_j1 m_impl_Value_ok_j2 m_impl_Value_ok_j3 vOk
  simp only [E_between, E_letters h, Option.bind_some, sEq_eq]
  by_cases h0 : v.Kind = 0
  · simp [h0]
  · by_cases h1 : v.Kind = 1
    · by_cases hs : v.S = ⟨#[]⟩ <;> simp [beqF h0, h0, h1, hs]
    · by_cases h2 : v.Kind = 2
      · by_cases hn : v.N = 0
        · by_cases hs : v.S.size ≤ 6
          · have : (v.S.size : Int) ≤ 6 := by omega
            simp [beqF h0, beqF h1, h0, h1, h2, hn, hs, this]
          · have : ¬ (v.S.size : Int) ≤ 6 := by omega
            simp [beqF h0, beqF h1, h0, h1, h2, hn, hs, this]
        · simp [beqF h0, beqF h1, h0, h1, h2, beqF hn, hn]
      · by_cases h3 : v.Kind = 3
        · by_cases hs : v.S = ⟨#[]⟩ <;> simp [beqF h0, beqF h1, beqF h2, h0, h1, h2, h3, hs]
        · simp [beqF h0, beqF h1, beqF h2, beqF h3, h0, h1, h2, h3]
theorem E_spec_ValueOk {v : V} (h : v.S.size ≤ 1000000) : m_spec_ValueOk v = some (vOk v) := by
  unfold m_spec_ValueOk m_spec_ValueOk_j1 m_spec_ValueOk_j2 m_spec_ValueOk_j3 m_spec_ValueOk_j4 vOk
  simp only [E_l1In, E_l1Text h, Option.bind_some, sEq_eq]
  obtain ⟨k, n, s⟩ := v
  simp only [S_impl_Value.mk.injEq]
  by_cases h0 : k = 0
  · by_cases hn : n = 0
    · simp [h0, hn]
    · simp [h0, hn, beqF hn]
  · by_cases h1 : k = 1
    · by_cases hs : s = ⟨#[]⟩ <;> by_cases ha : -9999 ≤ n <;> by_cases hb : n ≤ 9999 <;> simp [beqF h0, h0, h1, hs, ha, hb]
    · by_cases h2 : k = 2
      · by_cases hn : n = 0
        · simp [beqF h0, beqF h1, h0, h1, h2, hn, Bool.and_comm]
        · simp [beqF h0, beqF h1, h0, h1, h2, beqF hn, hn]
      · by_cases h3 : k = 3
        · by_cases hs : s = ⟨#[]⟩ <;> by_cases ha : 0 ≤ n <;> by_cases hb : n ≤ 1 <;> simp [beqF h0, beqF h1, beqF h2, h0, h1, h2, h3, hs, ha, hb]
        · simp [beqF h0, beqF h1, beqF h2, beqF h3, h0, h1, h2, h3]
theorem E_impl_RowOk {l : Row} (h : rSm l) : m_impl_RowOk l = some (rowOk l) := by
  unfold m_impl_RowOk m_impl_RowOk_j1 rowOk
  obtain ⟨h1, h2⟩ := h
  rw [E_IndexFunc_V (q := fun v => !(vOk v)) (by omega) (fun v hv => by unfold m_impl_RowOk_1; rw [E_Value_ok (by have := h2 v hv; unfold vSm at this; omega)]; rfl)]
  simp only [Option.bind_some]
  rw [List.all_eq_not_any_not]
  by_cases h : l.length ≤ 4
  · have : (l.length : Int) ≤ 4 := by omega
    simp [h, this]
  · have : ¬ (l.length : Int) ≤ 4 := by omega
    simp [h, this]
theorem E_spec_RowOk {l : Row} (h : rSm l) : m_spec_RowOk l = some (rowOk l) := by
  unfold m_spec_RowOk rowOk
  obtain ⟨h1, h2⟩ := h
  have := scanA (p := fun v => !(vOk v)) (r0 := false) (r1 := decide ((l.length : Int) ≤ 4)) l (fun n k => m_spec_RowOk_l1 n l k) (fun n k x hx => by
    have := lt_of_at hx
    have hsm := h2 x (List.mem_of_getElem? hx)
    unfold vSm at hsm
    simp only [m_spec_RowOk_l1, dlt this, at_of hx, E_spec_ValueOk (show x.S.size ≤ 1000000 by omega), ck1 (show k < 1000000000000 by omega), Option.bind_some, cond_true]) (fun n => by simp only [m_spec_RowOk_l1, dnlt]; rfl) _ fuel0
  rw [this, List.all_eq_not_any_not]
  have e : decide ((l.length : Int) ≤ 4) = decide (l.length ≤ 4) := by rw [decide_eq_decide]; omega
  rw [e]
  cases l.any fun v => !(vOk v) <;> simp
theorem E_alive : m_laws_alive = some true := by
  unfold m_laws_alive m_laws_alive_j1 m_impl_ValueOk
  rw [E_Value_ok (by decide), E_Value_ok (by decide)]
  rfl
theorem E_Concat2 {a b : Rows} (ha : a.length ≤ 1000000) (hb : b.length ≤ 1000000) : m_slices_Concat_LLimpl_Value_Limpl_Value [a, b] = some (a ++ b) := by
  unfold m_slices_Concat_LLimpl_Value_Limpl_Value
  rw [show ((([a, b] : List Rows).length : Int) - 0).toNat + 1 = 2 + 1 from rfl, show (([a, b] : List Rows).length : Int) = 2 from rfl]
  have a0 : at? [a, b] 0 = some a := rfl
  have a1 : at? [a, b] 1 = some b := rfl
  have k1 : ckI (0 + 1) = some 1 := rfl
  have k2 : ckI (1 + 1) = some 2 := rfl
  have d0 : decide ((0 : Int) < 2) = true := rfl
  have d1 : decide ((1 : Int) < 2) = true := rfl
  have d2 : decide ((2 : Int) < 2) = false := rfl
  rw [m_slices_Concat_LLimpl_Value_Limpl_Value_l1, d0, cond_true, a0, Option.bind_some, ckI_of (by omega) (by omega), Option.bind_some]
  rw [show decide (0 + (a.length : Int) < 0) = false by rw [decide_eq_false_iff_not]; omega, cond_false, k1, Option.bind_some]
  rw [m_slices_Concat_LLimpl_Value_Limpl_Value_l1, d1, cond_true, a1, Option.bind_some, ckI_of (by omega) (by omega), Option.bind_some]
  rw [show decide (0 + (a.length : Int) + (b.length : Int) < 0) = false by rw [decide_eq_false_iff_not]; omega, cond_false, k2, Option.bind_some]
  rw [m_slices_Concat_LLimpl_Value_Limpl_Value_l1, d2, cond_false]
  unfold m_slices_Concat_LLimpl_Value_Limpl_Value_j1 m_slices_Grow_LLimpl_Value_Limpl_Value
  rw [if_pos (by omega), Option.bind_some, show ((([a, b] : List Rows).length : Int) - 0).toNat + 1 = 2 + 1 from rfl, show (([a, b] : List Rows).length : Int) = 2 from rfl]
  rw [m_slices_Concat_LLimpl_Value_Limpl_Value_l2, d0, cond_true, a0, Option.bind_some, app_of (by simp; omega), Option.bind_some, k1, Option.bind_some]
  rw [m_slices_Concat_LLimpl_Value_Limpl_Value_l2, d1, cond_true, a1, Option.bind_some, app_of (by simp; omega), Option.bind_some, k2, Option.bind_some]
  rw [m_slices_Concat_LLimpl_Value_Limpl_Value_l2, d2, cond_false]
  rfl
theorem E_impl_SameBag {a b : Rows} (ha : rsSm a) (hb : rsSm b) : m_impl_SameBag a b = some ((a ++ b).all fun r => decide (rowMany a r = rowMany b r)) := by
  unfold m_impl_SameBag
  obtain ⟨ha1, ha2⟩ := ha
  obtain ⟨hb1, hb2⟩ := hb
  rw [E_Concat2 (by omega) (by omega), Option.bind_some]
  have hl : (a ++ b).length ≤ 1000000 := by simp; omega
  have := scanA (p := fun r => !(decide (rowMany a r = rowMany b r))) (r0 := false) (r1 := true) (a ++ b) (fun n k => m_impl_SameBag_l1 n a b (a ++ b) ((a ++ b).length : Int) k) (fun n k x hx => by
    have := lt_of_at hx
    rw [m_impl_SameBag_l1, dlt this, cond_true, at_of hx, Option.bind_some, E_impl_RowMany (by omega) (fun x hx => by have := (ha2 x hx).1; omega), Option.bind_some, E_impl_RowMany (by omega) (fun x hx => by have := (hb2 x hx).1; omega), Option.bind_some, ck1 (show k < 1000000000000 by omega), Option.bind_some]
    congr 1
    rw [Bool.eq_iff_iff]; simp; omega) (fun n => by rw [m_impl_SameBag_l1, dnlt]; rfl) _ fuel0
  rw [this, List.all_eq_not_any_not]
  cases (a ++ b).any fun r => !(decide (rowMany a r = rowMany b r)) <;> rfl
theorem E_CompareI (a b : Int) : m_cmp_Compare_int a b = some (cmpI a b) := by
  unfold m_cmp_Compare_int m_cmp_isNaN_int cmpI
  have e : ∀ x : Int, (x != x) = false := fun x => by simp
  simp only [e, Option.bind_some, cond_false]
  by_cases h : a < b
  · simp [h]
  · by_cases h2 : a > b
    · simp [h, h2]
    · simp [h, h2]
theorem E_CompareS (a b : ByteArray) : m_cmp_Compare_string a b = some (cmpS a b) := by
  unfold m_cmp_Compare_string m_cmp_isNaN_string cmpS
  have e : ∀ x : ByteArray, (!(sEq x x)) = false := fun x => by simp [sEq_eq]
  simp only [e, Option.bind_some, cond_false]
  cases h1 : sLt a b <;> cases h2 : sEq a b <;> simp
theorem E_l1Cmp (a b : ByteArray) : m_spec_l1Cmp a b = some (cmpS a b) := by
  unfold m_spec_l1Cmp cmpS
  cases h1 : sLt a b <;> cases h2 : sEq a b <;> simp
theorem E_Or {l : List Int} (h : l.length ≤ 1000000) : m_cmp_Or_int l = some (orI l) := by
  unfold m_cmp_Or_int
  rw [scanC l (fun n k (_ : Unit) => m_cmp_Or_int_l1 n 0 l (l.length : Int) k) (fun x s k => bif (x != 0) then some x else k s) (fun _ => some 0) (fun n k x s hx => by
    have := lt_of_at hx
    rw [m_cmp_Or_int_l1, dlt this, cond_true, at_of hx, Option.bind_some, ck1 (show k < 1000000000000 by omega), Option.bind_some]) (fun n s => by rw [m_cmp_Or_int_l1, dnlt]; rfl) _ fuel0 ()]
  clear h
  unfold orI
  induction l with
  | nil => rfl
  | cons x l ih =>
    simp only [foldC, List.find?_cons]
    cases hx : (x != 0)
    · simpa using ih
    · rfl
theorem E_order (v w : V) : m_impl_Value_order v w = some (vOrd v w) := by
  unfold m_impl_Value_order vOrd
  rw [E_CompareI, Option.bind_some, E_CompareI, Option.bind_some, E_CompareS, Option.bind_some, E_Or (by simp)]
  rfl
def lessI (a b : Int) : Int := if a < b then 1 else 0
theorem E_Less (a b : Int) : m_spec_l1Less a b = some (lessI a b) := by
  unfold m_spec_l1Less lessI
  by_cases h : a < b <;> simp [h]
theorem less_b (a b : Int) : 0 ≤ lessI a b ∧ lessI a b ≤ 1 := by unfold lessI; split <;> omega
theorem orI_1 {x : Int} {l : List Int} (h : x ≠ 0) : orI (x :: l) = x := by simp [orI, h]
theorem orI_0 {l : List Int} : orI (0 :: l) = orI l := by simp [orI]
theorem cmpI_0 {a b : Int} : cmpI a b = 0 ↔ a = b := by unfold cmpI; split <;> (try split) <;> omega
theorem less_cmp {a b : Int} (h : a ≠ b) : 2 * lessI b a - 1 = cmpI a b := by unfold lessI cmpI; split <;> split <;> (try split) <;> omega
theorem E_ValueOrder {a b : V} (ha : vSm a) (hb : vSm b) : m_spec_ValueOrder a b = some (vvOrd a b) := by
  unfold m_spec_ValueOrder m_spec_ValueOrder_j1 vvOrd vOrd
  unfold vSm at ha hb
  rw [E_spec_ValueOk (by omega), Option.bind_some, E_spec_ValueOk (by omega), Option.bind_some]
  cases vOk a
  · rfl
  cases vOk b
  · rfl
  simp only [Bool.not_true, cond_false, Bool.and_self, if_true, E_Less, E_l1Cmp, Option.bind_some]
  by_cases h1 : a.Kind = b.Kind
  · have : (a.Kind != b.Kind) = false := by simp [h1]
    rw [this, cond_false, cmpI_0.2 h1, orI_0]
    by_cases h2 : a.N = b.N
    · have : (a.N != b.N) = false := by simp [h2]
      rw [this, cond_false, cmpI_0.2 h2, orI_0]
      by_cases h3 : cmpS a.S b.S = 0
      · rw [h3, orI_0]; rfl
      · rw [orI_1 h3]
    · rw [beqF' h2, cond_true, orI_1 (by rw [ne_eq, cmpI_0]; exact h2), ← less_cmp h2]
      have := less_b b.N a.N
      rw [ckI_of (by omega) (by omega), Option.bind_some, ckI_of (by omega) (by omega), Option.bind_some]
  · rw [beqF' h1, cond_true, orI_1 (by rw [ne_eq, cmpI_0]; exact h1), ← less_cmp h1]
    have := less_b b.Kind a.Kind
    rw [ckI_of (by omega) (by omega), Option.bind_some, ckI_of (by omega) (by omega), Option.bind_some]
theorem E_clone {l : Row} (h : l.length ≤ 1000000) : m_impl_clone_impl_Value l = some l := by
  unfold m_impl_clone_impl_Value appN?
  cases l with
  | nil => rfl
  | cons x l =>
    have e : (((x :: l).length : Int) == 0) = false := by simp; omega
    rw [e, cond_false, if_pos ⟨by simp, by omega⟩, Option.bind_some]; rfl
theorem foldl_snoc {α : Type} : ∀ (l a : List α), l.foldl (fun s x => s ++ [x]) a = a ++ l
  | [], a => by simp
  | x :: l, a => by rw [List.foldl_cons, foldl_snoc l]; simp
theorem E_rowsCopy {l : Rows} (h : l.length ≤ 1000000) (hr : ∀ r ∈ l, r.length ≤ 1000000) : m_impl_rowsCopy l = some l := by
  unfold m_impl_rowsCopy
  have := (scanF (f := fun (s : Rows) x => s ++ [x]) (J := fun s => some s) (fun k s => s.length = k) l (fun n k s => m_impl_rowsCopy_l1 n l (l.length : Int) k s) (fun n k x s hx hI => by
    have := lt_of_at hx
    rw [m_impl_rowsCopy_l1, dlt this, cond_true, at_of hx, Option.bind_some, E_clone (hr x (List.mem_of_getElem? hx)), Option.bind_some, app_of (by simp; omega), Option.bind_some, ck1 (show k < 1000000000000 by omega), Option.bind_some]
    exact ⟨rfl, by simp [hI]⟩) (fun n s _ => by
      rw [m_impl_rowsCopy_l1, dnlt, cond_false]
      unfold m_impl_rowsCopy_j1
      rfl) _ fuel0 [] rfl).1
  rw [this, foldl_snoc]; rfl
theorem E_l3Own {l : Row} (h : l.length ≤ 1000000) : m_spec_l3Own l = some l := by
  unfold m_spec_l3Own
  rw [app_of (by simp; omega)]; rfl

theorem cut_of {α : Type} {l : List α} {lo hi : Nat} (h : lo ≤ hi) (h2 : hi ≤ l.length) : cut? l (lo : Int) (hi : Int) = some ((l.take hi).drop lo) := by
  unfold cut?
  rw [if_pos (by omega)]
  simp
abbrev Rd := S_spec_l20Rd
theorem tmod_b {m n : Int} (h : 0 ≤ m) (hn : 0 < n) : 0 ≤ m.tmod n ∧ m.tmod n < n := ⟨Int.tmod_nonneg n h, Int.tmod_lt_of_pos m hn⟩
theorem tdiv_b {m n : Int} (h : 0 ≤ m) (hn : 0 < n) : 0 ≤ m.tdiv n ∧ m.tdiv n ≤ m := ⟨Int.tdiv_nonneg h (Int.le_of_lt hn), Int.tdiv_le_self _ h⟩
theorem T_pick {o : Rd} {n : Int} (ho : 0 ≤ o.p ∧ o.p ≤ 1000000000) : Tot (m_Pspec_l20Rd_pick o n) fun r => 0 ≤ r.1 ∧ (r.1 < n ∨ r.1 = 0) ∧ r.2.p = o.p + 1 := by
  unfold m_Pspec_l20Rd_pick
  refine Tot.ck (by omega) (by omega) (Tot.lt ?_)
  refine Tot.bif (fun h => ?_) (fun h => ?_)
  · unfold m_Pspec_l20Rd_pick_j1
    exact Tot.ret ⟨Int.le_refl _, .inr rfl, rfl⟩
  · simp only [decide_eq_false_iff_not] at h
    unfold m_Pspec_l20Rd_pick_j1
    refine Tot.bif (fun h2 => Tot.ret ⟨Int.le_refl _, .inr rfl, rfl⟩) (fun h2 => ?_)
    have hb : 0 < (o.b.length : Int) := by simp at h2; have := List.length_pos_iff.2 h2; omega
    refine Tot.ck (by simp only; omega) (by simp only; omega) ?_
    have e : (o.p + 1 - 1) = o.p := by omega
    simp only [e]
    refine Tot.bif (fun h3 => ?_) (fun h3 => ?_)
    · simp only [decide_eq_true_eq] at h3
      refine Tot.at (by omega) h3 (fun x _ => ?_)
      refine Tot.rem (by omega) (Tot.ret ?_)
      have := tmod_b (m := (x.toNat : Int)) (n := n) (by omega) (by omega)
      exact ⟨this.1, .inl this.2, rfl⟩
    · have m1 := tmod_b (m := o.p) (n := o.b.length) (by omega) hb
      refine Tot.rem (by omega) (Tot.at m1.1 m1.2 (fun x _ => ?_))
      have hx := x.toNat_lt
      refine Tot.ck (by omega) (by omega) (Tot.ck (by omega) (by omega) (Tot.ck (by omega) (by omega) ?_))
      have m2 := tmod_b (m := o.p * 7 + 3) (n := o.b.length) (by omega) hb
      refine Tot.rem (by omega) (Tot.at m2.1 m2.2 (fun y _ => ?_))
      have hy := y.toNat_lt
      refine Tot.ck (by omega) (by omega) (Tot.ck (by omega) (by omega) (Tot.ck (by omega) (by omega) (Tot.ck (by omega) (by omega) ?_)))
      have d1 := tdiv_b (m := o.p) (n := o.b.length) (by omega) hb
      refine Tot.quo (by omega) (by omega) (by omega) (Tot.ck (by omega) (by omega) (Tot.ck (by omega) (by omega) ?_))
      have hz : 0 ≤ (x.toNat : Int) * 131 + (y.toNat : Int) * 1117 + o.p * 29 + o.p.tdiv o.b.length * 53 ∧ (x.toNat : Int) * 131 + (y.toNat : Int) * 1117 + o.p * 29 + o.p.tdiv o.b.length * 53 < 1000000000000 := by omega
      generalize (x.toNat : Int) * 131 + (y.toNat : Int) * 1117 + o.p * 29 + o.p.tdiv o.b.length * 53 = z at hz ⊢
      have d2 := tdiv_b (m := z) (n := 64) (by omega) (by omega)
      refine Tot.quo (by omega) (by omega) (by omega) (Tot.xor (by omega) (fun u h4 h5 => Tot.rem (by omega) (Tot.ret ?_)))
      have := tmod_b (m := u) (n := n) (by omega) (by omega)
      exact ⟨this.1, .inl this.2, rfl⟩
theorem T_odd {o : Rd} {n : Int} (ho : 0 ≤ o.p ∧ o.p ≤ 1000000000) (hn : -1000000 ≤ n ∧ n ≤ 1000000) : Tot (m_Pspec_l20Rd_odd o n) fun r => o.p ≤ r.2.p ∧ r.2.p ≤ o.p + 1 := by
  unfold m_Pspec_l20Rd_odd m_Pspec_l20Rd_odd_j1
  refine Tot.bif (fun h => ?_) (fun h => Tot.ret ⟨Int.le_refl _, by simp only; omega⟩)
  refine Tot.bind (T_pick ho) (fun r hr => ?_)
  exact Tot.ck (by omega) (by omega) (Tot.ret ⟨by simp only; omega, by simp only; omega⟩)
/-- A value that was drawn. -/
def vDr (v : V) : Prop := v.S.size ≤ 20 ∧ -10000 ≤ v.N ∧ v.N ≤ 10000 ∧ -10 ≤ v.Kind ∧ v.Kind ≤ 10
theorem T_l20Value_j3 {n : Int} {o : Rd} {v w : V} (ho : 0 ≤ o.p ∧ o.p ≤ 1000000000 - 10) (hn : -1000000 ≤ n ∧ n ≤ 1000000) (hv : w.S.size ≤ 10 ∧ -10000 ≤ w.N ∧ w.N ≤ 10000 ∧ -10 ≤ w.Kind ∧ w.Kind ≤ 10) : Tot (m_spec_l20Value_j3 n o v w) fun r => vDr r.1 ∧ o.p ≤ r.2.p ∧ r.2.p ≤ o.p + 5 := by
  unfold m_spec_l20Value_j3 m_spec_l20Value_j4
  refine Tot.bind (T_odd (by omega) hn) (fun r hr => ?_)
  refine Tot.bif (fun _ => ?_) (fun _ => ?_)
  · refine Tot.bind (T_pick (by omega)) (fun q hq => ?_)
    refine Tot.bif (fun _ => ?_) (fun _ => Tot.bif (fun _ => ?_) (fun _ => Tot.bif (fun _ => ?_) (fun _ => ?_)))
    · refine Tot.lt (Tot.lt (Tot.ret ⟨⟨by simp only; omega, by simp only; omega, by simp only; omega, by simp only; omega, by simp only; omega⟩, by simp only; omega, by simp only; omega⟩))
    · refine Tot.cat (by rw [show ByteArray.size ⟨#[97, 98, 99, 100, 101, 102, 103]⟩ = 7 from rfl]; omega) (Tot.lt (Tot.lt (Tot.ret ⟨⟨?_, by simp only; omega, by simp only; omega, by simp only; omega, by simp only; omega⟩, by simp only; omega, by simp only; omega⟩)))
      simp only [ByteArray.size_append]
      rw [show ByteArray.size ⟨#[97, 98, 99, 100, 101, 102, 103]⟩ = 7 from rfl]; omega
    · refine Tot.bind (T_pick (by omega)) (fun u hu => ?_)
      refine Tot.ck (by omega) (by omega) (Tot.lt (Tot.lt (Tot.ret ⟨⟨by simp only; omega, by simp only; omega, by simp only; omega, by simp only; omega, by simp only; omega⟩, by simp only; omega, by simp only; omega⟩)))
    · refine Tot.cat (by rw [show ByteArray.size ⟨#[65]⟩ = 1 from rfl]; omega) (Tot.lt (Tot.lt (Tot.ret ⟨⟨?_, by simp only; omega, by simp only; omega, by simp only; omega, by simp only; omega⟩, by simp only; omega, by simp only; omega⟩)))
      simp only [ByteArray.size_append]
      rw [show ByteArray.size ⟨#[65]⟩ = 1 from rfl]; omega
  · exact Tot.lt (Tot.ret ⟨⟨by simp only; omega, by simp only; omega, by simp only; omega, by simp only; omega, by simp only; omega⟩, by simp only; omega, by simp only; omega⟩)
theorem T_l20Value_l1 {n : Int} {v : V} (hn : -1000000 ≤ n ∧ n ≤ 1000000) {p : Int} (hp : 0 ≤ p ∧ p ≤ 1000000000 - 20) : ∀ (f : Nat) (t : Int) (s : Rd × V), 0 ≤ t → t < f → (t ≤ 4 ∧ p ≤ s.1.p ∧ s.1.p + t ≤ p + 4 ∧ (s.2.S.size : Int) + t ≤ 4 ∧ -10000 ≤ s.2.N ∧ s.2.N ≤ 10000 ∧ -10 ≤ s.2.Kind ∧ s.2.Kind ≤ 10) →
    Tot (m_spec_l20Value_l1 f n t s.1 v s.2) fun r => vDr r.1 ∧ p ≤ r.2.p ∧ r.2.p ≤ p + 9 := by
  refine Tot.down (fun f t (s : Rd × V) => m_spec_l20Value_l1 f n t s.1 v s.2) _ (fun f s h => ?_) (fun f t s ht h ih => ?_)
  · rw [m_spec_l20Value_l1, show decide ((0 : Int) > 0) = false from rfl, cond_false]
    exact (T_l20Value_j3 (by omega) hn ⟨by omega, by omega, by omega, by omega, by omega⟩).mono fun r hr => ⟨hr.1, by omega, by omega⟩
  · rw [m_spec_l20Value_l1, decide_eq_true (show t > 0 by omega), cond_true]
    refine Tot.bind (T_pick (by omega)) (fun r hr => ?_)
    refine Tot.ck (by omega) (by omega) (Tot.cat ?_ (Tot.lt (Tot.ck (by omega) (by omega) ?_)))
    · rw [show (bStr [Lift.byteOf (97 + r.1)]).size = 1 from rfl]; omega
    · refine ih (r.2, { s.2 with S := s.2.S ++ bStr [Lift.byteOf (97 + r.1)] }) ⟨by omega, by simp only; omega, by simp only; omega, ?_, by simp only; omega, by simp only; omega, by simp only; omega, by simp only; omega⟩
      simp only [ByteArray.size_append]
      rw [show (bStr [Lift.byteOf (97 + r.1)]).size = 1 from rfl]; omega
theorem T_l20Value {o : Rd} {n : Int} (ho : 0 ≤ o.p ∧ o.p ≤ 1000000000 - 100) (hn : -1000000 ≤ n ∧ n ≤ 1000000) : Tot (m_spec_l20Value o n) fun r => vDr r.1 ∧ o.p ≤ r.2.p ∧ r.2.p ≤ o.p + 15 := by
  unfold m_spec_l20Value
  have e0 : ByteArray.size ⟨#[]⟩ = 0 := rfl
  have j2 : ∀ (b : Bool) (q : Rd) (v w : V), o.p ≤ q.p → q.p ≤ o.p + 2 → w.S.size = 0 → w.N = 0 → w.Kind = 0 → Tot (m_spec_l20Value_j2 n b q v w) fun r => vDr r.1 ∧ o.p ≤ r.2.p ∧ r.2.p ≤ o.p + 15 := by
    intro b q v w h1 h2 h3 h4 h5
    unfold m_spec_l20Value_j2
    refine Tot.bif (fun _ => Tot.lt ?_) (fun _ => ?_)
    · refine Tot.bind (T_pick (by omega)) (fun r hr => ?_)
      exact (T_l20Value_l1 (v := v) hn (p := r.2.p) (by omega) _ r.1 (r.2, ⟨2, 0, ⟨#[]⟩⟩) (by omega) (by omega) ⟨by omega, by simp only; omega, by simp only; omega, by simp only [e0]; omega, by first | decide | omega | (simp only; omega), by first | decide | omega | (simp only; omega), by first | decide | omega | (simp only; omega), by first | decide | omega | (simp only; omega)⟩).mono fun x hx => ⟨hx.1, by omega, by omega⟩
    · refine Tot.bind (T_pick (by omega)) (fun r hr => Tot.lt ?_)
      exact (T_l20Value_j3 (by omega) hn ⟨by simp only [e0]; omega, by simp only; omega, by simp only; omega, by first | decide | omega | (simp only; omega), by first | decide | omega | (simp only; omega)⟩).mono fun x hx => ⟨hx.1, by omega, by omega⟩
  have j1 : ∀ (t : Int) (b : Bool) (q : Rd) (v w : V), o.p ≤ q.p → q.p ≤ o.p + 1 → w.S.size = 0 → w.N = 0 → w.Kind = 0 → Tot (m_spec_l20Value_j1 n t b q v w) fun r => vDr r.1 ∧ o.p ≤ r.2.p ∧ r.2.p ≤ o.p + 15 := by
    intro t b q v w h1 h2 h3 h4 h5
    unfold m_spec_l20Value_j1
    refine Tot.bif (fun _ => ?_) (fun _ => Tot.bif (fun _ => j2 _ _ _ _ h1 (by omega) h3 h4 h5) (fun _ => j2 _ _ _ _ h1 (by omega) h3 h4 h5))
    refine Tot.bind (T_pick (by omega)) (fun r hr => Tot.ck (by omega) (by omega) (Tot.lt ?_))
    refine Tot.bind (T_pick (by omega)) (fun u hu => Tot.bif (fun _ => ?_) (fun _ => ?_))
    · refine Tot.bind (T_pick (by omega)) (fun x hx => Tot.at (by omega) (by simp only [List.length_cons, List.length_nil]; omega) (fun y hy => Tot.lt ?_))
      have hy' : -10000 ≤ y ∧ y ≤ 10000 := by simp at hy; omega
      exact (T_l20Value_j3 (by omega) hn ⟨by simp only [e0]; omega, by simp only; omega, by simp only; omega, by first | decide | omega | (simp only; omega), by first | decide | omega | (simp only; omega)⟩).mono fun x hx => ⟨hx.1, by omega, by omega⟩
    · exact (T_l20Value_j3 (by omega) hn ⟨by simp only [e0]; omega, by simp only; omega, by simp only; omega, by first | decide | omega | (simp only; omega), by first | decide | omega | (simp only; omega)⟩).mono fun x hx => ⟨hx.1, by omega, by omega⟩
  refine Tot.lt (Tot.bind (T_pick (by omega)) (fun r hr => ?_))
  refine Tot.bif (fun _ => ?_) (fun _ => Tot.bif (fun _ => ?_) (fun _ => Tot.bif (fun _ => ?_) (fun _ => ?_)))
  · exact (T_l20Value_j3 (by omega) hn ⟨by simp only [e0]; omega, by simp only; omega, by simp only; omega, by first | decide | omega | (simp only; omega), by first | decide | omega | (simp only; omega)⟩).mono fun x hx => ⟨hx.1, by omega, by omega⟩
  · exact j1 _ _ _ _ _ (by omega) (by omega) rfl rfl rfl
  · exact j1 _ _ _ _ _ (by omega) (by omega) rfl rfl rfl
  · exact j1 _ _ _ _ _ (by omega) (by omega) rfl rfl rfl
def cDr (c : S_impl_Column) : Prop := -10 ≤ c.Kind ∧ c.Kind ≤ 10
theorem T_l20Like {o : Rd} {c : S_impl_Column} (ho : 0 ≤ o.p ∧ o.p ≤ 1000000000 - 100) : Tot (m_spec_l20Like o c) fun r => vDr r.1 ∧ o.p ≤ r.2.p ∧ r.2.p ≤ o.p + 3 := by
  unfold m_spec_l20Like
  have e0 : ByteArray.size ⟨#[]⟩ = 0 := rfl
  have j1 : ∀ (b : Bool) (q : Rd) (v : V), o.p ≤ q.p → q.p ≤ o.p + 1 → Tot (m_spec_l20Like_j1 c b q v) fun r => vDr r.1 ∧ o.p ≤ r.2.p ∧ r.2.p ≤ o.p + 3 := by
    intro b q v h1 h2
    unfold m_spec_l20Like_j1
    refine Tot.bif (fun _ => Tot.lt (Tot.ret ⟨⟨by first | decide | omega | (simp only; omega), by first | decide | omega | (simp only; omega), by first | decide | omega | (simp only; omega), by first | decide | omega | (simp only; omega), by first | decide | omega | (simp only; omega)⟩, h1, by simp only; omega⟩)) (fun _ => Tot.bif (fun _ => ?_) (fun _ => Tot.bif (fun _ => ?_) (fun _ => ?_)))
    · refine Tot.bind (T_pick (by omega)) (fun r hr => Tot.lt (Tot.ret ⟨⟨by simp only [e0]; omega, by simp only; omega, by simp only; omega, by simp only; omega, by simp only; omega⟩, by simp only; omega, by simp only; omega⟩))
    · refine Tot.bind (T_pick (by omega)) (fun r hr => Tot.at (by omega) (by simp only [List.length_cons, List.length_nil]; omega) (fun y hy => Tot.lt (Tot.ret ⟨⟨?_, by simp only; omega, by simp only; omega, by simp only; omega, by simp only; omega⟩, by simp only; omega, by simp only; omega⟩)))
      simp only [List.mem_cons, List.mem_nil_iff, or_false] at hy
      rcases hy with rfl | rfl | rfl | rfl <;> exact Nat.le_of_ble_eq_true rfl
    · refine Tot.bind (T_pick (by omega)) (fun r hr => Tot.lt (Tot.ret ⟨⟨by simp only [e0]; omega, by simp only; omega, by simp only; omega, by simp only; omega, by simp only; omega⟩, by simp only; omega, by simp only; omega⟩))
  refine Tot.bif (fun _ => Tot.bind (T_pick (by omega)) (fun r hr => j1 _ _ _ (by omega) (by omega))) (fun _ => j1 _ _ _ (by omega) (by omega))
theorem T_l20Columns {o : Rd} {n : Int} (ho : 0 ≤ o.p ∧ o.p ≤ 1000000000 - 100) (hn : -1000000 ≤ n ∧ n ≤ 1000000) : Tot (m_spec_l20Columns o n) fun r => (1 ≤ r.1.length ∧ r.1.length ≤ 6 ∧ ∀ c ∈ r.1, cDr c) ∧ o.p ≤ r.2.p ∧ r.2.p ≤ o.p + 20 := by
  unfold m_spec_l20Columns
  refine Tot.bind (T_pick (by omega)) (fun r hr => Tot.ck (by omega) (by omega) ?_)
  refine Tot.down (fun f t (s : Rd × List S_impl_Column) => m_spec_l20Columns_l1 f n t s.1 s.2) (fun t s => t ≤ 3 ∧ r.2.p ≤ s.1.p ∧ s.1.p + 2 * t ≤ r.2.p + 6 ∧ (s.2.length : Int) + t = 1 + r.1 ∧ ∀ c ∈ s.2, cDr c) (fun f s h => ?_) (fun f t s ht h ih => ?_) _ (1 + r.1) (r.2, []) (by omega) (by omega) ⟨by omega, by simp only; omega, by simp only; omega, by first | (simp; done) | (simp; omega), by simp⟩
  · obtain ⟨g1, g2, g3, g4, g5⟩ := h
    rw [m_spec_l20Columns_l1, show decide ((0 : Int) > 0) = false from rfl, cond_false]
    unfold m_spec_l20Columns_j1 m_spec_l20Columns_j2
    refine Tot.bind (T_odd (by omega) hn) (fun q hq => Tot.bif (fun _ => ?_) (fun _ => Tot.ret ⟨⟨by simp only; omega, by simp only; omega, g5⟩, by simp only; omega, by simp only; omega⟩))
    refine Tot.bind (T_pick (by omega)) (fun u hu => Tot.ck (by omega) (by omega) (Tot.app (by simp only [List.length_cons, List.length_nil]; omega) (Tot.ret ⟨⟨by first | (simp; done) | (simp; omega), by first | (simp; done) | (simp; omega), ?_⟩, by simp only; omega, by simp only; omega⟩)))
    intro c hc
    simp only [List.mem_append, List.mem_cons, List.mem_nil_iff, or_false] at hc
    rcases hc with hc | rfl | rfl | rfl
    · exact g5 c hc
    · exact ⟨by simp only; omega, by simp only; omega⟩
    · exact ⟨by first | decide | omega | (simp only; omega), by first | decide | omega | (simp only; omega)⟩
    · exact ⟨by first | decide | omega | (simp only; omega), by first | decide | omega | (simp only; omega)⟩
  · obtain ⟨g1, g2, g3, g4, g5⟩ := h
    rw [m_spec_l20Columns_l1, decide_eq_true (show t > 0 by omega), cond_true]
    refine Tot.bind (T_pick (by omega)) (fun x hx => Tot.at (by omega) (by simp only [List.length_cons, List.length_nil]; omega) (fun y hy => ?_))
    have hy' : -10 ≤ y ∧ y ≤ 10 := by simp at hy; omega
    refine Tot.bind (T_pick (by omega)) (fun z hz => Tot.app (by simp only [List.length_cons, List.length_nil]; omega) (Tot.ck (by omega) (by omega) ?_))
    refine ih (z.2, s.2 ++ [⟨y, decide (z.1 > 0)⟩]) ⟨by omega, by simp only; omega, by simp only; omega, by first | (simp; done) | (simp; omega), ?_⟩
    intro c hc
    simp only [List.mem_append, List.mem_cons, List.mem_nil_iff, or_false] at hc
    rcases hc with hc | rfl
    · exact g5 c hc
    · exact hy'
/-- A row that was drawn. -/
def rDr (r : Row) : Prop := r.length ≤ 9 ∧ ∀ v ∈ r, vDr v
theorem T_l20Fit {o : Rd} {cs : List S_impl_Column} {n : Int} (ho : 0 ≤ o.p ∧ o.p ≤ 1000000000 - 1000) (hn : -1000000 ≤ n ∧ n ≤ 1000000) (hc : cs.length ≤ 6) : Tot (m_spec_l20Fit o cs n) fun r => rDr r.1 ∧ o.p ≤ r.2.p ∧ r.2.p ≤ o.p + 80 := by
  unfold m_spec_l20Fit
  refine Tot.up (cs.length : Int) (fun f t (s : Rd × Row) => m_spec_l20Fit_l1 f cs n t s.1 s.2) (fun t s => o.p ≤ s.1.p ∧ s.1.p ≤ o.p + 3 * t ∧ (s.2.length : Int) = t ∧ ∀ v ∈ s.2, vDr v) (fun f s h => ?_) (fun f t s h0 ht h ih => ?_) _ 0 (o, []) (by omega) (by omega) (by omega) ⟨by simp only; omega, by simp only; omega, by simp, by simp⟩
  · obtain ⟨g1, g2, g3, g4⟩ := h
    rw [m_spec_l20Fit_l1, show decide ((cs.length : Int) < cs.length) = false by simp, cond_false]
    unfold m_spec_l20Fit_j1 m_spec_l20Fit_j2
    refine Tot.bind (T_odd (by omega) hn) (fun q hq => Tot.bif (fun _ => ?_) (fun _ => Tot.ret ⟨⟨by simp only; omega, g4⟩, by simp only; omega, by simp only; omega⟩))
    refine Tot.bind (T_pick (by omega)) (fun u hu => Tot.bif (fun _ => ?_) (fun _ => Tot.bif (fun _ => ?_) (fun _ => ?_)))
    · refine Tot.app (by simp only [List.length_cons, List.length_nil]; omega) (Tot.ret ⟨⟨by first | (simp; done) | (simp; omega), ?_⟩, by simp only; omega, by simp only; omega⟩)
      intro c hc
      simp only [List.mem_append, List.mem_cons, List.mem_nil_iff, or_false] at hc
      rcases hc with hc | rfl
      · exact g4 c hc
      · exact ⟨by first | decide | omega | (simp only; omega), by first | decide | omega | (simp only; omega), by first | decide | omega | (simp only; omega), by first | decide | omega | (simp only; omega), by first | decide | omega | (simp only; omega)⟩
    · refine Tot.bif (fun h3 => ?_) (fun _ => Tot.ret ⟨⟨by simp only; omega, g4⟩, by simp only; omega, by simp only; omega⟩)
      simp only [gt_iff_lt, decide_eq_true_eq] at h3
      refine Tot.bind (T_pick (by omega)) (fun x hx => Tot.bind (T_l20Value (by omega) (by omega)) (fun y hy => Tot.at (by omega) (by omega) (fun _ _ => Tot.at (by omega) (by omega) (fun _ _ => Tot.lt (Tot.ret ⟨⟨by first | (simp; done) | (simp; omega), ?_⟩, by simp only; omega, by simp only; omega⟩)))))
      intro c hc
      rcases List.mem_or_eq_of_mem_set hc with hc | rfl
      · exact g4 c hc
      · exact hy.1
    · refine Tot.bind (T_l20Value (by omega) (by omega)) (fun x hx => Tot.bind (T_l20Value (by omega) (by omega)) (fun y hy => Tot.bind (T_l20Value (by omega) (by omega)) (fun z hz => Tot.app (by simp only [List.length_cons, List.length_nil]; omega) (Tot.ret ⟨⟨by first | (simp; done) | (simp; omega), ?_⟩, by simp only; omega, by simp only; omega⟩))))
      intro c hc
      simp only [List.mem_append, List.mem_cons, List.mem_nil_iff, or_false] at hc
      rcases hc with hc | rfl | rfl | rfl
      · exact g4 c hc
      · exact hx.1
      · exact hy.1
      · exact hz.1
  · obtain ⟨g1, g2, g3, g4⟩ := h
    rw [m_spec_l20Fit_l1, decide_eq_true ht, cond_true]
    refine Tot.at h0 ht (fun c hc => Tot.bind (T_l20Like (by omega)) (fun x hx => Tot.app (by simp only [List.length_cons, List.length_nil]; omega) (Tot.ck (by omega) (by omega) ?_)))
    refine ih (x.2, s.2 ++ [x.1]) ⟨by simp only; omega, by simp only; omega, by first | (simp; done) | (simp; omega), ?_⟩
    intro c hc
    simp only [List.mem_append, List.mem_cons, List.mem_nil_iff, or_false] at hc
    rcases hc with hc | rfl
    · exact g4 c hc
    · exact hx.1
/-- Rows that were drawn. -/
def rsDr (n : Nat) (rs : Rows) : Prop := rs.length ≤ n ∧ ∀ r ∈ rs, rDr r
theorem T_l20Bag {o : Rd} {cs : List S_impl_Column} {n : Int} (ho : 0 ≤ o.p ∧ o.p ≤ 1000000000 - 10000) (hn : -1000000 ≤ n ∧ n ≤ 1000000) (hc : cs.length ≤ 6) : Tot (m_spec_l20Bag o cs n) fun r => rsDr 6 r.1 ∧ o.p ≤ r.2.p ∧ r.2.p ≤ o.p + 600 := by
  unfold m_spec_l20Bag
  refine Tot.bind (T_pick (by omega)) (fun r hr => ?_)
  refine Tot.down (fun f t (s : Rd × Rows) => m_spec_l20Bag_l1 f cs n t s.1 s.2) (fun t s => t ≤ r.1 ∧ o.p ≤ s.1.p ∧ s.1.p + 90 * t ≤ o.p + 1 + 90 * r.1 ∧ (s.2.length : Int) + t = r.1 ∧ ∀ x ∈ s.2, rDr x) (fun f s h => ?_) (fun f t s ht h ih => ?_) _ r.1 (r.2, []) (by omega) (by omega) ⟨by omega, by simp only; omega, by simp only; omega, by simp, by simp⟩
  · obtain ⟨g1, g2, g3, g4, g5⟩ := h
    rw [m_spec_l20Bag_l1, show decide ((0 : Int) > 0) = false from rfl, cond_false]
    exact Tot.ret ⟨⟨by simp only; omega, g5⟩, by simp only; omega, by simp only; omega⟩
  · obtain ⟨g1, g2, g3, g4, g5⟩ := h
    rw [m_spec_l20Bag_l1, decide_eq_true (show t > 0 by omega), cond_true]
    have j2 : ∀ (q : Rd) (x : Row), s.1.p ≤ q.p → q.p ≤ s.1.p + 90 → rDr x → Tot (m_spec_l20Bag_j2 (m_spec_l20Bag_l1 f) cs n t q (s.2 ++ [x])) fun r => rsDr 6 r.1 ∧ o.p ≤ r.2.p ∧ r.2.p ≤ o.p + 600 := by
      intro q x h1 h2 h3
      unfold m_spec_l20Bag_j2
      refine Tot.ck (by omega) (by omega) ?_
      refine ih (q, s.2 ++ [x]) ⟨by omega, by simp only; omega, by simp only; omega, by first | (simp; done) | (simp; omega), ?_⟩
      intro c hc
      simp only [List.mem_append, List.mem_cons, List.mem_nil_iff, or_false] at hc
      rcases hc with hc | rfl
      · exact g5 c hc
      · exact h3
    have j1 : ∀ (b : Bool) (q : Rd), s.1.p ≤ q.p → q.p ≤ s.1.p + 2 → (b = true → 0 < s.2.length) → Tot (m_spec_l20Bag_j1 (m_spec_l20Bag_l1 f) cs n t b q s.2) fun r => rsDr 6 r.1 ∧ o.p ≤ r.2.p ∧ r.2.p ≤ o.p + 600 := by
      intro b q h1 h2 h3
      unfold m_spec_l20Bag_j1
      refine Tot.bif (fun hb => ?_) (fun _ => ?_)
      · have := h3 hb
        refine Tot.bind (T_pick (by omega)) (fun x hx => Tot.at (by omega) (by omega) (fun _ _ => Tot.at (by omega) (by omega) (fun y hy => ?_)))
        have hy' := g5 y hy
        refine Tot.eq (E_l3Own (by have := hy'.1; omega)) (Tot.app (by simp only [List.length_cons, List.length_nil]; omega) (j2 _ _ (by omega) (by omega) hy'))
      · refine Tot.bind (T_l20Fit (by omega) hn hc) (fun x hx => Tot.app (by simp only [List.length_cons, List.length_nil]; omega) (j2 _ _ (by omega) (by omega) hx.1))
    refine Tot.bif (fun h3 => ?_) (fun _ => j1 _ _ (by omega) (by omega) (by intro e; cases e))
    simp only [gt_iff_lt, decide_eq_true_eq] at h3
    refine Tot.bind (T_pick (by omega)) (fun x hx => j1 _ _ (by omega) (by omega) (fun _ => by omega))
theorem rDr_sm {r : Row} (h : rDr r) : rSm r := ⟨by have := h.1; omega, fun v hv => by have := (h.2 v hv).1; unfold vSm; omega⟩
theorem rsDr_sm {n : Nat} {rs : Rows} (h : rsDr n rs) (hn : n ≤ 100000) : rsSm rs := ⟨by have := h.1; omega, fun r hr => rDr_sm (h.2 r hr)⟩
theorem T_l20Open {l : List UInt8} : Tot (m_spec_l20Open l) fun r => r.p = 0 := by
  unfold m_spec_l20Open m_spec_l20Open_j1
  refine Tot.bif (fun h => ?_) (fun _ => Tot.ret rfl)
  simp only [gt_iff_lt, decide_eq_true_eq] at h
  exact Tot.cut (by omega) (Tot.ret rfl)
/-- A total order, told by numbers. -/
structure TO {α : Type} (p : α → α → Int) : Prop where
  eq0 : ∀ a b, p a b = 0 ↔ a = b
  anti : ∀ a b, p a b < 0 ↔ 0 < p b a
  trans : ∀ a b c, p a b < 0 → p b c < 0 → p a c < 0
theorem TO.comap {α β : Type} {p : β → β → Int} (h : TO p) (f : α → β) (hf : ∀ a b, f a = f b → a = b) : TO fun a b => p (f a) (f b) where
  eq0 a b := ⟨fun e => hf a b ((h.eq0 _ _).1 e), fun e => (h.eq0 _ _).2 (by rw [e])⟩
  anti a b := h.anti _ _
  trans a b c := h.trans _ _ _
theorem TO.le_trans {α : Type} {p : α → α → Int} (h : TO p) {a b c : α} (h1 : p a b ≤ 0) (h2 : p b c ≤ 0) : p a c ≤ 0 := by
  rcases Int.lt_or_eq_of_le h1 with h1 | h1
  · rcases Int.lt_or_eq_of_le h2 with h2 | h2
    · exact Int.le_of_lt (h.trans _ _ _ h1 h2)
    · rw [← (h.eq0 _ _).1 h2]; omega
  · rw [(h.eq0 _ _).1 h1]; exact h2
theorem TO.total {α : Type} {p : α → α → Int} (h : TO p) (a b : α) : 0 < p a b ↔ p b a < 0 := (h.anti b a).symm
def lx (x y : Int) : Int := if x = 0 then y else x
theorem TO.lex {α β : Type} {p : α → α → Int} {q : β → β → Int} (h : TO p) (k : TO q) : TO fun (a b : α × β) => lx (p a.1 b.1) (q a.2 b.2) where
  eq0 a b := by
    have h1 := h.eq0 a.1 b.1
    have h2 := k.eq0 a.2 b.2
    unfold lx
    split
    · rename_i e; rw [h2]; exact ⟨fun e2 => Prod.ext (h1.1 e) e2, fun e2 => by rw [e2]⟩
    · rename_i e; exact ⟨fun e2 => absurd e2 e, fun e2 => absurd (h1.2 (by rw [e2])) e⟩
  anti a b := by
    have h1 := h.anti a.1 b.1
    have h2 := k.anti a.2 b.2
    have h3 := h.eq0 a.1 b.1
    have h4 := h.eq0 b.1 a.1
    unfold lx
    by_cases e : a.1 = b.1
    · rw [if_pos (h3.2 e), if_pos (h4.2 e.symm)]; exact h2
    · rw [if_neg (fun x => e (h3.1 x)), if_neg (fun x => e (h4.1 x).symm)]; exact h1
  trans a b c := by
    have h1 := h.trans a.1 b.1 c.1
    have h2 := k.trans a.2 b.2 c.2
    unfold lx
    by_cases e1 : a.1 = b.1
    · rw [if_pos ((h.eq0 _ _).2 e1), e1]
      by_cases e2 : b.1 = c.1
      · rw [if_pos ((h.eq0 _ _).2 e2), if_pos ((h.eq0 _ _).2 e2)]; exact h2
      · rw [if_neg (fun x => e2 ((h.eq0 _ _).1 x)), if_neg (fun x => e2 ((h.eq0 _ _).1 x))]; exact fun _ g => g
    · rw [if_neg (fun x => e1 ((h.eq0 _ _).1 x))]
      by_cases e2 : b.1 = c.1
      · rw [← e2, if_pos ((h.eq0 _ _).2 rfl), if_neg (fun x => e1 ((h.eq0 _ _).1 x))]; exact fun g _ => g
      · rw [if_neg (fun x => e2 ((h.eq0 _ _).1 x))]
        intro g1 g2
        have := h1 g1 g2
        rw [if_neg (by omega)]; exact this
theorem TO_int : TO cmpI where
  eq0 a b := by unfold cmpI; split <;> (try split) <;> omega
  anti a b := by unfold cmpI; split <;> split <;> (try split) <;> (try split) <;> omega
  trans a b c := by unfold cmpI; split <;> split <;> (try split) <;> (try split) <;> (try split) <;> omega
def cmpB : List UInt8 → List UInt8 → Int
  | [], [] => 0
  | [], _ :: _ => -1
  | _ :: _, [] => 1
  | a :: x, b :: y => lx (cmpI a.toNat b.toNat) (cmpB x y)
theorem cmpB_less : ∀ a b : List UInt8, (if Op.bytesLess a b then (-1 : Int) else if Op.bytesLess a b || a == b then 0 else 1) = cmpB a b
  | [], [] => rfl
  | [], _ :: _ => rfl
  | _ :: _, [] => rfl
  | a :: x, b :: y => by
    have ih := cmpB_less x y
    simp only [cmpB, ← ih]
    unfold lx cmpI
    simp only [Op.bytesLess]
    rcases Nat.lt_trichotomy a.toNat b.toNat with h | h | h
    · have h' : a < b := UInt8.lt_iff_toNat_lt.2 h
      have h2 : (a.toNat : Int) < b.toNat := by omega
      simp [h', h2]
    · have h' : a = b := UInt8.toNat_inj.1 h
      subst h'
      simp
    · have h' : ¬ a < b := fun e => by have := UInt8.lt_iff_toNat_lt.1 e; omega
      have h2 : ¬ (a.toNat : Int) < b.toNat := by omega
      have h3 : (b.toNat : Int) < a.toNat := by omega
      have h4 : ¬ a = b := fun e => by rw [e] at h; omega
      simp [h', h2, h3, h4]
theorem TO_list {α : Type} {p : α → α → Int} (h : TO p) : TO (cmpL p) where
  eq0 := by
    intro a
    induction a with
    | nil => intro b; cases b <;> simp [cmpL]
    | cons x a ih =>
      intro b
      cases b with
      | nil => simp [cmpL]
      | cons y b =>
        simp only [cmpL]
        split
        · rename_i e; rw [ih b, List.cons.injEq]; exact ⟨fun e2 => ⟨(h.eq0 _ _).1 e, e2⟩, fun e2 => e2.2⟩
        · rename_i e; rw [List.cons.injEq]; exact ⟨fun e2 => absurd e2 e, fun e2 => absurd ((h.eq0 _ _).2 e2.1) e⟩
  anti := by
    intro a
    induction a with
    | nil => intro b; cases b <;> simp [cmpL]
    | cons x a ih =>
      intro b
      cases b with
      | nil => simp [cmpL]
      | cons y b =>
        simp only [cmpL]
        by_cases e : x = y
        · rw [if_pos ((h.eq0 _ _).2 e), if_pos ((h.eq0 _ _).2 e.symm)]; exact ih b
        · rw [if_neg (fun g => e ((h.eq0 _ _).1 g)), if_neg (fun g => e ((h.eq0 _ _).1 g).symm)]; exact h.anti x y
  trans := by
    intro a
    induction a with
    | nil => intro b c; cases b <;> cases c <;> simp [cmpL]
    | cons x a ih =>
      intro b c
      cases b with
      | nil => simp [cmpL]
      | cons y b =>
        cases c with
        | nil => simp [cmpL]
        | cons z c =>
          simp only [cmpL]
          by_cases e1 : x = y
          · rw [if_pos ((h.eq0 _ _).2 e1), e1]
            by_cases e2 : y = z
            · rw [if_pos ((h.eq0 _ _).2 e2), if_pos ((h.eq0 _ _).2 e2)]; exact ih b c
            · rw [if_neg (fun g => e2 ((h.eq0 _ _).1 g)), if_neg (fun g => e2 ((h.eq0 _ _).1 g))]; exact fun _ g => g
          · rw [if_neg (fun g => e1 ((h.eq0 _ _).1 g))]
            by_cases e2 : y = z
            · rw [← e2, if_pos ((h.eq0 _ _).2 rfl), if_neg (fun g => e1 ((h.eq0 _ _).1 g))]; exact fun g _ => g
            · rw [if_neg (fun g => e2 ((h.eq0 _ _).1 g))]
              intro g1 g2
              have := h.trans x y z g1 g2
              rw [if_neg (by omega)]; exact this
theorem TO_byte : TO fun (a b : UInt8) => cmpI a.toNat b.toNat := TO_int.comap (fun b : UInt8 => (b.toNat : Int)) fun a b h => UInt8.toNat_inj.1 (by omega)
theorem cmpB_L : ∀ a b : List UInt8, cmpB a b = cmpL (fun (a b : UInt8) => cmpI a.toNat b.toNat) a b
  | [], [] => rfl
  | [], _ :: _ => rfl
  | _ :: _, [] => rfl
  | a :: x, b :: y => by simp only [cmpB, cmpL, lx, cmpB_L x y]
theorem TO_str : TO cmpS := by
  have h := (TO_list TO_byte).comap (fun s : ByteArray => s.data.toList) (fun a b h => ByteArray.ext (Array.toList_inj.1 h))
  have e : cmpS = fun a b : ByteArray => cmpL (fun (a b : UInt8) => cmpI a.toNat b.toNat) a.data.toList b.data.toList := by
    funext a b
    unfold cmpS sLt sEq
    rw [ByteArray.toList_eq, ByteArray.toList_eq, cmpB_less, cmpB_L]
  rw [e]; exact h
theorem orI_2 (a b : Int) : orI [a, b] = lx a b := by
  unfold lx; split
  · rename_i h; subst h; rw [orI_0]
    by_cases h : b = 0
    · subst h; rfl
    · rw [orI_1 h]
  · rename_i h; rw [orI_1 h]
theorem orI_3 (a b c : Int) : orI [a, b, c] = lx a (lx b c) := by
  by_cases h : a = 0
  · subst h; rw [orI_0, orI_2]; rfl
  · rw [orI_1 h]; unfold lx; rw [if_neg h]
theorem TO_value : TO vOrd := by
  have h := (TO_int.lex (TO_int.lex TO_str)).comap (fun v : V => (v.Kind, (v.N, v.S))) (fun a b h => by
    cases a; cases b; simp only [Prod.mk.injEq] at h; simp [h])
  have e : vOrd = fun a b : V => lx (cmpI a.Kind b.Kind) (lx (cmpI a.N b.N) (cmpS a.S b.S)) := by
    funext a b; unfold vOrd; rw [orI_3]
  rw [e]; exact h
theorem rowMany_count (rs : Rows) (r : Row) : rowMany rs r = rs.count r := by
  unfold rowMany List.count
  congr 1
  funext x
  rw [Bool.eq_iff_iff]; simp
theorem bag_perm {a b : Rows} : ((a ++ b).all fun r => decide (rowMany a r = rowMany b r)) = true ↔ a.Perm b := by
  rw [List.all_eq_true, List.perm_iff_count]
  constructor
  · intro h r
    by_cases hr : r ∈ a ++ b
    · have := h r hr
      simpa [rowMany_count] using this
    · rw [List.mem_append, not_or] at hr
      rw [List.count_eq_zero_of_not_mem hr.1, List.count_eq_zero_of_not_mem hr.2]
  · intro h r _
    simp [rowMany_count, h r]
theorem L_slices_IndexFunc_Limpl_Column_impl_Column {l : List S_impl_Column} {p : S_impl_Column → Option Bool} {q : S_impl_Column → Bool} (hl : l.length ≤ 1000000) (hp : ∀ v ∈ l, p v = some (q v)) : m_slices_IndexFunc_Limpl_Column_impl_Column l p = some (idxI q l) := by
  unfold m_slices_IndexFunc_Limpl_Column_impl_Column
  exact scanI (q := q) (g := fun i => some i) l (fun n k => m_slices_IndexFunc_Limpl_Column_impl_Column_l1 p n l (l.length : Int) k) (fun n k x hx => by
    have := lt_of_at hx
    rw [m_slices_IndexFunc_Limpl_Column_impl_Column_l1, dlt this, cond_true]
    simp only [at_of hx, Option.bind_some, hp x (List.mem_of_getElem? hx), ck1 (show k < 1000000000000 by omega)]) (fun n => by rw [m_slices_IndexFunc_Limpl_Column_impl_Column_l1, dnlt]; rfl) _ fuel0
theorem L_slices_ContainsFunc_Limpl_Column_impl_Column {l : List S_impl_Column} {p : S_impl_Column → Option Bool} {q : S_impl_Column → Bool} (hl : l.length ≤ 1000000) (hp : ∀ v ∈ l, p v = some (q v)) : m_slices_ContainsFunc_Limpl_Column_impl_Column l p = some (l.any q) := by
  unfold m_slices_ContainsFunc_Limpl_Column_impl_Column
  rw [L_slices_IndexFunc_Limpl_Column_impl_Column hl hp, Option.bind_some, (idxI_ge q l).2.2]
theorem L_slices_IndexFunc_LLimpl_Value_Limpl_Value {l : List (List S_impl_Value)} {p : (List S_impl_Value) → Option Bool} {q : (List S_impl_Value) → Bool} (hl : l.length ≤ 1000000) (hp : ∀ v ∈ l, p v = some (q v)) : m_slices_IndexFunc_LLimpl_Value_Limpl_Value l p = some (idxI q l) := by
  unfold m_slices_IndexFunc_LLimpl_Value_Limpl_Value
  exact scanI (q := q) (g := fun i => some i) l (fun n k => m_slices_IndexFunc_LLimpl_Value_Limpl_Value_l1 p n l (l.length : Int) k) (fun n k x hx => by
    have := lt_of_at hx
    rw [m_slices_IndexFunc_LLimpl_Value_Limpl_Value_l1, dlt this, cond_true]
    simp only [at_of hx, Option.bind_some, hp x (List.mem_of_getElem? hx), ck1 (show k < 1000000000000 by omega)]) (fun n => by rw [m_slices_IndexFunc_LLimpl_Value_Limpl_Value_l1, dnlt]; rfl) _ fuel0
theorem L_slices_ContainsFunc_LLimpl_Value_Limpl_Value {l : List (List S_impl_Value)} {p : (List S_impl_Value) → Option Bool} {q : (List S_impl_Value) → Bool} (hl : l.length ≤ 1000000) (hp : ∀ v ∈ l, p v = some (q v)) : m_slices_ContainsFunc_LLimpl_Value_Limpl_Value l p = some (l.any q) := by
  unfold m_slices_ContainsFunc_LLimpl_Value_Limpl_Value
  rw [L_slices_IndexFunc_LLimpl_Value_Limpl_Value hl hp, Option.bind_some, (idxI_ge q l).2.2]
theorem L_slices_insertionSortCmpFunc_Limpl_Value {l : List (List S_impl_Value)} {p : (List S_impl_Value) → (List S_impl_Value) → Option Int} {q : (List S_impl_Value) → (List S_impl_Value) → Int} (hl : l.length ≤ 1000000) (hp : ∀ x ∈ l, ∀ y ∈ l, p x y = some (q x y)) : m_slices_insertionSortCmpFunc_Limpl_Value l 0 (l.length : Int) p = some (isort (fun x r => decide (q r x < 0)) l) := by
  unfold m_slices_insertionSortCmpFunc_Limpl_Value
  rw [show ckI ((0 : Int) + 1) = some 1 from rfl, Option.bind_some]
  refine insSort (lt := fun r x => decide (q r x < 0)) (J := fun s => some s) (N := l.length) (fun n i o => m_slices_insertionSortCmpFunc_Limpl_Value_l1 p n 0 (l.length : Int) i o) (fun n m i j o => m_slices_insertionSortCmpFunc_Limpl_Value_l2 p (m_slices_insertionSortCmpFunc_Limpl_Value_l1 p n) m 0 (l.length : Int) i j o) hl
    (fun o => ∀ x ∈ o, ∀ y ∈ o, p x y = some (q x y)) (fun a b h ha x hx y hy => ha x (h.mem_iff.2 hx) y (h.mem_iff.2 hy)) ?_ ?_ ?_ ?_ l rfl hp _ (by omega) (by omega)
  · intro n i o hi
    rw [m_slices_insertionSortCmpFunc_Limpl_Value_l1, dlt hi, cond_true]
  · intro n i o hi
    rw [m_slices_insertionSortCmpFunc_Limpl_Value_l1, decide_eq_false (by omega), cond_false]
  · intro n m i o hi
    rw [m_slices_insertionSortCmpFunc_Limpl_Value_l2, show decide ((0 : Int) > 0) = false from rfl, cond_false]
    unfold m_slices_insertionSortCmpFunc_Limpl_Value_j1 m_slices_insertionSortCmpFunc_Limpl_Value_j2
    rw [cond_false, ck1 (by omega), Option.bind_some]; rfl
  · intro n m i j o x y hi hj ho hc hx hy
    have hxy := hc x (List.mem_of_getElem? hx) y (List.mem_of_getElem? hy)
    rw [m_slices_insertionSortCmpFunc_Limpl_Value_l2, dgt0, cond_true]
    simp only [at_of hx, at_of hy, ckdd (show j < 1000000000000 by omega), Option.bind_some, hxy]
    unfold m_slices_insertionSortCmpFunc_Limpl_Value_j1 m_slices_insertionSortCmpFunc_Limpl_Value_j2
    by_cases h : q x y < 0
    · rw [decide_eq_true h, cond_true, if_pos rfl]
      simp only [at_of hx, at_of hy, ckdd (show j < 1000000000000 by omega), Option.bind_some, Int.toNat_natCast, Go.Lift.lt, at_set_ne hy (show j + 1 ≠ j by omega)]
    · rw [decide_eq_false h, cond_false, ck1 (by omega), Option.bind_some, if_neg (by simp)]; rfl
theorem L_slices_SortStableFunc_LLimpl_Value_Limpl_Value {l : List (List S_impl_Value)} {p : (List S_impl_Value) → (List S_impl_Value) → Option Int} {q : (List S_impl_Value) → (List S_impl_Value) → Int} (hl : l.length < 20) (hp : ∀ x ∈ l, ∀ y ∈ l, p x y = some (q x y)) : m_slices_SortStableFunc_LLimpl_Value_Limpl_Value l p = some (isort (fun x r => decide (q r x < 0)) l) := by
  unfold m_slices_SortStableFunc_LLimpl_Value_Limpl_Value m_slices_stableCmpFunc_Limpl_Value
  obtain ⟨n, hn⟩ : ∃ n, ((l.length : Int) - 20).toNat + 2 = n + 1 := ⟨((l.length : Int) - 20).toNat + 1, rfl⟩
  rw [hn, m_slices_stableCmpFunc_Limpl_Value_l1, decide_eq_false (by omega), cond_false]
  unfold m_slices_stableCmpFunc_Limpl_Value_j1
  rw [L_slices_insertionSortCmpFunc_Limpl_Value (by omega) hp, Option.bind_some, lenQ_ok (isort_len _ _), Option.bind_some]
  obtain ⟨m, hm⟩ : ∃ m, ((l.length : Int) - 20).toNat + 1 = m + 1 := ⟨((l.length : Int) - 20).toNat, rfl⟩
  rw [hm, m_slices_stableCmpFunc_Limpl_Value_l2, decide_eq_false (by omega), cond_false, Option.bind_some, lenQ_ok (isort_len _ _), Option.bind_some]
abbrev Col := S_impl_Column
def colOk (c : Col) : Bool := decide (1 ≤ c.Kind) && decide (c.Kind ≤ 3)
def colsOk (cs : List Col) : Bool := decide (cs.length ≤ 4) && cs.all colOk
def vFit (v : V) (c : Col) : Bool := decide (v.Kind = c.Kind) || (decide (v.Kind = 0) && c.Empty)
def rowFits (cs : List Col) (r : Row) : Bool := colsOk cs && (rowOk r && (decide (r.length = cs.length) && all2 vFit r cs))
def rowsOk (cs : List Col) (rs : Rows) : Bool := colsOk cs && rs.all (rowFits cs)
theorem lenD (n m : Nat) : decide ((n : Int) ≤ (m : Int)) = decide (n ≤ m) := by rw [decide_eq_decide]; omega
theorem neB (a b : Int) : (a != b) = !decide (a = b) := by by_cases h : a = b <;> simp [h, bne]
theorem neN (a b : Nat) : (((a : Nat) : Int) != ((b : Nat) : Int)) = !decide (a = b) := by rw [neB]; congr 1; rw [decide_eq_decide]; omega
theorem E_impl_ColumnsOk {cs : List Col} (h : cs.length ≤ 1000000) : m_impl_ColumnsOk cs = some (colsOk cs) := by
  unfold m_impl_ColumnsOk m_impl_ColumnsOk_j1 colsOk
  rw [L_slices_ContainsFunc_Limpl_Column_impl_Column (q := fun c => !(colOk c)) h (fun c _ => by unfold m_impl_ColumnsOk_1; rw [E_between]; rfl), Option.bind_some,
    show (4 : Int) = ((4 : Nat) : Int) from rfl, lenD, List.all_eq_not_any_not]
  cases decide (cs.length ≤ 4) <;> rfl
theorem E_spec_ColumnsOk {cs : List Col} (h : cs.length ≤ 1000000) : m_spec_ColumnsOk cs = some (colsOk cs) := by
  unfold m_spec_ColumnsOk colsOk
  rw [scanA (p := fun c => !(colOk c)) (r0 := false) (r1 := decide ((cs.length : Int) ≤ 4)) cs (fun n k => m_spec_ColumnsOk_l1 n cs k) (fun n k x hx => by
    have := lt_of_at hx
    rw [m_spec_ColumnsOk_l1, dlt this, cond_true]
    simp only [at_of hx, E_l1In, Option.bind_some, ck1 (show k < 1000000000000 by omega)]
    rfl) (fun n => by rw [m_spec_ColumnsOk_l1, dnlt]; rfl) _ fuel0, List.all_eq_not_any_not, show (4 : Int) = ((4 : Nat) : Int) from rfl, lenD]
  cases cs.any fun c => !(colOk c) <;> simp
theorem E_impl_RowFits {cs : List Col} {r : Row} (h : cs.length ≤ 1000000) (hr : rSm r) : m_impl_RowFits cs r = some (rowFits cs r) := by
  unfold m_impl_RowFits rowFits
  rw [E_impl_ColumnsOk h, Option.bind_some]
  cases colsOk cs
  · rfl
  rw [Bool.not_true, cond_false, E_impl_RowOk hr, Option.bind_some]
  cases rowOk r
  · rfl
  rw [Bool.not_true, cond_false]
  unfold m_impl_RowFits_j1
  rw [neN]
  by_cases hl : r.length = cs.length
  · rw [decide_eq_true hl, Bool.not_true, cond_false]
    simp only [Bool.true_and]
    exact scan2 (q := vFit) r cs hl (fun n k => m_impl_RowFits_l1 n cs r (r.length : Int) k) (fun n k x y hx hy => by
      have := lt_of_at hx
      have hrl := hr.1
      rw [m_impl_RowFits_l1, dlt this, cond_true]
      simp only [at_of hx, at_of hy, Option.bind_some, Go.Lift.lt]
      unfold m_impl_RowFits_j2
      rw [ck1 (show k < 1000000000000 by omega), Option.bind_some]
      unfold vFit
      rw [neB, neB]
      cases decide (x.Kind = y.Kind) <;> cases decide (x.Kind = 0) <;> cases y.Empty <;> rfl) (fun n => by rw [m_impl_RowFits_l1, dnlt]; rfl) _ fuel0
  · rw [decide_eq_false hl]; rfl
theorem E_spec_RowFits {cs : List Col} {r : Row} (h : cs.length ≤ 1000000) (hr : rSm r) : m_spec_RowFits cs r = some (rowFits cs r) := by
  unfold m_spec_RowFits rowFits
  rw [E_spec_ColumnsOk h, Option.bind_some]
  cases colsOk cs
  · rfl
  rw [Bool.not_true, cond_false, E_spec_RowOk hr, Option.bind_some]
  cases rowOk r
  · rfl
  rw [Bool.not_true, cond_false]
  unfold m_spec_RowFits_j1
  rw [neN]
  by_cases hl : r.length = cs.length
  · rw [decide_eq_true hl, Bool.not_true, cond_false]
    simp only [Bool.true_and]
    exact scan2 (q := vFit) r cs hl (fun n k => m_spec_RowFits_l1 n cs r k) (fun n k x y hx hy => by
      have := lt_of_at hx
      have hrl := hr.1
      rw [m_spec_RowFits_l1, dlt this, cond_true]
      simp only [at_of hx, at_of hy, Option.bind_some]
      unfold m_spec_RowFits_j2
      rw [ck1 (show k < 1000000000000 by omega), Option.bind_some]
      unfold vFit
      rw [neB, neB]
      cases decide (x.Kind = y.Kind) <;> cases decide (x.Kind = 0) <;> cases y.Empty <;> rfl) (fun n => by rw [m_spec_RowFits_l1, dnlt]; rfl) _ fuel0
  · rw [decide_eq_false hl]; rfl
theorem E_impl_RowsOk {cs : List Col} {rs : Rows} (h : cs.length ≤ 1000000) (hr : rsSm rs) : m_impl_RowsOk cs rs = some (rowsOk cs rs) := by
  unfold m_impl_RowsOk m_impl_RowsOk_j1 rowsOk
  obtain ⟨h1, h2⟩ := hr
  rw [E_impl_ColumnsOk h, Option.bind_some, L_slices_ContainsFunc_LLimpl_Value_Limpl_Value (q := fun r => !(rowFits cs r)) (by omega) (fun r hr => by unfold m_impl_RowsOk_1; rw [E_impl_RowFits h (h2 r hr)]; rfl), Option.bind_some, List.all_eq_not_any_not]
  cases colsOk cs <;> rfl
theorem E_spec_RowsOk {cs : List Col} {rs : Rows} (h : cs.length ≤ 1000000) (hr : rsSm rs) : m_spec_RowsOk cs rs = some (rowsOk cs rs) := by
  unfold m_spec_RowsOk rowsOk
  obtain ⟨h1, h2⟩ := hr
  rw [scanA (p := fun r => !(rowFits cs r)) (r0 := false) (r1 := colsOk cs) rs (fun n k => m_spec_RowsOk_l1 n cs rs k) (fun n k x hx => by
    have := lt_of_at hx
    rw [m_spec_RowsOk_l1, dlt this, cond_true]
    simp only [at_of hx, E_spec_RowFits h (h2 x (List.mem_of_getElem? hx)), Option.bind_some, ck1 (show k < 1000000000000 by omega)]) (fun n => by
    rw [m_spec_RowsOk_l1, dnlt, cond_false]
    unfold m_spec_RowsOk_j1
    rw [E_spec_ColumnsOk h]; rfl) _ fuel0, List.all_eq_not_any_not]
  cases rs.any fun r => !(rowFits cs r) <;> cases colsOk cs <;> rfl
theorem rowsOk_fits {cs : List Col} {rs : Rows} (h : rowsOk cs rs = true) {r : Row} (hr : r ∈ rs) : rowOk r = true ∧ r.length = cs.length := by
  unfold rowsOk at h
  rw [Bool.and_eq_true, List.all_eq_true] at h
  have := h.2 r hr
  unfold rowFits at this
  simp only [Bool.and_eq_true, decide_eq_true_eq] at this
  exact ⟨this.2.1, this.2.2.1⟩
theorem rowsOk_perm {cs : List Col} {a b : Rows} (h : a.Perm b) : rowsOk cs a = rowsOk cs b := by
  unfold rowsOk
  congr 1
  rw [Bool.eq_iff_iff, List.all_eq_true, List.all_eq_true]
  exact ⟨fun k x hx => k x (h.mem_iff.2 hx), fun k x hx => k x (h.mem_iff.1 hx)⟩

def v0 : V := ⟨0, 0, ⟨#[]⟩⟩
def colGt (i : Nat) (x r : Row) : Bool := decide (vOrd (r.getD i v0) (x.getD i v0) < 0)
def byCol (rs : Rows) (i : Nat) : Rows := isort (colGt i) rs
theorem at_getD {r : Row} {i : Nat} (h : i < r.length) : at? r (i : Int) = some (r.getD i v0) := at_of (by rw [List.getD_eq_getElem?_getD, List.getElem?_eq_getElem h]; rfl)
theorem getD_mem {r : Row} {i : Nat} (h : i < r.length) : r.getD i v0 ∈ r := by rw [List.getD_eq_getElem?_getD, List.getElem?_eq_getElem h]; exact List.getElem_mem _
theorem vOk_getD {r : Row} {i : Nat} (hr : rowOk r = true) (h : i < r.length) : vOk (r.getD i v0) = true := by
  unfold rowOk at hr
  rw [Bool.and_eq_true, List.all_eq_true] at hr
  exact hr.2 _ (getD_mem h)
theorem E_impl_byColumn {rs : Rows} {i : Nat} (hs : rsSm rs) (hn : rs.length < 20) (hi : ∀ r ∈ rs, i < r.length) : m_impl_byColumn rs (i : Int) = some (byCol rs i) := by
  unfold m_impl_byColumn
  rw [E_rowsCopy (by omega) (fun r hr => by have := (hs.2 r hr).1; omega), Option.bind_some,
    L_slices_SortStableFunc_LLimpl_Value_Limpl_Value (q := fun a b => vOrd (a.getD i v0) (b.getD i v0)) hn (fun x hx y hy => by
      unfold m_impl_byColumn_1
      simp only [at_getD (hi x hx), at_getD (hi y hy), Option.bind_some, E_order]), Option.bind_some, lenQ_ok (isort_len _ _), Option.bind_some]
  rfl
theorem E_impl_ByColumn {cs : List Col} {rs : Rows} {i : Int} (hc : cs.length ≤ 100) (hs : rsSm rs) (hn : rs.length < 20) : m_impl_ByColumn cs rs i = some (if rowsOk cs rs = true ∧ 0 ≤ i ∧ i < cs.length then byCol rs i.toNat else []) := by
  unfold m_impl_ByColumn m_impl_ByColumn_j1
  rw [E_impl_ColumnsOk (by omega), Option.bind_some]
  cases hco : colsOk cs
  · rw [Bool.not_false, cond_true, cond_true, if_neg (by unfold rowsOk; rw [hco]; simp)]
  rw [Bool.not_true, cond_false, E_impl_RowsOk (by omega) hs, Option.bind_some]
  cases hr : rowsOk cs rs
  · rw [Bool.not_false, cond_true, cond_true, if_neg (by simp)]
  rw [Bool.not_true, cond_false, ckI_of (by omega) (by omega), Option.bind_some, E_between, Option.bind_some]
  by_cases h : 0 ≤ i ∧ i < cs.length
  · rw [if_pos ⟨rfl, h⟩, decide_eq_true h.1, decide_eq_true (show i ≤ (cs.length : Int) - 1 by omega), Bool.and_self, Bool.not_true, cond_false]
    generalize hI : i.toNat = I
    obtain rfl : i = (I : Int) := by omega
    rw [E_impl_byColumn hs hn (fun r hrr => by have := (rowsOk_fits hr hrr).2; omega)]
    rfl
  · rw [if_neg (fun k => h k.2)]
    have : (decide (0 ≤ i) && decide (i ≤ (cs.length : Int) - 1)) = false := by
      rw [Bool.and_eq_false_iff, decide_eq_false_iff_not, decide_eq_false_iff_not]; omega
    rw [this]; rfl
theorem vv_ok {a b : V} (ha : vOk a = true) (hb : vOk b = true) : vvOrd a b = vOrd a b := by unfold vvOrd; rw [ha, hb]; rfl
theorem E_spec_ByColumn {cs : List Col} {rs : Rows} {i : Int} (hc : cs.length ≤ 100) (hs : rsSm rs) : m_spec_ByColumn cs rs i = some (if rowsOk cs rs = true ∧ 0 ≤ i ∧ i < cs.length then byCol rs i.toNat else []) := by
  unfold m_spec_ByColumn m_spec_ByColumn_j1
  rw [E_spec_RowsOk (by omega) hs, Option.bind_some]
  cases hr : rowsOk cs rs
  · rw [Bool.not_false, cond_true, cond_true, if_neg (by simp)]
  rw [Bool.not_true, cond_false, ckI_of (by omega) (by omega), Option.bind_some, E_l1In, Option.bind_some]
  by_cases h : 0 ≤ i ∧ i < cs.length
  · rw [if_pos ⟨rfl, h⟩, decide_eq_true h.1, decide_eq_true (show i ≤ (cs.length : Int) - 1 by omega), Bool.and_self, Bool.not_true, cond_false]
    generalize hI : i.toNat = I
    obtain rfl : i = (I : Int) := by omega
    have hil : ∀ r ∈ rs, I < r.length := fun r hrr => by have := (rowsOk_fits hr hrr).2; omega
    obtain ⟨h1, h2⟩ := hs
    have hh := scanF (f := insE (colGt I)) (J := fun s => some s) (fun k s => s.length = k ∧ ∀ x ∈ s, x ∈ rs) rs (fun n k s => m_spec_ByColumn_l1 n rs (I : Int) k s) (fun n k x s hx hI => by
      have hlt := lt_of_at hx
      obtain ⟨hI1, hI2⟩ := hI
      have hxm := List.mem_of_getElem? hx
      refine ⟨?_, by rw [insE_len, hI1], fun y hy => by rcases insE_mem.1 hy with rfl | hy; exact hxm; exact hI2 y hy⟩
      rw [m_spec_ByColumn_l1, dlt hlt, cond_true]
      rw [posLoop (p := fun y => colGt I y x) (F := fun (j : Nat) => m_spec_ByColumn_j3 (m_spec_ByColumn_l1 n) rs (I : Int) (k : Int) (j : Int) s) s (fun m j => m_spec_ByColumn_l2 (m_spec_ByColumn_l1 n) m rs (I : Int) (k : Int) j s) (fun m => by
        rw [m_spec_ByColumn_l2, show decide ((0 : Int) > 0) = false from rfl, cond_false]; rfl) (fun m j y hy => by
        have hym := hI2 y (List.mem_of_getElem? hy)
        have hj := lt_of_at hy
        have vy := (h2 y hym).2 _ (getD_mem (hil y hym))
        have vx := (h2 x hxm).2 _ (getD_mem (hil x hxm))
        rw [m_spec_ByColumn_l2, dgt0, cond_true]
        simp only [ckdd (show j < 1000000000000 by omega), Option.bind_some, at_of hy, at_of hx, at_getD (hil x hxm), at_getD (hil y hym), E_ValueOrder vy vx]
        rw [vv_ok (vOk_getD (rowsOk_fits hr hym).1 (hil y hym)) (vOk_getD (rowsOk_fits hr hxm).1 (hil x hxm))]
        unfold m_spec_ByColumn_j2
        rw [ckdd (show j < 1000000000000 by omega), Option.bind_some]
        have ha := TO_value.anti (x.getD I v0) (y.getD I v0)
        unfold colGt
        by_cases hb : vOrd (x.getD I v0) (y.getD I v0) < 0
        · rw [if_pos (by simpa using hb), decide_eq_true (show vOrd (y.getD I v0) (x.getD I v0) > 0 from ha.1 hb), cond_true]
        · rw [if_neg (by simpa using hb), decide_eq_false (fun h => hb (ha.2 h)), cond_false]) 1000000000 (by omega)]
      have hp := posE_le (fun y => colGt I y x) s
      have hxl := (h2 x hxm).1
      unfold m_spec_ByColumn_j3
      rw [show (0 : Int) = ((0 : Nat) : Int) from rfl, cut_of (Nat.zero_le _) hp, Option.bind_some, app_of (by simp; omega), Option.bind_some, at_of hx, Option.bind_some, E_l3Own (by omega), Option.bind_some, app_of (by simp; omega), Option.bind_some,
        cut_of hp (Nat.le_refl _), Option.bind_some, app_of (by simp; omega), Option.bind_some]
      unfold m_spec_ByColumn_j4
      rw [ck1 (show k < 1000000000000 by omega), Option.bind_some, insE_take]
      congr 1
      simp) (fun n s _ => by rw [m_spec_ByColumn_l1, dnlt, cond_false]; rfl) _ fuel0 [] ⟨rfl, by simp⟩
    rw [hh.1]
    rfl
  · rw [if_neg (fun k => h k.2)]
    have : (decide (0 ≤ i) && decide (i ≤ (cs.length : Int) - 1)) = false := by
      rw [Bool.and_eq_false_iff, decide_eq_false_iff_not, decide_eq_false_iff_not]; omega
    rw [this]; rfl
theorem byCol_ord {rs : Rows} {i : Nat} : Ord (colGt i) (byCol rs i) := by
  refine isort_ord (fun x _ y _ z _ h1 h2 => ?_) (fun x _ y _ h => ?_)
  · unfold colGt at *
    rw [decide_eq_false_iff_not] at *
    have a1 := TO_value.anti (y.getD i v0) (x.getD i v0)
    have a2 := TO_value.anti (z.getD i v0) (y.getD i v0)
    have a3 := TO_value.anti (z.getD i v0) (x.getD i v0)
    have := TO_value.le_trans (a := x.getD i v0) (b := y.getD i v0) (c := z.getD i v0) (by omega) (by omega)
    omega
  · unfold colGt at *
    rw [decide_eq_true_eq] at h
    rw [decide_eq_false_iff_not]
    have a1 := TO_value.anti (y.getD i v0) (x.getD i v0)
    omega
theorem E_impl_ValueOrder {a b : V} (ha : vSm a) (hb : vSm b) : m_impl_ValueOrder a b = some (vvOrd a b) := by
  unfold m_impl_ValueOrder m_impl_ValueOrder_j1 vvOrd
  rw [E_Value_ok (by unfold vSm at ha; omega), Option.bind_some]
  cases vOk a
  · rfl
  rw [Bool.not_true, cond_false, E_Value_ok (by unfold vSm at hb; omega), Option.bind_some]
  cases vOk b
  · rfl
  rw [Bool.not_true, cond_false, E_order]; rfl
theorem T_DrawByColumn {l : List UInt8} : Tot (m_spec_DrawByColumn l) fun r => r.1.length ≤ 6 ∧ rsDr 6 r.2.1 := by
  unfold m_spec_DrawByColumn
  refine Tot.bind T_l20Open fun r hr => Tot.bind (T_l20Columns (by omega) (by omega)) fun c hc => Tot.bind (T_l20Bag (by omega) (by omega) (by omega)) fun b hb => ?_
  refine Tot.ck (by omega) (by omega) (Tot.bind (T_pick (by omega)) fun p hp => Tot.bind (T_pick (by omega)) fun q hq => ?_)
  have hqb : 0 ≤ q.1 ∧ q.1 ≤ 9 := by omega
  have := tdiv_b (m := q.1) (n := 8) hqb.1 (by decide)
  refine Tot.quo (by decide) (by omega) (by omega) (Tot.ck (by omega) (by omega) (Tot.ret ⟨hc.1.2.1, hb.1⟩))
theorem pure_FnByColumn (l : List UInt8) : m_laws_FnByColumn l = some true := by
  unfold m_laws_FnByColumn
  cases hlen : decide ((l.length : Int) > 1048576)
  · rw [cond_false]
    obtain ⟨⟨c, rs, i⟩, hd, hc, hrs⟩ := T_DrawByColumn (l := l)
    simp only at hc hrs
    have sr := rsDr_sm hrs (by omega)
    have hn : rs.length < 20 := by have := hrs.1; omega
    rw [hd, Option.bind_some]
    simp only
    rw [E_impl_ByColumn (by omega) sr hn, Option.bind_some, E_spec_ByColumn (by omega) sr, Option.bind_some]
    generalize hout : (if rowsOk c rs = true ∧ 0 ≤ i ∧ i < c.length then byCol rs i.toNat else []) = out
    have hm : ∀ r ∈ out, r ∈ rs := by
      intro r hr
      rw [← hout] at hr
      split at hr
      · exact isort_mem.1 hr
      · cases hr
    have hol : out.length ≤ rs.length := by
      rw [← hout]
      split
      · unfold byCol; rw [isort_len]; exact Nat.le_refl _
      · simp
    have so : rsSm out := ⟨by have := sr.1; omega, fun r hr => sr.2 r (hm r hr)⟩
    rw [E_sameRows (by omega) (fun r hr => by have := (so.2 r hr).1; omega), Option.bind_some, decide_eq_true rfl, Bool.not_true, cond_false, E_impl_RowsOk (by omega) sr, Option.bind_some]
    unfold m_laws_FnByColumn_j1 m_laws_FnByColumn_j2
    cases hr : rowsOk c rs
    · rw [hr, if_neg (by simp)] at hout
      subst hout
      rw [E_alive]; rfl
    rw [Bool.not_true, cond_false]
    by_cases h0 : i < 0
    · rw [if_neg (by omega)] at hout
      subst hout
      rw [decide_eq_true h0, cond_true, E_alive]; rfl
    rw [decide_eq_false h0, cond_false]
    by_cases h1 : i ≥ (c.length : Int)
    · rw [if_neg (by omega)] at hout
      subst hout
      rw [decide_eq_true h1, E_alive]; rfl
    rw [decide_eq_false h1, cond_false]
    rw [if_pos ⟨hr, by omega, by omega⟩] at hout
    generalize hI : i.toNat = I at hout
    obtain rfl : i = (I : Int) := by omega
    have hil : ∀ r ∈ rs, I < r.length := fun r hrr => by have := (rowsOk_fits hr hrr).2; omega
    have hord : Ord (colGt I) out := hout ▸ byCol_ord
    have hperm : out.Perm rs := hout ▸ isort_perm _ _
    have hJ : m_laws_FnByColumn_j3 c rs (I : Int) out = some true := by
      unfold m_laws_FnByColumn_j3
      rw [E_impl_SameBag so sr, Option.bind_some, bag_perm.2 hperm, cond_true, E_impl_ByColumn (by omega) so (by omega), Option.bind_some, rowsOk_perm hperm, if_pos ⟨hr, by omega, by omega⟩]
      have e : byCol out (I : Int).toNat = out := by unfold byCol; rw [Int.toNat_natCast]; exact isort_id hord
      rw [e, E_sameRows (by omega) (fun r hr => by have := (so.2 r hr).1; omega), Option.bind_some, decide_eq_true rfl, cond_true, E_alive]
      rfl
    have key : ∀ (d k n : Nat), k + d = out.length → 1 ≤ k → d < n → m_laws_FnByColumn_l1 n c rs (I : Int) out (k : Int) = some true := by
      intro d
      induction d with
      | zero =>
        intro k n hk hk1 hn
        obtain ⟨n, rfl⟩ : ∃ q, n = q + 1 := ⟨n - 1, by omega⟩
        obtain rfl : k = out.length := by omega
        rw [m_laws_FnByColumn_l1, dnlt, cond_false, hJ]
      | succ d ih =>
        intro k n hk hk1 hn
        obtain ⟨n, rfl⟩ : ∃ q, n = q + 1 := ⟨n - 1, by omega⟩
        obtain ⟨j, rfl⟩ : ∃ j, k = j + 1 := ⟨k - 1, by omega⟩
        have hx : out[j]? = some out[j] := List.getElem?_eq_getElem (by omega)
        have hy : out[j + 1]? = some out[j + 1] := List.getElem?_eq_getElem (by omega)
        have mx := hm _ (List.mem_of_getElem? hx)
        have my := hm _ (List.mem_of_getElem? hy)
        rw [m_laws_FnByColumn_l1, dlt (show j + 1 < out.length by omega), cond_true]
        simp only [ckdd (show j < 1000000000000 by omega), Option.bind_some, at_of hx, at_of hy, at_getD (hil _ mx), at_getD (hil _ my), E_impl_ValueOrder ((sr.2 _ mx).2 _ (getD_mem (hil _ mx))) ((sr.2 _ my).2 _ (getD_mem (hil _ my)))]
        rw [vv_ok (vOk_getD (rowsOk_fits hr mx).1 (hil _ mx)) (vOk_getD (rowsOk_fits hr my).1 (hil _ my))]
        have hp := List.pairwise_iff_getElem.1 hord j (j + 1) (by omega) (by omega) (by omega)
        unfold colGt at hp
        rw [decide_eq_false_iff_not] at hp
        have ha := TO_value.anti (out[j + 1].getD I v0) (out[j].getD I v0)
        rw [decide_eq_false (show ¬ vOrd (out[j].getD I v0) (out[j + 1].getD I v0) > 0 by omega), cond_false, ck1 (show j + 1 < 1000000000000 by omega), Option.bind_some]
        exact ih (j + 1 + 1) n (by omega) (by omega) (by omega)
    rcases Nat.eq_zero_or_pos out.length with h0 | h0
    · rw [h0]
      have : out = [] := List.length_eq_zero_iff.1 h0
      obtain ⟨n, hn⟩ : ∃ n, (((0 : Nat) : Int) - 1).toNat + 1 = n + 1 := ⟨0, rfl⟩
      rw [hn, m_laws_FnByColumn_l1, h0, decide_eq_false (by omega), cond_false, hJ]
    · exact key (out.length - 1) 1 _ (by omega) (by omega) (by omega)
  · rfl
end Go.Proofs.Ytemfdnnhknepbaa
