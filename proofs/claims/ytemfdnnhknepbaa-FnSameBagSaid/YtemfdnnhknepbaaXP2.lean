/- Orders, bags, rows in order: what their mirrors come to. Own work. -/
import Derived.Test.YtemfdnnhknepbaaXP1
set_option linter.unusedVariables false
set_option linter.unusedSimpArgs false
namespace Go.Proofs.Ytemfdnnhknepbaa
open Go.Proofs Go.Lift

theorem E_Concat2 {a b : Rows} (ha : a.length ≤ 1000000) (hb : b.length ≤ 1000000) : m_slices_Concat_LLimpl_Value_Limpl_Value [a, b] = some (a ++ b) := by
  unfold m_slices_Concat_LLimpl_Value_Limpl_Value
  rw [show ((([a, b] : List Rows).length : Int) - 0).toNat + 1 = 2 + 1 from rfl, show (([a, b] : List Rows).length : Int) = 2 from rfl]
  have a0 : at? [a, b] 0 = some a := rfl
  have a1 : at? [a, b] 1 = some b := rfl
  have k1 : ckI (0 + 1) = some 1 := rfl
  have k2 : ckI (1 + 1) = some 2 := rfl
  have d0 : decide ((0 : Int) < 2) = true := rfl
  have d1 : decide ((1 : Int) < 2) = true := rfl
  have d2 : decide ((2 : Int) < 2) = false := rfl
  rw [m_slices_Concat_LLimpl_Value_Limpl_Value_l1, d0, cond_true, a0, Option.bind_some, ckI_of (by omega) (by omega), Option.bind_some]
  rw [show decide (0 + (a.length : Int) < 0) = false by rw [decide_eq_false_iff_not]; omega, cond_false, k1, Option.bind_some]
  rw [m_slices_Concat_LLimpl_Value_Limpl_Value_l1, d1, cond_true, a1, Option.bind_some, ckI_of (by omega) (by omega), Option.bind_some]
  rw [show decide (0 + (a.length : Int) + (b.length : Int) < 0) = false by rw [decide_eq_false_iff_not]; omega, cond_false, k2, Option.bind_some]
  rw [m_slices_Concat_LLimpl_Value_Limpl_Value_l1, d2, cond_false]
  unfold m_slices_Concat_LLimpl_Value_Limpl_Value_j1 m_slices_Grow_LLimpl_Value_Limpl_Value
  rw [if_pos (by omega), Option.bind_some, show ((([a, b] : List Rows).length : Int) - 0).toNat + 1 = 2 + 1 from rfl, show (([a, b] : List Rows).length : Int) = 2 from rfl]
  rw [m_slices_Concat_LLimpl_Value_Limpl_Value_l2, d0, cond_true, a0, Option.bind_some, app_of (by simp; omega), Option.bind_some, k1, Option.bind_some]
  rw [m_slices_Concat_LLimpl_Value_Limpl_Value_l2, d1, cond_true, a1, Option.bind_some, app_of (by simp; omega), Option.bind_some, k2, Option.bind_some]
  rw [m_slices_Concat_LLimpl_Value_Limpl_Value_l2, d2, cond_false]
  rfl
theorem E_impl_SameBag {a b : Rows} (ha : rsSm a) (hb : rsSm b) : m_impl_SameBag a b = some ((a ++ b).all fun r => decide (rowMany a r = rowMany b r)) := by
  unfold m_impl_SameBag
  obtain ⟨ha1, ha2⟩ := ha
  obtain ⟨hb1, hb2⟩ := hb
  rw [E_Concat2 (by omega) (by omega), Option.bind_some]
  have hl : (a ++ b).length ≤ 1000000 := by simp; omega
  have := scanA (p := fun r => !(decide (rowMany a r = rowMany b r))) (r0 := false) (r1 := true) (a ++ b) (fun n k => m_impl_SameBag_l1 n a b (a ++ b) ((a ++ b).length : Int) k) (fun n k x hx => by
    have := lt_of_at hx
    rw [m_impl_SameBag_l1, dlt this, cond_true, at_of hx, Option.bind_some, E_impl_RowMany (by omega) (fun x hx => by have := (ha2 x hx).1; omega), Option.bind_some, E_impl_RowMany (by omega) (fun x hx => by have := (hb2 x hx).1; omega), Option.bind_some, ck1 (show k < 1000000000000 by omega), Option.bind_some]
    congr 1
    rw [Bool.eq_iff_iff]; simp; omega) (fun n => by rw [m_impl_SameBag_l1, dnlt]; rfl) _ fuel0
  rw [this, List.all_eq_not_any_not]
  cases (a ++ b).any fun r => !(decide (rowMany a r = rowMany b r)) <;> rfl
theorem E_spec_SameBag {a b : Rows} (ha : rsSm a) (hb : rsSm b) : m_spec_SameBag a b = some ((a.all fun r => decide (rowMany a r = rowMany b r)) && decide (a.length = b.length)) := by
  unfold m_spec_SameBag
  obtain ⟨ha1, ha2⟩ := ha
  obtain ⟨hb1, hb2⟩ := hb
  have := scanA (p := fun r => !(decide (rowMany a r = rowMany b r))) (r0 := false) (r1 := decide (a.length = b.length)) a (fun n k => m_spec_SameBag_l1 n a b k) (fun n k x hx => by
    have := lt_of_at hx
    rw [m_spec_SameBag_l1, dlt this, cond_true, at_of hx, Option.bind_some, E_spec_RowMany (by omega) (fun x hx => by have := (ha2 x hx).1; omega), Option.bind_some, Option.bind_some, E_spec_RowMany (by omega) (fun x hx => by have := (hb2 x hx).1; omega), Option.bind_some, ck1 (show k < 1000000000000 by omega), Option.bind_some]
    congr 1
    rw [Bool.eq_iff_iff]; simp; omega) (fun n => by
      rw [m_spec_SameBag_l1, dnlt, cond_false]
      unfold m_spec_SameBag_j1
      congr 1
      rw [Bool.eq_iff_iff]; simp; omega) _ fuel0
  rw [this, List.all_eq_not_any_not]
  cases a.any fun r => !(decide (rowMany a r = rowMany b r)) <;> simp

/-! ### orders -/
theorem E_CompareI (a b : Int) : m_cmp_Compare_int a b = some (cmpI a b) := by
  unfold m_cmp_Compare_int m_cmp_isNaN_int cmpI
  have e : ∀ x : Int, (x != x) = false := fun x => by simp
  simp only [e, Option.bind_some, cond_false]
  by_cases h : a < b
  · simp [h]
  · by_cases h2 : a > b
    · simp [h, h2]
    · simp [h, h2]
theorem E_CompareS (a b : ByteArray) : m_cmp_Compare_string a b = some (cmpS a b) := by
  unfold m_cmp_Compare_string m_cmp_isNaN_string cmpS
  have e : ∀ x : ByteArray, (!(sEq x x)) = false := fun x => by simp [sEq_eq]
  simp only [e, Option.bind_some, cond_false]
  cases h1 : sLt a b <;> cases h2 : sEq a b <;> simp
theorem E_l1Cmp (a b : ByteArray) : m_spec_l1Cmp a b = some (cmpS a b) := by
  unfold m_spec_l1Cmp cmpS
  cases h1 : sLt a b <;> cases h2 : sEq a b <;> simp
theorem E_Or {l : List Int} (h : l.length ≤ 1000000) : m_cmp_Or_int l = some (orI l) := by
  unfold m_cmp_Or_int
  rw [scanC l (fun n k (_ : Unit) => m_cmp_Or_int_l1 n 0 l (l.length : Int) k) (fun x s k => bif (x != 0) then some x else k s) (fun _ => some 0) (fun n k x s hx => by
    have := lt_of_at hx
    rw [m_cmp_Or_int_l1, dlt this, cond_true, at_of hx, Option.bind_some, ck1 (show k < 1000000000000 by omega), Option.bind_some]) (fun n s => by rw [m_cmp_Or_int_l1, dnlt]; rfl) _ fuel0 ()]
  clear h
  unfold orI
  induction l with
  | nil => rfl
  | cons x l ih =>
    simp only [foldC, List.find?_cons]
    cases hx : (x != 0)
    · simpa using ih
    · rfl
theorem E_order (v w : V) : m_impl_Value_order v w = some (vOrd v w) := by
  unfold m_impl_Value_order vOrd
  rw [E_CompareI, Option.bind_some, E_CompareI, Option.bind_some, E_CompareS, Option.bind_some, E_Or (by simp)]
  rfl
theorem E_CompareFunc {a b : Row} {p : V → V → Option Int} {q : V → V → Int} (ha : a.length ≤ 1000000) (hp : ∀ v w, p v w = some (q v w)) : m_slices_CompareFunc_Limpl_Value_Limpl_Value_impl_Value_impl_Value a b p = some (cmpL q a b) := by
  unfold m_slices_CompareFunc_Limpl_Value_Limpl_Value_impl_Value_impl_Value
  have key : ∀ (ys : Row) (k n : Nat), a.drop k = ys → k ≤ a.length → k ≤ b.length → ys.length < n → m_slices_CompareFunc_Limpl_Value_Limpl_Value_impl_Value_impl_Value_l1 p n a b a (a.length : Int) (k : Int) = some (cmpL q ys (b.drop k)) := by
    intro ys
    induction ys with
    | nil =>
      intro k n hd hk hk2 hn
      have : k = a.length := by
        have := congrArg List.length hd
        simp at this; omega
      subst this
      obtain ⟨m, rfl⟩ : ∃ m, n = m + 1 := ⟨n - 1, by simp at hn; omega⟩
      rw [m_slices_CompareFunc_Limpl_Value_Limpl_Value_impl_Value_impl_Value_l1, dnlt, cond_false]
      unfold m_slices_CompareFunc_Limpl_Value_Limpl_Value_impl_Value_impl_Value_j1
      by_cases h : a.length < b.length
      · rw [List.drop_eq_getElem_cons h]
        have : (a.length : Int) < (b.length : Int) := by omega
        simp [this, cmpL]
      · rw [List.drop_eq_nil_of_le (by omega)]
        have : ¬ (a.length : Int) < (b.length : Int) := by omega
        simp [this, cmpL]
    | cons y ys ih =>
      intro k n hd hk hk2 hn
      have hlt : k < a.length := by
        have := congrArg List.length hd
        simp at this; omega
      have hc := List.drop_eq_getElem_cons hlt
      rw [hd] at hc
      simp only [List.cons.injEq] at hc
      have hx : a[k]? = some y := by rw [List.getElem?_eq_getElem hlt, hc.1]
      obtain ⟨m, rfl⟩ : ∃ m, n = m + 1 := ⟨n - 1, by simp at hn; omega⟩
      rw [m_slices_CompareFunc_Limpl_Value_Limpl_Value_impl_Value_impl_Value_l1, dlt hlt, cond_true, at_of hx, Option.bind_some]
      show (bif decide ((k : Int) ≥ (b.length : Int)) then _ else _) = _
      by_cases h : k < b.length
      · have hd2 : decide ((k : Int) ≥ (b.length : Int)) = false := by simp; omega
        have hb : b[k]? = some b[k] := by simp [h]
        rw [hd2, cond_false, at_of hb, Option.bind_some]
        show ((p y b[k]).bind _) = _
        rw [hp, Option.bind_some, ck1 (show k < 1000000000000 by omega), Option.bind_some, List.drop_eq_getElem_cons h]
        simp only [cmpL]
        have := ih (k + 1) m hc.2.symm (by omega) (by omega) (by simp at hn; omega)
        by_cases hq : q y b[k] = 0
        · rw [if_pos hq]
          have hq' : (q y b[k] != 0) = false := by simp [hq]
          rw [hq', cond_false]
          exact this
        · rw [if_neg hq, beqF' hq, cond_true]
      · have hd2 : decide ((k : Int) ≥ (b.length : Int)) = true := by simp; omega
        rw [hd2, cond_true, List.drop_eq_nil_of_le (by omega)]
        rfl
  have := key a 0 _ rfl (by omega) (by omega) (show a.length < (((a.length : Int) - 0).toNat + 1) by omega)
  simpa using this
theorem E_rowOrder {a b : Row} (ha : a.length ≤ 1000000) : m_impl_rowOrder a b = some (rOrd a b) := by
  unfold m_impl_rowOrder rOrd
  rw [E_CompareFunc ha (fun v w => E_order v w), Option.bind_some, E_CompareI, Option.bind_some, E_Or (by simp)]
  rfl
theorem E_impl_RowOrder {a b : Row} (ha : rSm a) (hb : rSm b) : m_impl_RowOrder a b = some (rrOrd a b) := by
  unfold m_impl_RowOrder m_impl_RowOrder_j1 rrOrd
  rw [E_impl_RowOk ha, Option.bind_some, E_impl_RowOk hb, Option.bind_some, E_rowOrder (by have := ha.1; omega)]
  cases rowOk a <;> cases rowOk b <;> rfl
def lessI (a b : Int) : Int := if a < b then 1 else 0
theorem E_Less (a b : Int) : m_spec_l1Less a b = some (lessI a b) := by
  unfold m_spec_l1Less lessI
  by_cases h : a < b <;> simp [h]
theorem less_b (a b : Int) : 0 ≤ lessI a b ∧ lessI a b ≤ 1 := by unfold lessI; split <;> omega
theorem orI_1 {x : Int} {l : List Int} (h : x ≠ 0) : orI (x :: l) = x := by simp [orI, h]
theorem orI_0 {l : List Int} : orI (0 :: l) = orI l := by simp [orI]
theorem orI_nil : orI [] = 0 := rfl
theorem cmpI_0 {a b : Int} : cmpI a b = 0 ↔ a = b := by unfold cmpI; split <;> (try split) <;> omega
theorem less_cmp {a b : Int} (h : a ≠ b) : 2 * lessI b a - 1 = cmpI a b := by unfold lessI cmpI; split <;> split <;> (try split) <;> omega
theorem E_ValueOrder {a b : V} (ha : vSm a) (hb : vSm b) : m_spec_ValueOrder a b = some (vvOrd a b) := by
  unfold m_spec_ValueOrder m_spec_ValueOrder_j1 vvOrd vOrd
  unfold vSm at ha hb
  rw [E_spec_ValueOk (by omega), Option.bind_some, E_spec_ValueOk (by omega), Option.bind_some]
  cases vOk a
  · rfl
  cases vOk b
  · rfl
  simp only [Bool.not_true, cond_false, Bool.and_self, if_true, E_Less, E_l1Cmp, Option.bind_some]
  by_cases h1 : a.Kind = b.Kind
  · have : (a.Kind != b.Kind) = false := by simp [h1]
    rw [this, cond_false, cmpI_0.2 h1, orI_0]
    by_cases h2 : a.N = b.N
    · have : (a.N != b.N) = false := by simp [h2]
      rw [this, cond_false, cmpI_0.2 h2, orI_0]
      by_cases h3 : cmpS a.S b.S = 0
      · rw [h3, orI_0]; rfl
      · rw [orI_1 h3]
    · rw [beqF' h2, cond_true, orI_1 (by rw [ne_eq, cmpI_0]; exact h2), ← less_cmp h2]
      have := less_b b.N a.N
      rw [ckI_of (by omega) (by omega), Option.bind_some, ckI_of (by omega) (by omega), Option.bind_some]
  · rw [beqF' h1, cond_true, orI_1 (by rw [ne_eq, cmpI_0]; exact h1), ← less_cmp h1]
    have := less_b b.Kind a.Kind
    rw [ckI_of (by omega) (by omega), Option.bind_some, ckI_of (by omega) (by omega), Option.bind_some]
theorem cmpL_0 {α : Type} {p : α → α → Int} : ∀ {a b : List α}, cmpL p a b = 0 → a.length = b.length
  | [], [], _ => rfl
  | [], _ :: _, h => by simp [cmpL] at h
  | _ :: _, [], h => by simp [cmpL] at h
  | x :: a, y :: b, h => by
    simp only [cmpL] at h
    split at h
    · simpa using cmpL_0 h
    · exact absurd h (by assumption)
theorem rOrd_cmpL (a b : Row) : rOrd a b = cmpL vOrd a b := by
  unfold rOrd
  by_cases h : cmpL vOrd a b = 0
  · have := cmpL_0 h
    simp [orI, h, cmpI, this]
  · simp [orI, h]
theorem E_spec_RowOrder {a b : Row} (ha : rSm a) (hb : rSm b) : m_spec_RowOrder a b = some (rrOrd a b) := by
  unfold m_spec_RowOrder m_spec_RowOrder_j1 rrOrd
  rw [E_spec_RowOk ha, Option.bind_some, E_spec_RowOk hb, Option.bind_some]
  cases hoa : rowOk a
  · rfl
  cases hob : rowOk b
  · rfl
  simp only [Bool.not_true, cond_false, Bool.and_self, if_true]
  obtain ⟨ha1, ha2⟩ := ha
  obtain ⟨hb1, hb2⟩ := hb
  unfold rowOk at hoa hob
  simp only [Bool.and_eq_true, List.all_eq_true] at hoa hob
  rw [rOrd_cmpL]
  have key : ∀ (ys : Row) (k n : Nat), a.drop k = ys → k ≤ a.length → k ≤ b.length → ys.length < n → m_spec_RowOrder_l1 n a b (k : Int) = some (cmpL vOrd ys (b.drop k)) := by
    intro ys
    induction ys with
    | nil =>
      intro k n hd hk hk2 hn
      have : k = a.length := by
        have := congrArg List.length hd
        simp at this; omega
      subst this
      obtain ⟨m, rfl⟩ : ∃ m, n = m + 1 := ⟨n - 1, by simp at hn; omega⟩
      rw [m_spec_RowOrder_l1, dnlt, cond_false]
      unfold m_spec_RowOrder_j2 m_spec_RowOrder_j3
      rw [cond_false, E_Less, Option.bind_some, E_Less, Option.bind_some]
      have := less_b b.length a.length
      have := less_b a.length b.length
      rw [ckI_of (by omega) (by omega), Option.bind_some]
      congr 1
      by_cases h : a.length < b.length
      · rw [List.drop_eq_getElem_cons h]
        unfold lessI
        rw [if_neg (by omega), if_pos (by omega)]; rfl
      · rw [List.drop_eq_nil_of_le (by omega)]
        unfold lessI
        rw [if_neg (by omega), if_neg (by omega)]; rfl
    | cons y ys ih =>
      intro k n hd hk hk2 hn
      have hlt : k < a.length := by
        have := congrArg List.length hd
        simp at this; omega
      have hc := List.drop_eq_getElem_cons hlt
      rw [hd] at hc
      simp only [List.cons.injEq] at hc
      have hx : a[k]? = some y := by rw [List.getElem?_eq_getElem hlt, hc.1]
      obtain ⟨m, rfl⟩ : ∃ m, n = m + 1 := ⟨n - 1, by simp at hn; omega⟩
      rw [m_spec_RowOrder_l1, dlt hlt, cond_true]
      unfold m_spec_RowOrder_j2
      by_cases h : k < b.length
      · have hb : b[k]? = some b[k] := by simp [h]
        rw [dlt h, cond_true, at_of hx, Option.bind_some, at_of hb, Option.bind_some, E_ValueOrder (ha2 y (List.mem_of_getElem? hx)) (hb2 _ (List.getElem_mem h)), Option.bind_some, ck1 (show k < 1000000000000 by omega), Option.bind_some, List.drop_eq_getElem_cons h]
        have hv : vvOrd y b[k] = vOrd y b[k] := by
          unfold vvOrd
          rw [hoa.2 y (List.mem_of_getElem? hx), hob.2 _ (List.getElem_mem h)]; rfl
        rw [hv]
        simp only [cmpL]
        have := ih (k + 1) m hc.2.symm (by omega) (by omega) (by simp at hn; omega)
        by_cases hq : vOrd y b[k] = 0
        · rw [if_pos hq]
          have hq' : (vOrd y b[k] != 0) = false := by simp [hq]
          rw [hq', cond_false]
          exact this
        · rw [if_neg hq, beqF' hq, cond_true]
      · have hd2 : decide ((k : Int) < (b.length : Int)) = false := by simp; omega
        have hkb : k = b.length := by omega
        unfold m_spec_RowOrder_j3
        rw [hd2, cond_false, E_Less, Option.bind_some, E_Less, Option.bind_some]
        have := less_b b.length a.length
        have := less_b a.length b.length
        rw [ckI_of (by omega) (by omega), Option.bind_some]
        congr 1
        rw [List.drop_eq_nil_of_le (by omega)]
        unfold lessI
        rw [if_pos (by omega), if_neg (by omega)]; rfl
  have := key a 0 1000000000 rfl (by omega) (by omega) (by omega)
  simpa using this
end Go.Proofs.Ytemfdnnhknepbaa
