/- Rows in order: what the mirrors come to. Own work. -/
import Derived.Test.YtemfdnnhknepbaaXP2
set_option linter.unusedVariables false
set_option linter.unusedSimpArgs false
namespace Go.Proofs.Ytemfdnnhknepbaa
open Go.Proofs Go.Lift
theorem E_Clip_V {l : Row} : m_slices_Clip_Limpl_Value_impl_Value l = some l := by
  unfold m_slices_Clip_Limpl_Value_impl_Value cut3?
  rw [if_pos (by omega)]
  simp
theorem E_Clip_R {l : Rows} : m_slices_Clip_LLimpl_Value_Limpl_Value l = some l := by
  unfold m_slices_Clip_LLimpl_Value_Limpl_Value cut3?
  rw [if_pos (by omega)]
  simp
theorem E_clone {l : Row} (h : l.length ≤ 1000000) : m_impl_clone_impl_Value l = some l := by
  unfold m_impl_clone_impl_Value appN?
  cases l with
  | nil => rfl
  | cons x l =>
    have e : (((x :: l).length : Int) == 0) = false := by simp; omega
    rw [e, cond_false, if_pos ⟨by simp, by omega⟩, Option.bind_some, E_Clip_V]; rfl
theorem foldl_snoc {α : Type} : ∀ (l a : List α), l.foldl (fun s x => s ++ [x]) a = a ++ l
  | [], a => by simp
  | x :: l, a => by rw [List.foldl_cons, foldl_snoc l]; simp
theorem E_rowsCopy {l : Rows} (h : l.length ≤ 1000000) (hr : ∀ r ∈ l, r.length ≤ 1000000) : m_impl_rowsCopy l = some l := by
  unfold m_impl_rowsCopy
  have := (scanF (f := fun (s : Rows) x => s ++ [x]) (J := fun s => some s) (fun k s => s.length = k) l (fun n k s => m_impl_rowsCopy_l1 n l (l.length : Int) k s) (fun n k x s hx hI => by
    have := lt_of_at hx
    rw [m_impl_rowsCopy_l1, dlt this, cond_true, at_of hx, Option.bind_some, E_clone (hr x (List.mem_of_getElem? hx)), Option.bind_some, app_of (by simp; omega), Option.bind_some, ck1 (show k < 1000000000000 by omega), Option.bind_some]
    exact ⟨rfl, by simp [hI]⟩) (fun n s _ => by
      rw [m_impl_rowsCopy_l1, dnlt, cond_false]
      unfold m_impl_rowsCopy_j1
      rw [E_Clip_R]; rfl) _ fuel0 [] rfl).1
  rw [this, foldl_snoc]; rfl
theorem E_l3Own {l : Row} (h : l.length ≤ 1000000) : m_spec_l3Own l = some l := by
  unfold m_spec_l3Own
  rw [app_of (by simp; omega)]; rfl

/-! ### where a row goes -/
/-- Where a row goes, looked for from the end. -/
def posN (out : Rows) (r : Row) : Nat → Nat
  | 0 => 0
  | n + 1 => if rrOrd (out.getD n []) r > 0 then posN out r n else n + 1
def insR (out : Rows) (r : Row) : Rows := out.take (posN out r out.length) ++ r :: out.drop (posN out r out.length)
/-- Rows put in order, one after the other. -/
def sortR (rs : Rows) : Rows := rs.foldl insR []
theorem posN_le (out : Rows) (r : Row) : ∀ n, posN out r n ≤ n
  | 0 => Nat.le_refl _
  | n + 1 => by
    simp only [posN]
    split
    · exact Nat.le_succ_of_le (posN_le out r n)
    · exact Nat.le_refl _
theorem insR_len (out : Rows) (r : Row) : (insR out r).length = out.length + 1 := by
  have := posN_le out r out.length
  unfold insR
  simp; omega
theorem insR_mem (out : Rows) (r x : Row) : x ∈ insR out r ↔ x = r ∨ x ∈ out := by
  unfold insR
  rw [List.mem_append, List.mem_cons]
  conv => rhs; rw [← List.take_append_drop (posN out r out.length) out, List.mem_append]
  constructor
  · rintro (h | h | h) <;> simp [h]
  · rintro (h | h | h) <;> simp [h]
theorem rsSm_insR {out : Rows} {r : Row} (h : ∀ x ∈ out, rSm x) (hr : rSm r) : ∀ x ∈ insR out r, rSm x := by
  intro x hx
  rcases (insR_mem _ _ _).1 hx with rfl | hx
  · exact hr
  · exact h x hx
theorem getD_at {out : Rows} {j : Nat} (h : j < out.length) : out[j]? = some (out.getD j []) := by simp [h]
theorem ckd {j : Nat} (h : j + 1 < 1000000000000) : ckI (((j + 1 : Nat) : Int) - 1) = some (j : Int) := by
  rw [ckI_of (by omega) (by omega)]; congr 1; omega

theorem impl_inner {k1 : Rows → Int → Int → Rows → Option Rows} {r : Row} {t7 : Rows} {t8 t9 : Int} {o : Rows} (hr : rSm r) (ho : ∀ x ∈ o, rSm x) (hl : o.length ≤ 1000000) : ∀ (j n : Nat), j ≤ o.length → j < n →
    m_impl_RowsSorted_l2 k1 n r (j : Int) t7 t8 t9 o = m_impl_RowsSorted_j2 k1 r (posN o r j : Int) t7 t8 t9 o := by
  intro j
  induction j with
  | zero =>
    intro n _ hn
    obtain ⟨m, rfl⟩ : ∃ m, n = m + 1 := ⟨n - 1, by omega⟩
    rw [m_impl_RowsSorted_l2, show decide (((0 : Nat) : Int) > 0) = false from rfl, cond_false]
    unfold m_impl_RowsSorted_j1
    rfl
  | succ j ih =>
    intro n hj hn
    obtain ⟨m, rfl⟩ : ∃ m, n = m + 1 := ⟨n - 1, by omega⟩
    have hd : decide (((j + 1 : Nat) : Int) > 0) = true := by rw [decide_eq_true_eq]; omega
    rw [m_impl_RowsSorted_l2, hd, cond_true, ckd (by omega), Option.bind_some, at_of (getD_at (by omega)), Option.bind_some, Option.bind_some,
      E_impl_RowOrder (ho _ (by rw [List.getD_eq_getElem?_getD, List.getElem?_eq_getElem (by omega)]; exact List.getElem_mem _)) hr, Option.bind_some]
    unfold m_impl_RowsSorted_j1
    simp only [posN]
    by_cases h : rrOrd (o.getD j []) r > 0
    · rw [if_pos h, decide_eq_true h, cond_true, ckd (by omega), Option.bind_some]
      exact ih m (by omega) (by omega)
    · rw [if_neg h, decide_eq_false h, cond_false]
theorem E_impl_RowsSorted {rs : Rows} (h : rsSm rs) : m_impl_RowsSorted rs = some (sortR rs) := by
  unfold m_impl_RowsSorted
  obtain ⟨h1, h2⟩ := h
  have hh := scanF (f := insR) (J := fun s => m_impl_RowsSorted_j4 s) (fun k s => s.length = k ∧ ∀ x ∈ s, rSm x) rs (fun n k s => m_impl_RowsSorted_l1 n rs (rs.length : Int) k s) (fun n k x s hx hI => by
    have hlt := lt_of_at hx
    obtain ⟨hI1, hI2⟩ := hI
    have hxs := h2 x (List.mem_of_getElem? hx)
    refine ⟨?_, by rw [insR_len, hI1], rsSm_insR hI2 hxs⟩
    have hp := posN_le s x s.length
    rw [m_impl_RowsSorted_l1, dlt hlt, cond_true, at_of hx, Option.bind_some, impl_inner hxs hI2 (by omega) s.length _ (Nat.le_refl _) (by omega)]
    unfold m_impl_RowsSorted_j2 m_slices_Insert_LLimpl_Value_Limpl_Value
    simp only
    rw [if_pos (by omega), Option.bind_some]
    unfold m_impl_RowsSorted_j3
    rw [ck1 (show k < 1000000000000 by omega), Option.bind_some, Int.toNat_natCast]
    rfl) (fun n s _ => by rw [m_impl_RowsSorted_l1, dnlt, cond_false]) _ fuel0 [] ⟨rfl, by simp⟩
  rw [hh.1]
  unfold m_impl_RowsSorted_j4
  have hi := hh.2
  rw [E_rowsCopy (by omega) (fun r hr => by have := (hi.2 r hr).1; omega)]
  rfl
theorem spec_inner {k1 : Rows → Int → Rows → Option Rows} {t0 : Rows} {t : Nat} {r : Row} {o : Rows} (ht : t0[t]? = some r) (hr : rSm r) (ho : ∀ x ∈ o, rSm x) (hl : o.length ≤ 1000000) : ∀ (j n : Nat), j ≤ o.length → j < n →
    m_spec_RowsSorted_l2 k1 n t0 (t : Int) (j : Int) o = m_spec_RowsSorted_j2 k1 t0 (t : Int) (posN o r j : Int) o := by
  intro j
  induction j with
  | zero =>
    intro n _ hn
    obtain ⟨m, rfl⟩ : ∃ m, n = m + 1 := ⟨n - 1, by omega⟩
    rw [m_spec_RowsSorted_l2, show decide (((0 : Nat) : Int) > 0) = false from rfl, cond_false]
    unfold m_spec_RowsSorted_j1
    rfl
  | succ j ih =>
    intro n hj hn
    obtain ⟨m, rfl⟩ : ∃ m, n = m + 1 := ⟨n - 1, by omega⟩
    have hd : decide (((j + 1 : Nat) : Int) > 0) = true := by rw [decide_eq_true_eq]; omega
    rw [m_spec_RowsSorted_l2, hd, cond_true, ckd (by omega), Option.bind_some, at_of (getD_at (by omega)), Option.bind_some, Option.bind_some, at_of ht, Option.bind_some,
      E_spec_RowOrder (ho _ (by rw [List.getD_eq_getElem?_getD, List.getElem?_eq_getElem (by omega)]; exact List.getElem_mem _)) hr, Option.bind_some]
    unfold m_spec_RowsSorted_j1
    simp only [posN]
    by_cases h : rrOrd (o.getD j []) r > 0
    · rw [if_pos h, decide_eq_true h, cond_true, ckd (by omega), Option.bind_some]
      exact ih m (by omega) (by omega)
    · rw [if_neg h, decide_eq_false h, cond_false]
theorem cut_of {α : Type} {l : List α} {lo hi : Nat} (h : lo ≤ hi) (h2 : hi ≤ l.length) : cut? l (lo : Int) (hi : Int) = some ((l.take hi).drop lo) := by
  unfold cut?
  rw [if_pos (by omega)]
  simp
theorem E_spec_RowsSorted {rs : Rows} (h : rsSm rs) : m_spec_RowsSorted rs = some (sortR rs) ∧ (sortR rs).length = rs.length ∧ ∀ r ∈ sortR rs, rSm r := by
  unfold m_spec_RowsSorted
  obtain ⟨h1, h2⟩ := h
  have hh := scanF (f := insR) (J := fun s => some s) (fun k s => s.length = k ∧ ∀ x ∈ s, rSm x) rs (fun n k s => m_spec_RowsSorted_l1 n rs k s) (fun n k x s hx hI => by
    have hlt := lt_of_at hx
    obtain ⟨hI1, hI2⟩ := hI
    have hxs := h2 x (List.mem_of_getElem? hx)
    refine ⟨?_, by rw [insR_len, hI1], rsSm_insR hI2 hxs⟩
    have hp := posN_le s x s.length
    rw [m_spec_RowsSorted_l1, dlt hlt, cond_true, spec_inner hx hxs hI2 (by omega) s.length _ (Nat.le_refl _) (by omega)]
    unfold m_spec_RowsSorted_j2
    have hxl := hxs.1
    rw [show (0 : Int) = ((0 : Nat) : Int) from rfl, cut_of (Nat.zero_le _) hp, Option.bind_some, app_of (by simp; omega), Option.bind_some, at_of hx, Option.bind_some, E_l3Own (by omega), Option.bind_some, app_of (by simp; omega), Option.bind_some,
      cut_of hp (Nat.le_refl _), Option.bind_some, app_of (by simp; omega), Option.bind_some]
    unfold m_spec_RowsSorted_j3
    rw [ck1 (show k < 1000000000000 by omega), Option.bind_some]
    congr 1
    unfold insR
    simp) (fun n s _ => by rw [m_spec_RowsSorted_l1, dnlt, cond_false]; rfl) _ fuel0 [] ⟨rfl, by simp⟩
  exact ⟨hh.1, hh.2⟩
end Go.Proofs.Ytemfdnnhknepbaa
