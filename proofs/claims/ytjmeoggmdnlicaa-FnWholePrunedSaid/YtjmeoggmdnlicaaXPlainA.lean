/- What the mirrors come to, in plain Lean: the law itself at the end. -/
import Derived.Test.YtjmeoggmdnlicaaXW6
import Derived.Test.YtjmeoggmdnlicaaLd
set_option linter.unusedVariables false
set_option linter.unusedSimpArgs false
set_option linter.unnecessarySimpa false
namespace Go.Proofs.Ytjmeoggmdnlicaa
open Go.Proofs Go.Lift
abbrev V := S_impl_Value
abbrev Row := List V
abbrev Rows := List Row
def cmpI (a b : Int) : Int := if a < b then -1 else if b < a then 1 else 0
def cmpS (a b : ByteArray) : Int := if sLt a b then -1 else if sLt a b || sEq a b then 0 else 1
def orI (l : List Int) : Int := (l.find? (· != 0)).getD 0
def lower (l : List UInt8) : Bool := l.all fun b => decide (97 ≤ b.toNat) && decide (b.toNat ≤ 122)
def vOk (v : V) : Bool :=
  if v.Kind = 0 then decide (v = ⟨0, 0, ⟨#[]⟩⟩)
  else if v.Kind = 1 then decide (v.S = ⟨#[]⟩) && (decide (-9999 ≤ v.N) && decide (v.N ≤ 9999))
  else if v.Kind = 2 then decide (v.N = 0) && decide (v.S.size ≤ 6) && lower v.S.data.toList
  else if v.Kind = 3 then decide (v.S = ⟨#[]⟩) && (decide (0 ≤ v.N) && decide (v.N ≤ 1))
  else false
def vOrd (v w : V) : Int := orI [cmpI v.Kind w.Kind, cmpI v.N w.N, cmpS v.S w.S]
def rowMany (rs : Rows) (r : Row) : Nat := rs.countP fun x => decide (x = r)
def rowOk (l : Row) : Bool := decide (l.length ≤ 4) && l.all vOk
def vSm (v : V) : Prop := v.S.size ≤ 1100000
def rSm (l : Row) : Prop := l.length ≤ 1100000 ∧ ∀ v ∈ l, vSm v
def rsSm (l : Rows) : Prop := l.length ≤ 400000000 ∧ ∀ r ∈ l, rSm r
def cmpL {α : Type} (p : α → α → Int) : List α → List α → Int
  | [], [] => 0
  | [], _ :: _ => -1
  | _ :: _, [] => 1
  | a :: x, b :: y => if p a b = 0 then cmpL p x y else p a b
theorem E_Equal {a b : Row} (ha : a.length ≤ 900000000) : m_slices_Equal_Limpl_Value_impl_Value a b = some (decide (a = b)) := by
  unfold m_slices_Equal_Limpl_Value_impl_Value
  by_cases h : a.length = b.length
  · have hc : ((a.length : Int) != (b.length : Int)) = false := by simp [h]
    rw [hc, cond_false, ← all2_eq h]; refine scan2 a b h (fun n k => m_slices_Equal_Limpl_Value_impl_Value_l1 n a b (a.length : Int) k) (fun n k x y hx hy => ?_) (fun n => ?_) _ (by omega)
    · have := lt_of_at hx
      simp only [m_slices_Equal_Limpl_Value_impl_Value_l1, dlt this, at_of hx, at_of hy, ck1 (show k < 1000000000000 by omega), Option.bind_some, cond_true]; cases decide (x = y) <;> rfl
    · simp only [m_slices_Equal_Limpl_Value_impl_Value_l1, dnlt]; rfl
  · have hc : ((a.length : Int) != (b.length : Int)) = true := by simp; omega
    rw [hc, cond_true]; have : a ≠ b := fun e => h (by rw [e]); simp [this]
theorem E_impl_RowMany {rs : Rows} {r : Row} (h : rs.length ≤ 900000000) (hr : ∀ x ∈ rs, x.length ≤ 900000000) : m_impl_RowMany rs r = some (rowMany rs r : Int) := by
  unfold m_impl_RowMany rowMany; refine scanN (p := fun x => decide (x = r)) (J := fun s => some s) rs (fun n k s => m_impl_RowMany_l1 n r s rs (rs.length : Int) k) (fun n k x s hx h0 h1 => ?_) (fun n s => ?_) _ (by omega)
  · have := lt_of_at hx
    rw [m_impl_RowMany_l1, dlt this, cond_true, at_of hx, Option.bind_some, E_Equal (hr x (List.mem_of_getElem? hx)), Option.bind_some]; simp only [m_impl_RowMany_j1]; rw [ckI_of (by omega) (by omega), ck1 (show k < 1000000000000 by omega)]; cases decide (x = r) <;> rfl
  · simp only [m_impl_RowMany_l1, dnlt]; rfl
theorem E_IndexFunc_V {l : Row} {p : V → Option Bool} {q : V → Bool} (hl : l.length ≤ 900000000) (hp : ∀ v ∈ l, p v = some (q v)) : m_slices_ContainsFunc_Limpl_Value_impl_Value l p = some (l.any q) := by
  unfold m_slices_ContainsFunc_Limpl_Value_impl_Value m_slices_IndexFunc_Limpl_Value_impl_Value
  have key : ∀ (ys : Row) (k n : Nat), l.drop k = ys → k ≤ l.length → ys.length < n → ∃ i : Int, m_slices_IndexFunc_Limpl_Value_impl_Value_l1 p n l (l.length : Int) (k : Int) = some i ∧ decide (i ≥ 0) = ys.any q := by
    intro ys
    induction ys with
    | nil =>
      intro k n hd hk hn
      have : k = l.length := by
        have := congrArg List.length hd; simp at this; omega
      subst this; obtain ⟨m, rfl⟩ : ∃ m, n = m + 1 := ⟨n - 1, by simp at hn; omega⟩; exact ⟨-1, by simp only [m_slices_IndexFunc_Limpl_Value_impl_Value_l1, dnlt]; rfl, rfl⟩
    | cons y ys ih =>
      intro k n hd hk hn
      have hlt : k < l.length := by
        have := congrArg List.length hd; simp at this; omega
      have hc := List.drop_eq_getElem_cons hlt; rw [hd] at hc; simp only [List.cons.injEq] at hc; have hx : l[k]? = some y := by rw [List.getElem?_eq_getElem hlt, hc.1]
      obtain ⟨m, rfl⟩ : ∃ m, n = m + 1 := ⟨n - 1, by simp at hn; omega⟩; simp only [m_slices_IndexFunc_Limpl_Value_impl_Value_l1, dlt hlt, at_of hx, hp y (List.mem_of_getElem? hx), ck1 (show k < 1000000000000 by omega), Option.bind_some, cond_true]; cases hq : q y
      · obtain ⟨i, h1, h2⟩ := ih (k + 1) m hc.2.symm (by omega) (by simp at hn; omega)
        exact ⟨i, by simpa using h1, by rw [h2]; simp [hq]⟩
      · exact ⟨(k : Int), rfl, by simp [hq]⟩
  obtain ⟨i, h1, h2⟩ := key l 0 _ rfl (by omega) (show l.length < (((l.length : Int) - 0).toNat + 1) by omega); rw [show ((0 : Nat) : Int) = 0 from rfl] at h1; rw [h1]; simp only [Option.bind_some, h2]
theorem E_between (a b c : Int) : m_impl_between a b c = some (decide (b ≤ a) && decide (a ≤ c)) := by
  unfold m_impl_between m_impl_between_j1
  by_cases h : a ≥ b <;> simp [h]
theorem lower_any (l : List UInt8) : lower l = !(l.any fun b => !(decide (97 ≤ (b.toNat : Int)) && decide ((b.toNat : Int) ≤ 122))) := by
  unfold lower; rw [List.all_eq_not_any_not]
  congr 2
  funext b
  congr 1
  have h1 : decide (97 ≤ b.toNat) = decide (97 ≤ (b.toNat : Int)) := by rw [decide_eq_decide]; omega
  have h2 : decide (b.toNat ≤ 122) = decide ((b.toNat : Int) ≤ 122) := by rw [decide_eq_decide]; omega
  rw [h1, h2]
theorem E_letters {s : ByteArray} (h : s.size ≤ 900000000) : m_impl_letters s = some (lower s.data.toList) := by
  unfold m_impl_letters sBytes?; rw [if_pos (by omega)]; simp only [Option.bind_some]; have hl : s.data.toList.length ≤ 900000000 := h
  have := scanA (p := fun b : UInt8 => !(decide (97 ≤ (b.toNat : Int)) && decide ((b.toNat : Int) ≤ 122))) (r0 := false) (r1 := true) s.data.toList (fun n k => m_impl_letters_l1 n s.data.toList (s.data.toList.length : Int) k) (fun n k x hx => by
    have := lt_of_at hx; simp only [m_impl_letters_l1, dlt this, at_of hx, E_between, ck1 (show k < 1000000000000 by omega), Option.bind_some, cond_true]) (fun n => by simp only [m_impl_letters_l1, dnlt]; rfl) _ fuel0
  rw [this, lower_any]; cases s.data.toList.any fun b => !(decide (97 ≤ (b.toNat : Int)) && decide ((b.toNat : Int) ≤ 122)) <;> rfl
theorem E_Value_ok {v : V} (h : v.S.size ≤ 900000000) : m_impl_Value_ok v = some (vOk v) := by
  unfold m_impl_Value_ok m_impl_Value_ok_j1 m_impl_Value_ok_j2 m_impl_Value_ok_j3 vOk; simp only [E_between, E_letters h, Option.bind_some, sEq_eq]
  by_cases h0 : v.Kind = 0
  · simp [h0]
  · by_cases h1 : v.Kind = 1
    · by_cases hs : v.S = ⟨#[]⟩ <;> simp [beqF h0, h0, h1, hs]
    · by_cases h2 : v.Kind = 2
      · by_cases hn : v.N = 0
        · by_cases hs : v.S.size ≤ 6
          · have : (v.S.size : Int) ≤ 6 := by omega
            simp [beqF h0, beqF h1, h0, h1, h2, hn, hs, this]
          · have : ¬ (v.S.size : Int) ≤ 6 := by omega
            simp [beqF h0, beqF h1, h0, h1, h2, hn, hs, this]
        · simp [beqF h0, beqF h1, h0, h1, h2, beqF hn, hn]
      · by_cases h3 : v.Kind = 3
        · by_cases hs : v.S = ⟨#[]⟩ <;> simp [beqF h0, beqF h1, beqF h2, h0, h1, h2, h3, hs]
        · simp [beqF h0, beqF h1, beqF h2, beqF h3, h0, h1, h2, h3]
theorem E_impl_RowOk {l : Row} (h : rSm l) : m_impl_RowOk l = some (rowOk l) := by
  unfold m_impl_RowOk m_impl_RowOk_j1 rowOk; obtain ⟨h1, h2⟩ := h; rw [E_IndexFunc_V (q := fun v => !(vOk v)) (by omega) (fun v hv => by unfold m_impl_RowOk_1; rw [E_Value_ok (by have := h2 v hv; unfold vSm at this; omega)]; rfl)]; simp only [Option.bind_some]; rw [List.all_eq_not_any_not]
  by_cases h : l.length ≤ 4
  · have : (l.length : Int) ≤ 4 := by omega
    simp [h, this]
  · have : ¬ (l.length : Int) ≤ 4 := by omega
    simp [h, this]
theorem E_alive : m_laws_alive = some true := by
  unfold m_laws_alive m_laws_alive_j1 m_impl_ValueOk; rw [E_Value_ok (by decide), E_Value_ok (by decide)]; rfl
theorem E_Concat2 {a b : Rows} (ha : a.length ≤ 400000000) (hb : b.length ≤ 400000000) : m_slices_Concat_LLimpl_Value_Limpl_Value [a, b] = some (a ++ b) := by
  unfold m_slices_Concat_LLimpl_Value_Limpl_Value; rw [show ((([a, b] : List Rows).length : Int) - 0).toNat + 1 = 2 + 1 from rfl, show (([a, b] : List Rows).length : Int) = 2 from rfl]; have a0 : at? [a, b] 0 = some a := rfl; have a1 : at? [a, b] 1 = some b := rfl; have k1 : ckI (0 + 1) = some 1 := rfl; have k2 : ckI (1 + 1) = some 2 := rfl; have d0 : decide ((0 : Int) < 2) = true := rfl; have d1 : decide ((1 : Int) < 2) = true := rfl; have d2 : decide ((2 : Int) < 2) = false := rfl; rw [m_slices_Concat_LLimpl_Value_Limpl_Value_l1, d0, cond_true, a0, Option.bind_some, ckI_of (by omega) (by omega), Option.bind_some]; rw [show decide (0 + (a.length : Int) < 0) = false by rw [decide_eq_false_iff_not]; omega, cond_false, k1, Option.bind_some]; rw [m_slices_Concat_LLimpl_Value_Limpl_Value_l1, d1, cond_true, a1, Option.bind_some, ckI_of (by omega) (by omega), Option.bind_some]; rw [show decide (0 + (a.length : Int) + (b.length : Int) < 0) = false by rw [decide_eq_false_iff_not]; omega, cond_false, k2, Option.bind_some]; rw [m_slices_Concat_LLimpl_Value_Limpl_Value_l1, d2, cond_false]; unfold m_slices_Concat_LLimpl_Value_Limpl_Value_j1 m_slices_Grow_LLimpl_Value_Limpl_Value; rw [if_pos (by omega), Option.bind_some, show ((([a, b] : List Rows).length : Int) - 0).toNat + 1 = 2 + 1 from rfl, show (([a, b] : List Rows).length : Int) = 2 from rfl]; rw [m_slices_Concat_LLimpl_Value_Limpl_Value_l2, d0, cond_true, a0, Option.bind_some, app_of (by simp; omega), Option.bind_some, k1, Option.bind_some]; rw [m_slices_Concat_LLimpl_Value_Limpl_Value_l2, d1, cond_true, a1, Option.bind_some, app_of (by simp; omega), Option.bind_some, k2, Option.bind_some]; rw [m_slices_Concat_LLimpl_Value_Limpl_Value_l2, d2, cond_false]; rfl
theorem E_impl_SameBag {a b : Rows} (ha : rsSm a) (hb : rsSm b) : m_impl_SameBag a b = some ((a ++ b).all fun r => decide (rowMany a r = rowMany b r)) := by
  unfold m_impl_SameBag; obtain ⟨ha1, ha2⟩ := ha; obtain ⟨hb1, hb2⟩ := hb; rw [E_Concat2 (by omega) (by omega), Option.bind_some]; have hl : (a ++ b).length ≤ 900000000 := by simp; omega
  have := scanA (p := fun r => !(decide (rowMany a r = rowMany b r))) (r0 := false) (r1 := true) (a ++ b) (fun n k => m_impl_SameBag_l1 n a b (a ++ b) ((a ++ b).length : Int) k) (fun n k x hx => by
    have := lt_of_at hx; rw [m_impl_SameBag_l1, dlt this, cond_true, at_of hx, Option.bind_some, E_impl_RowMany (by omega) (fun x hx => by have := (ha2 x hx).1; omega), Option.bind_some, E_impl_RowMany (by omega) (fun x hx => by have := (hb2 x hx).1; omega), Option.bind_some, ck1 (show k < 1000000000000 by omega), Option.bind_some]
    congr 1
    rw [Bool.eq_iff_iff]; simp; omega) (fun n => by rw [m_impl_SameBag_l1, dnlt]; rfl) _ fuel0
  rw [this, List.all_eq_not_any_not]; cases (a ++ b).any fun r => !(decide (rowMany a r = rowMany b r)) <;> rfl
theorem E_CompareI (a b : Int) : m_cmp_Compare_int a b = some (cmpI a b) := by
  unfold m_cmp_Compare_int m_cmp_isNaN_int cmpI; have e : ∀ x : Int, (x != x) = false := fun x => by simp
  simp only [e, Option.bind_some, cond_false]
  by_cases h : a < b
  · simp [h]
  · by_cases h2 : a > b
    · simp [h, h2]
    · simp [h, h2]
theorem E_CompareS (a b : ByteArray) : m_cmp_Compare_string a b = some (cmpS a b) := by
  unfold m_cmp_Compare_string m_cmp_isNaN_string cmpS; have e : ∀ x : ByteArray, (!(sEq x x)) = false := fun x => by simp [sEq_eq]
  simp only [e, Option.bind_some, cond_false]; cases h1 : sLt a b <;> cases h2 : sEq a b <;> simp
theorem E_Or {l : List Int} (h : l.length ≤ 900000000) : m_cmp_Or_int l = some (orI l) := by
  unfold m_cmp_Or_int
  rw [scanC l (fun n k (_ : Unit) => m_cmp_Or_int_l1 n 0 l (l.length : Int) k) (fun x s k => bif (x != 0) then some x else k s) (fun _ => some 0) (fun n k x s hx => by
    have := lt_of_at hx; rw [m_cmp_Or_int_l1, dlt this, cond_true, at_of hx, Option.bind_some, ck1 (show k < 1000000000000 by omega), Option.bind_some]) (fun n s => by rw [m_cmp_Or_int_l1, dnlt]; rfl) _ fuel0 ()]
  clear h; unfold orI
  induction l with
  | nil => rfl
  | cons x l ih =>
    simp only [foldC, List.find?_cons]; cases hx : (x != 0)
    · simpa using ih
    · rfl
theorem E_order (v w : V) : m_impl_Value_order v w = some (vOrd v w) := by
  unfold m_impl_Value_order vOrd; rw [E_CompareI, Option.bind_some, E_CompareI, Option.bind_some, E_CompareS, Option.bind_some, E_Or (by simp)]; rfl
theorem E_clone {l : Row} (h : l.length ≤ 900000000) : m_impl_clone_impl_Value l = some l := by
  unfold m_impl_clone_impl_Value appN?; cases l with
  | nil => rfl
  | cons x l =>
    have e : (((x :: l).length : Int) == 0) = false := by simp; omega
    rw [e, cond_false, if_pos ⟨by simp, by omega⟩, Option.bind_some]; rfl
theorem foldl_snoc {α : Type} : ∀ (l a : List α), l.foldl (fun s x => s ++ [x]) a = a ++ l
  | [], a => by simp
  | x :: l, a => by rw [List.foldl_cons, foldl_snoc l]; simp
theorem E_rowsCopy {l : Rows} (h : l.length ≤ 900000000) (hr : ∀ r ∈ l, r.length ≤ 900000000) : m_impl_rowsCopy l = some l := by
  unfold m_impl_rowsCopy
  have := (scanF (f := fun (s : Rows) x => s ++ [x]) (J := fun s => some s) (fun k s => s.length = k) l (fun n k s => m_impl_rowsCopy_l1 n l (l.length : Int) k s) (fun n k x s hx hI => by
    have := lt_of_at hx; rw [m_impl_rowsCopy_l1, dlt this, cond_true, at_of hx, Option.bind_some, E_clone (hr x (List.mem_of_getElem? hx)), Option.bind_some, app_of (by simp; omega), Option.bind_some, ck1 (show k < 1000000000000 by omega), Option.bind_some]
    exact ⟨rfl, by simp [hI]⟩) (fun n s _ => by
      rw [m_impl_rowsCopy_l1, dnlt, cond_false]; unfold m_impl_rowsCopy_j1; rfl) _ fuel0 [] rfl).1
  rw [this, foldl_snoc]; rfl
theorem E_l3Own {l : Row} (h : l.length ≤ 900000000) : m_spec_l3Own l = some l := by
  unfold m_spec_l3Own; rw [app_of (by simp; omega)]; rfl
abbrev Rd := S_spec_l20Rd
def Rd.ok (o : Rd) : Prop := 0 ≤ o.p ∧ o.p ≤ 1000000000
theorem tmod_b {m n : Int} (h : 0 ≤ m) (hn : 0 < n) : 0 ≤ m.tmod n ∧ m.tmod n < n := ⟨Int.tmod_nonneg n h, Int.tmod_lt_of_pos m hn⟩
theorem tdiv_b {m n : Int} (h : 0 ≤ m) (hn : 0 < n) : 0 ≤ m.tdiv n ∧ m.tdiv n ≤ m := ⟨Int.tdiv_nonneg h (Int.le_of_lt hn), Int.tdiv_le_self _ h⟩
theorem T_pick {o : Rd} {n : Int} (ho : 0 ≤ o.p ∧ o.p ≤ 1000000000) : Tot (m_Pspec_l20Rd_pick o n) fun r => 0 ≤ r.1 ∧ (r.1 < n ∨ r.1 = 0) ∧ r.2.p = o.p + 1 := by
  unfold m_Pspec_l20Rd_pick; refine Tot.ck (by omega) (by omega) (Tot.lt ?_); refine Tot.bif (fun h => ?_) (fun h => ?_)
  · unfold m_Pspec_l20Rd_pick_j1
    exact Tot.ret ⟨Int.le_refl _, .inr rfl, rfl⟩
  · simp only [decide_eq_false_iff_not] at h
    unfold m_Pspec_l20Rd_pick_j1; refine Tot.bif (fun h2 => Tot.ret ⟨Int.le_refl _, .inr rfl, rfl⟩) (fun h2 => ?_); have hb : 0 < (o.b.length : Int) := by simp at h2; have := List.length_pos_iff.2 h2; omega
    refine Tot.ck (by simp only; omega) (by simp only; omega) ?_; have e : (o.p + 1 - 1) = o.p := by omega
    simp only [e]; refine Tot.bif (fun h3 => ?_) (fun h3 => ?_)
    · simp only [decide_eq_true_eq] at h3
      refine Tot.at (by omega) h3 (fun x _ => ?_); refine Tot.rem (by omega) (Tot.ret ?_); have := tmod_b (m := (x.toNat : Int)) (n := n) (by omega) (by omega); exact ⟨this.1, .inl this.2, rfl⟩
    · have m1 := tmod_b (m := o.p) (n := o.b.length) (by omega) hb
      refine Tot.rem (by omega) (Tot.at m1.1 m1.2 (fun x _ => ?_)); have hx := x.toNat_lt; refine Tot.ck (by omega) (by omega) (Tot.ck (by omega) (by omega) (Tot.ck (by omega) (by omega) ?_)); have m2 := tmod_b (m := o.p * 7 + 3) (n := o.b.length) (by omega) hb; refine Tot.rem (by omega) (Tot.at m2.1 m2.2 (fun y _ => ?_)); have hy := y.toNat_lt; refine Tot.ck (by omega) (by omega) (Tot.ck (by omega) (by omega) (Tot.ck (by omega) (by omega) (Tot.ck (by omega) (by omega) ?_))); have d1 := tdiv_b (m := o.p) (n := o.b.length) (by omega) hb; refine Tot.quo (by omega) (by omega) (by omega) (Tot.ck (by omega) (by omega) (Tot.ck (by omega) (by omega) ?_)); have hz : 0 ≤ (x.toNat : Int) * 131 + (y.toNat : Int) * 1117 + o.p * 29 + o.p.tdiv o.b.length * 53 ∧ (x.toNat : Int) * 131 + (y.toNat : Int) * 1117 + o.p * 29 + o.p.tdiv o.b.length * 53 < 1000000000000 := by omega
      generalize (x.toNat : Int) * 131 + (y.toNat : Int) * 1117 + o.p * 29 + o.p.tdiv o.b.length * 53 = z at hz ⊢; have d2 := tdiv_b (m := z) (n := 64) (by omega) (by omega); refine Tot.quo (by omega) (by omega) (by omega) (Tot.xor (by omega) (fun u h4 h5 => Tot.rem (by omega) (Tot.ret ?_))); have := tmod_b (m := u) (n := n) (by omega) (by omega); exact ⟨this.1, .inl this.2, rfl⟩
theorem T_l20Open {l : List UInt8} : Tot (m_spec_l20Open l) fun r => r.p = 0 := by
  unfold m_spec_l20Open m_spec_l20Open_j1; refine Tot.bif (fun h => ?_) (fun _ => Tot.ret rfl); simp only [gt_iff_lt, decide_eq_true_eq] at h; exact Tot.cut (by omega) (Tot.ret rfl)
structure TO {α : Type} (p : α → α → Int) : Prop where
  eq0 : ∀ a b, p a b = 0 ↔ a = b
  anti : ∀ a b, p a b < 0 ↔ 0 < p b a
  trans : ∀ a b c, p a b < 0 → p b c < 0 → p a c < 0
theorem TO.comap {α β : Type} {p : β → β → Int} (h : TO p) (f : α → β) (hf : ∀ a b, f a = f b → a = b) : TO fun a b => p (f a) (f b) where
  eq0 a b := ⟨fun e => hf a b ((h.eq0 _ _).1 e), fun e => (h.eq0 _ _).2 (by rw [e])⟩
  anti a b := h.anti _ _
  trans a b c := h.trans _ _ _
theorem TO.le_trans {α : Type} {p : α → α → Int} (h : TO p) {a b c : α} (h1 : p a b ≤ 0) (h2 : p b c ≤ 0) : p a c ≤ 0 := by
  rcases Int.lt_or_eq_of_le h1 with h1 | h1
  · rcases Int.lt_or_eq_of_le h2 with h2 | h2
    · exact Int.le_of_lt (h.trans _ _ _ h1 h2)
    · rw [← (h.eq0 _ _).1 h2]; omega
  · rw [(h.eq0 _ _).1 h1]; exact h2
theorem TO.total {α : Type} {p : α → α → Int} (h : TO p) (a b : α) : 0 < p a b ↔ p b a < 0 := (h.anti b a).symm
def lx (x y : Int) : Int := if x = 0 then y else x
theorem TO_int : TO cmpI where
  eq0 a b := by unfold cmpI; split <;> (try split) <;> omega
  anti a b := by unfold cmpI; split <;> split <;> (try split) <;> (try split) <;> omega
  trans a b c := by unfold cmpI; split <;> split <;> (try split) <;> (try split) <;> (try split) <;> omega
def cmpB : List UInt8 → List UInt8 → Int
  | [], [] => 0
  | [], _ :: _ => -1
  | _ :: _, [] => 1
  | a :: x, b :: y => lx (cmpI a.toNat b.toNat) (cmpB x y)
theorem cmpB_less : ∀ a b : List UInt8, (if Op.bytesLess a b then (-1 : Int) else if Op.bytesLess a b || a == b then 0 else 1) = cmpB a b
  | [], [] => rfl
  | [], _ :: _ => rfl
  | _ :: _, [] => rfl
  | a :: x, b :: y => by
    have ih := cmpB_less x y; simp only [cmpB, ← ih]; unfold lx cmpI; simp only [Op.bytesLess]; rcases Nat.lt_trichotomy a.toNat b.toNat with h | h | h
    · have h' : a < b := UInt8.lt_iff_toNat_lt.2 h
      have h2 : (a.toNat : Int) < b.toNat := by omega
      simp [h', h2]
    · have h' : a = b := UInt8.toNat_inj.1 h
      subst h'; simp
    · have h' : ¬ a < b := fun e => by have := UInt8.lt_iff_toNat_lt.1 e; omega
      have h2 : ¬ (a.toNat : Int) < b.toNat := by omega
      have h3 : (b.toNat : Int) < a.toNat := by omega
      have h4 : ¬ a = b := fun e => by rw [e] at h; omega
      simp [h', h2, h3, h4]
theorem TO_list {α : Type} {p : α → α → Int} (h : TO p) : TO (cmpL p) where
  eq0 := by
    intro a
    induction a with
    | nil => intro b; cases b <;> simp [cmpL]
    | cons x a ih =>
      intro b; cases b with
      | nil => simp [cmpL]
      | cons y b =>
        simp only [cmpL]
        split
        · rename_i e; rw [ih b, List.cons.injEq]; exact ⟨fun e2 => ⟨(h.eq0 _ _).1 e, e2⟩, fun e2 => e2.2⟩
        · rename_i e; rw [List.cons.injEq]; exact ⟨fun e2 => absurd e2 e, fun e2 => absurd ((h.eq0 _ _).2 e2.1) e⟩
  anti := by
    intro a
    induction a with
    | nil => intro b; cases b <;> simp [cmpL]
    | cons x a ih =>
      intro b; cases b with
      | nil => simp [cmpL]
      | cons y b =>
        simp only [cmpL]
        by_cases e : x = y
        · rw [if_pos ((h.eq0 _ _).2 e), if_pos ((h.eq0 _ _).2 e.symm)]; exact ih b
        · rw [if_neg (fun g => e ((h.eq0 _ _).1 g)), if_neg (fun g => e ((h.eq0 _ _).1 g).symm)]; exact h.anti x y
  trans := by
    intro a
    induction a with
    | nil => intro b c; cases b <;> cases c <;> simp [cmpL]
    | cons x a ih =>
      intro b c; cases b with
      | nil => simp [cmpL]
      | cons y b =>
        cases c with
        | nil => simp [cmpL]
        | cons z c =>
          simp only [cmpL]
          by_cases e1 : x = y
          · rw [if_pos ((h.eq0 _ _).2 e1), e1]
            by_cases e2 : y = z
            · rw [if_pos ((h.eq0 _ _).2 e2), if_pos ((h.eq0 _ _).2 e2)]; exact ih b c
            · rw [if_neg (fun g => e2 ((h.eq0 _ _).1 g)), if_neg (fun g => e2 ((h.eq0 _ _).1 g))]; exact fun _ g => g
          · rw [if_neg (fun g => e1 ((h.eq0 _ _).1 g))]
            by_cases e2 : y = z
            · rw [← e2, if_pos ((h.eq0 _ _).2 rfl), if_neg (fun g => e1 ((h.eq0 _ _).1 g))]; exact fun g _ => g
            · rw [if_neg (fun g => e2 ((h.eq0 _ _).1 g))]
              intro g1 g2; have := h.trans x y z g1 g2; rw [if_neg (by omega)]; exact this
theorem TO_byte : TO fun (a b : UInt8) => cmpI a.toNat b.toNat := TO_int.comap (fun b : UInt8 => (b.toNat : Int)) fun a b h => UInt8.toNat_inj.1 (by omega)
theorem cmpB_L : ∀ a b : List UInt8, cmpB a b = cmpL (fun (a b : UInt8) => cmpI a.toNat b.toNat) a b
  | [], [] => rfl
  | [], _ :: _ => rfl
  | _ :: _, [] => rfl
  | a :: x, b :: y => by simp only [cmpB, cmpL, lx, cmpB_L x y]
theorem TO_str : TO cmpS := by
  have h := (TO_list TO_byte).comap (fun s : ByteArray => s.data.toList) (fun a b h => ByteArray.ext (Array.toList_inj.1 h))
  have e : cmpS = fun a b : ByteArray => cmpL (fun (a b : UInt8) => cmpI a.toNat b.toNat) a.data.toList b.data.toList := by
    funext a b
    unfold cmpS sLt sEq; rw [ByteArray.toList_eq, ByteArray.toList_eq, cmpB_less, cmpB_L]
  rw [e]; exact h
theorem rowMany_count (rs : Rows) (r : Row) : rowMany rs r = rs.count r := by
  unfold rowMany List.count
  congr 1
  funext x
  rw [Bool.eq_iff_iff]; simp
theorem bag_perm {a b : Rows} : ((a ++ b).all fun r => decide (rowMany a r = rowMany b r)) = true ↔ a.Perm b := by
  rw [List.all_eq_true, List.perm_iff_count]; constructor
  · intro h r
    by_cases hr : r ∈ a ++ b
    · have := h r hr
      simpa [rowMany_count] using this
    · rw [List.mem_append, not_or] at hr
      rw [List.count_eq_zero_of_not_mem hr.1, List.count_eq_zero_of_not_mem hr.2]
  · intro h r _
    simp [rowMany_count, h r]
theorem L_slices_IndexFunc_Limpl_Column_impl_Column {l : List S_impl_Column} {p : S_impl_Column → Option Bool} {q : S_impl_Column → Bool} (hl : l.length ≤ 900000000) (hp : ∀ v ∈ l, p v = some (q v)) : m_slices_IndexFunc_Limpl_Column_impl_Column l p = some (idxI q l) := by
  unfold m_slices_IndexFunc_Limpl_Column_impl_Column
  exact scanI (q := q) (g := fun i => some i) l (fun n k => m_slices_IndexFunc_Limpl_Column_impl_Column_l1 p n l (l.length : Int) k) (fun n k x hx => by
    have := lt_of_at hx; rw [m_slices_IndexFunc_Limpl_Column_impl_Column_l1, dlt this, cond_true]; simp only [at_of hx, Option.bind_some, hp x (List.mem_of_getElem? hx), ck1 (show k < 1000000000000 by omega)]) (fun n => by rw [m_slices_IndexFunc_Limpl_Column_impl_Column_l1, dnlt]; rfl) _ fuel0
theorem L_slices_ContainsFunc_Limpl_Column_impl_Column {l : List S_impl_Column} {p : S_impl_Column → Option Bool} {q : S_impl_Column → Bool} (hl : l.length ≤ 900000000) (hp : ∀ v ∈ l, p v = some (q v)) : m_slices_ContainsFunc_Limpl_Column_impl_Column l p = some (l.any q) := by
  unfold m_slices_ContainsFunc_Limpl_Column_impl_Column; rw [L_slices_IndexFunc_Limpl_Column_impl_Column hl hp, Option.bind_some, (idxI_ge q l).2.2]
theorem L_slices_IndexFunc_LLimpl_Value_Limpl_Value {l : List (List S_impl_Value)} {p : (List S_impl_Value) → Option Bool} {q : (List S_impl_Value) → Bool} (hl : l.length ≤ 900000000) (hp : ∀ v ∈ l, p v = some (q v)) : m_slices_IndexFunc_LLimpl_Value_Limpl_Value l p = some (idxI q l) := by
  unfold m_slices_IndexFunc_LLimpl_Value_Limpl_Value
  exact scanI (q := q) (g := fun i => some i) l (fun n k => m_slices_IndexFunc_LLimpl_Value_Limpl_Value_l1 p n l (l.length : Int) k) (fun n k x hx => by
    have := lt_of_at hx; rw [m_slices_IndexFunc_LLimpl_Value_Limpl_Value_l1, dlt this, cond_true]; simp only [at_of hx, Option.bind_some, hp x (List.mem_of_getElem? hx), ck1 (show k < 1000000000000 by omega)]) (fun n => by rw [m_slices_IndexFunc_LLimpl_Value_Limpl_Value_l1, dnlt]; rfl) _ fuel0
theorem L_slices_ContainsFunc_LLimpl_Value_Limpl_Value {l : List (List S_impl_Value)} {p : (List S_impl_Value) → Option Bool} {q : (List S_impl_Value) → Bool} (hl : l.length ≤ 900000000) (hp : ∀ v ∈ l, p v = some (q v)) : m_slices_ContainsFunc_LLimpl_Value_Limpl_Value l p = some (l.any q) := by
  unfold m_slices_ContainsFunc_LLimpl_Value_Limpl_Value; rw [L_slices_IndexFunc_LLimpl_Value_Limpl_Value hl hp, Option.bind_some, (idxI_ge q l).2.2]
theorem L_slices_Clone_Lint_int {l : List Int} (hl : l.length ≤ 900000000) : m_slices_Clone_Lint_int l = some l := by
  unfold m_slices_Clone_Lint_int; cases l with
  | nil => rfl
  | cons x l =>
    simp only [nilM, cond_false]; rw [app_of (by simp at hl ⊢; omega), Option.bind_some, List.nil_append]
theorem L_slices_IndexFunc_Lint_int {l : List Int} {p : Int → Option Bool} {q : Int → Bool} (hl : l.length ≤ 900000000) (hp : ∀ v ∈ l, p v = some (q v)) : m_slices_IndexFunc_Lint_int l p = some (idxI q l) := by
  unfold m_slices_IndexFunc_Lint_int
  exact scanI (q := q) (g := fun i => some i) l (fun n k => m_slices_IndexFunc_Lint_int_l1 p n l (l.length : Int) k) (fun n k x hx => by
    have := lt_of_at hx; rw [m_slices_IndexFunc_Lint_int_l1, dlt this, cond_true]; simp only [at_of hx, Option.bind_some, hp x (List.mem_of_getElem? hx), ck1 (show k < 1000000000000 by omega)]) (fun n => by rw [m_slices_IndexFunc_Lint_int_l1, dnlt]; rfl) _ fuel0
theorem L_slices_DeleteFunc_Lint_int {l : List Int} {p : Int → Option Bool} {q : Int → Bool} (hl : l.length ≤ 900000000) (hp : ∀ v ∈ l, p v = some (q v)) : m_slices_DeleteFunc_Lint_int l p = some (l.filter fun x => !q x) := by
  unfold m_slices_DeleteFunc_Lint_int; rw [L_slices_IndexFunc_Lint_int hl hp, Option.bind_some]; obtain ⟨h1, h2⟩ := idxI_spec (q := q) l; have hg := idxI_ge q l
  by_cases hn : idxI q l = -1
  · rw [hn, h1 hn]; rfl
  · obtain ⟨k, hk⟩ : ∃ k : Nat, idxI q l = k := ⟨(idxI q l).toNat, by omega⟩
    obtain ⟨a, b, x, c, d⟩ := h2 k hk; rw [hk, show ((k : Int) == -1) = false by rw [beq_eq_false_iff_ne]; omega, cond_false, ck1 (by omega), Option.bind_some, filter_take a b c d]
    obtain ⟨o', g1, g2, g3⟩ := delLoop (q := q) (F := fun w o => m_slices_DeleteFunc_Lint_int_j2 p (w : Int) o) (fun n w k o => m_slices_DeleteFunc_Lint_int_l1 p n (w : Int) (k : Int) o) l
      (fun n w k o y ho hw hy hly => by
        show m_slices_DeleteFunc_Lint_int_l1 p (n + 1) _ _ _ = _; have hlt := lt_of_at hy; rw [m_slices_DeleteFunc_Lint_int_l1, dlt hlt, cond_true, at_of hy, Option.bind_some, Option.bind_some, hp y (List.mem_of_getElem? hly), Option.bind_some]; unfold m_slices_DeleteFunc_Lint_int_j1; cases q y with
        | true => rw [Bool.not_true, cond_false, cond_false, ck1 (by omega), Option.bind_some]; rfl
        | false =>
          rw [Bool.not_false, cond_true, cond_true, at_of (List.getElem?_eq_getElem (show w < o.length by omega)), Option.bind_some, Option.bind_some, ltE, ck1 (by omega), Option.bind_some, ck1 (by omega), Option.bind_some, Int.toNat_natCast]; rfl)
      (fun n w o ho => by
        show m_slices_DeleteFunc_Lint_int_l1 p (n + 1) _ _ _ = _; rw [m_slices_DeleteFunc_Lint_int_l1, ho, dnlt, cond_false])
      (l.length - (k + 1)) (k + 1) k ((((l.length : Int) - ((k : Int) + 1)).toNat + 1)) l (by omega) (by omega) (by omega) rfl (fun _ _ => rfl)
    have g3' : m_slices_DeleteFunc_Lint_int_l1 p ((((l.length : Int) - ((k : Int) + 1)).toNat + 1)) (k : Int) ((k : Int) + 1) l = _ := g3; rw [g3']
    have hw : k + ((l.drop (k + 1)).filter fun x => !q x).length ≤ l.length := by
      have h3 : ((l.drop (k + 1)).filter fun x => !q x).length ≤ (l.drop (k + 1)).length := List.length_filter_le _ _; rw [List.length_drop] at h3; omega
    generalize k + ((l.drop (k + 1)).filter fun x => !q x).length = w at g2 hw ⊢; show m_slices_DeleteFunc_Lint_int_j2 p (w : Int) o' = _; unfold m_slices_DeleteFunc_Lint_int_j2; rw [rng_of (by omega), Option.bind_some, rng_of (by omega), Option.bind_some, Int.toNat_natCast, leN_of (by simp; omega), Option.bind_some]; rw [Nat.zero_add, List.take_take, Nat.min_self, g2]
theorem L_slices_IndexFunc_Limpl_Table_impl_Table {l : List S_impl_Table} {p : S_impl_Table → Option Bool} {q : S_impl_Table → Bool} (hl : l.length ≤ 900000000) (hp : ∀ v ∈ l, p v = some (q v)) : m_slices_IndexFunc_Limpl_Table_impl_Table l p = some (idxI q l) := by
  unfold m_slices_IndexFunc_Limpl_Table_impl_Table
  exact scanI (q := q) (g := fun i => some i) l (fun n k => m_slices_IndexFunc_Limpl_Table_impl_Table_l1 p n l (l.length : Int) k) (fun n k x hx => by
    have := lt_of_at hx; rw [m_slices_IndexFunc_Limpl_Table_impl_Table_l1, dlt this, cond_true]; simp only [at_of hx, Option.bind_some, hp x (List.mem_of_getElem? hx), ck1 (show k < 1000000000000 by omega)]) (fun n => by rw [m_slices_IndexFunc_Limpl_Table_impl_Table_l1, dnlt]; rfl) _ fuel0
theorem L_slices_ContainsFunc_Limpl_Table_impl_Table {l : List S_impl_Table} {p : S_impl_Table → Option Bool} {q : S_impl_Table → Bool} (hl : l.length ≤ 900000000) (hp : ∀ v ∈ l, p v = some (q v)) : m_slices_ContainsFunc_Limpl_Table_impl_Table l p = some (l.any q) := by
  unfold m_slices_ContainsFunc_Limpl_Table_impl_Table; rw [L_slices_IndexFunc_Limpl_Table_impl_Table hl hp, Option.bind_some, (idxI_ge q l).2.2]
theorem L_slices_ContainsFunc_Lint_int {l : List Int} {p : Int → Option Bool} {q : Int → Bool} (hl : l.length ≤ 900000000) (hp : ∀ v ∈ l, p v = some (q v)) : m_slices_ContainsFunc_Lint_int l p = some (l.any q) := by
  unfold m_slices_ContainsFunc_Lint_int; rw [L_slices_IndexFunc_Lint_int hl hp, Option.bind_some, (idxI_ge q l).2.2]
abbrev Col := S_impl_Column
def colOk (c : Col) : Bool := decide (1 ≤ c.Kind) && decide (c.Kind ≤ 3)
def colsOk (cs : List Col) : Bool := decide (cs.length ≤ 4) && cs.all colOk
def vFit (v : V) (c : Col) : Bool := decide (v.Kind = c.Kind) || (decide (v.Kind = 0) && c.Empty)
def rowFits (cs : List Col) (r : Row) : Bool := colsOk cs && (rowOk r && (decide (r.length = cs.length) && all2 vFit r cs))
def rowsOk (cs : List Col) (rs : Rows) : Bool := colsOk cs && rs.all (rowFits cs)
theorem lenD (n m : Nat) : decide ((n : Int) ≤ (m : Int)) = decide (n ≤ m) := by rw [decide_eq_decide]; omega
theorem E_impl_ColumnsOk {cs : List Col} (h : cs.length ≤ 900000000) : m_impl_ColumnsOk cs = some (colsOk cs) := by
  unfold m_impl_ColumnsOk m_impl_ColumnsOk_j1 colsOk
  rw [L_slices_ContainsFunc_Limpl_Column_impl_Column (q := fun c => !(colOk c)) h (fun c _ => by unfold m_impl_ColumnsOk_1; rw [E_between]; rfl), Option.bind_some,
    show (4 : Int) = ((4 : Nat) : Int) from rfl, lenD, List.all_eq_not_any_not]
  cases decide (cs.length ≤ 4) <;> rfl
theorem E_impl_RowFits {cs : List Col} {r : Row} (h : cs.length ≤ 900000000) (hr : rSm r) : m_impl_RowFits cs r = some (rowFits cs r) := by
  unfold m_impl_RowFits rowFits; rw [E_impl_ColumnsOk h, Option.bind_some]; cases colsOk cs
  · rfl
  rw [Bool.not_true, cond_false, E_impl_RowOk hr, Option.bind_some]; cases rowOk r
  · rfl
  rw [Bool.not_true, cond_false]; unfold m_impl_RowFits_j1; rw [neN]
  by_cases hl : r.length = cs.length
  · rw [decide_eq_true hl, Bool.not_true, cond_false]
    simp only [Bool.true_and]
    exact scan2 (q := vFit) r cs hl (fun n k => m_impl_RowFits_l1 n cs r (r.length : Int) k) (fun n k x y hx hy => by
      have := lt_of_at hx; have hrl := hr.1; rw [m_impl_RowFits_l1, dlt this, cond_true]; simp only [at_of hx, at_of hy, Option.bind_some, Go.Lift.lt]; unfold m_impl_RowFits_j2; rw [ck1 (show k < 1000000000000 by omega), Option.bind_some]; unfold vFit; rw [neB, neB]; cases decide (x.Kind = y.Kind) <;> cases decide (x.Kind = 0) <;> cases y.Empty <;> rfl) (fun n => by rw [m_impl_RowFits_l1, dnlt]; rfl) _ fuel0
  · rw [decide_eq_false hl]; rfl
theorem E_impl_RowsOk {cs : List Col} {rs : Rows} (h : cs.length ≤ 900000000) (hr : rsSm rs) : m_impl_RowsOk cs rs = some (rowsOk cs rs) := by
  unfold m_impl_RowsOk m_impl_RowsOk_j1 rowsOk; obtain ⟨h1, h2⟩ := hr; rw [E_impl_ColumnsOk h, Option.bind_some, L_slices_ContainsFunc_LLimpl_Value_Limpl_Value (q := fun r => !(rowFits cs r)) (by omega) (fun r hr => by unfold m_impl_RowsOk_1; rw [E_impl_RowFits h (h2 r hr)]; rfl), Option.bind_some, List.all_eq_not_any_not]; cases colsOk cs <;> rfl
def v0 : V := ⟨0, 0, ⟨#[]⟩⟩
def total (left : List Rows) : Nat := left.flatten.length
def onceR (rs : Rows) : Rows := rs.foldl (fun out r => if r ∈ out then out else out ++ [r]) []
theorem E_rowsHas {out : Rows} {r : Row} (h : rsSm out) : m_impl_rowsHas out r = some (decide (r ∈ out)) := by
  unfold m_impl_rowsHas; rw [E_impl_RowMany (by have := h.1; omega) (fun x hx => by have := (h.2 x hx).1; omega), Option.bind_some, rowMany_count]
  congr 1
  rw [decide_eq_decide]; have : 0 < out.count r ↔ r ∈ out := List.count_pos_iff; rw [← this]; omega
theorem E_impl_RowsOnce {rs : Rows} (h : rsSm rs) : m_impl_RowsOnce rs = some (onceR rs) := by
  obtain ⟨h1, h2⟩ := h; unfold m_impl_RowsOnce
  have hh := scanF (f := fun (out : Rows) r => if r ∈ out then out else out ++ [r]) (J := fun s => m_impl_RowsOnce_j2 s) (fun k s => s.length ≤ k ∧ ∀ x ∈ s, rSm x) rs (fun n k s => m_impl_RowsOnce_l1 n rs (rs.length : Int) k s) (fun n k x s hx hI => by
    have hlt := lt_of_at hx; obtain ⟨hI1, hI2⟩ := hI; have hxs := h2 x (List.mem_of_getElem? hx); rw [m_impl_RowsOnce_l1, dlt hlt, cond_true, at_of hx, Option.bind_some, E_rowsHas ⟨by omega, hI2⟩, Option.bind_some]; unfold m_impl_RowsOnce_j1
    by_cases hm : x ∈ s
    · rw [decide_eq_true hm, Bool.not_true, cond_false, ck1 (by omega), Option.bind_some, if_pos hm]
      exact ⟨rfl, by omega, hI2⟩
    · rw [decide_eq_false hm, Bool.not_false, cond_true, app_of (by simp; omega), Option.bind_some, ck1 (by omega), Option.bind_some, if_neg hm]
      refine ⟨rfl, by simp; omega, fun y hy => ?_⟩; rcases List.mem_append.1 hy with hy | hy
      · exact hI2 y hy
      · rw [List.mem_singleton.1 hy]; exact hxs) (fun n s _ => by rw [m_impl_RowsOnce_l1, dnlt, cond_false]) _ fuel0 [] ⟨by simp, by simp⟩
  rw [hh.1]; unfold m_impl_RowsOnce_j2; rw [E_rowsCopy (by have := hh.2.1; omega) (fun r hr => by have := (hh.2.2 r hr).1; omega)]; rfl
abbrev Pt := S_impl_Part
def tells (cs : List Col) (p : Pt) : Bool :=
  if p.Kind = 1 then decide (p.N = 0) && (vOk p.V && !decide (p.V.Kind = 0))
  else if p.Kind = 2 then (decide (0 ≤ p.N) && decide (p.N ≤ (cs.length : Int) - 1)) && decide (p.V = v0)
  else if p.Kind = 4 then (decide (1 ≤ p.N) && decide (p.N ≤ 4)) && decide (p.V = v0)
  else if p.Kind = 3 ∨ p.Kind = 5 ∨ p.Kind = 6 ∨ p.Kind = 7 ∨ p.Kind = 8 then decide (p.N = 0) && decide (p.V = v0)
  else false
def takesN (p : Pt) : Nat := if p.Kind = 3 ∨ p.Kind = 4 ∨ p.Kind = 5 ∨ p.Kind = 6 then 2 else if p.Kind = 7 ∨ p.Kind = 8 then 1 else 0
def kindOf (cs : List Col) (p : Pt) (ins : List Int) : Int × Bool :=
  if p.Kind = 1 then (p.V.Kind, true)
  else if p.Kind = 2 then ((cs.getD p.N.toNat ⟨0, false⟩).Kind, true)
  else if p.Kind = 3 then (1, ins.all fun k => decide (k = 1))
  else if p.Kind = 4 then (3, decide (ins.getD 0 0 = ins.getD 1 0))
  else if p.Kind = 8 then (3, true)
  else (3, ins.all fun k => decide (k = 3))
def kStep (cs : List Col) (st : List Int) (p : Pt) : Option (List Int) :=
  if tells cs p = true ∧ takesN p ≤ st.length ∧ (kindOf cs p (st.drop (st.length - takesN p))).2 = true then some (st.take (st.length - takesN p) ++ [(kindOf cs p (st.drop (st.length - takesN p))).1]) else none
def kGo (cs : List Col) : List Pt → List Int → Option (List Int)
  | [], st => some st
  | p :: ps, st => (kStep cs st p).bind (kGo cs ps)
def fin1 : Option (List Int) → Int
  | some [k] => k
  | _ => -1
def exprKind (cs : List Col) (e : List Pt) : Int := if colsOk cs = true ∧ e.length ≤ 12 then fin1 (kGo cs e []) else -1
theorem beqE {a b : Int} (h : a = b) : (a == b) = true := by simp [h]
theorem bneF {a b : Int} (h : a = b) : (a != b) = false := by simp [h]
theorem at0' {α : Type} {l : List α} {x : α} (h : l[0]? = some x) : at? l 0 = some x := at_of (k := 0) h
theorem at1' {α : Type} {l : List α} {x : α} (h : l[1]? = some x) : at? l 1 = some x := at_of (k := 1) h
theorem ltE' {α β : Type} (x : α) (f : α → β) : lt x f = f x := rfl
theorem E_takes (p : Pt) : m_impl_Part_takes p = some (takesN p : Int) := by
  unfold m_impl_Part_takes m_impl_Part_takes_j1 m_impl_Part_takes_j2 takesN
  by_cases h3 : p.Kind = 3
  · rw [beqE h3, cond_true, cond_true, if_pos (.inl h3)]; rfl
  · by_cases h4 : p.Kind = 4
    · rw [beqF h3, cond_false, beqE h4, cond_true, cond_true, if_pos (.inr (.inl h4))]; rfl
    · by_cases h5 : p.Kind = 5
      · rw [beqF h3, cond_false, beqF h4, cond_false, beqE h5, cond_true, cond_true, if_pos (.inr (.inr (.inl h5)))]; rfl
      · by_cases h6 : p.Kind = 6
        · rw [beqF h3, cond_false, beqF h4, cond_false, beqF h5, cond_false, beqE h6, cond_true, if_pos (.inr (.inr (.inr h6)))]; rfl
        · rw [beqF h3, cond_false, beqF h4, cond_false, beqF h5, cond_false, beqF h6, cond_false, if_neg (by simp [h3, h4, h5, h6])]
          by_cases h7 : p.Kind = 7
          · rw [beqE h7, cond_true, cond_true, if_pos (.inl h7)]; rfl
          · by_cases h8 : p.Kind = 8
            · rw [beqF h7, cond_false, beqE h8, cond_true, if_pos (.inr h8)]; rfl
            · rw [beqF h7, cond_false, beqF h8, cond_false, if_neg (by simp [h7, h8])]; rfl
theorem bif_f {b : Bool} {x : Bool} : (bif b then some x else some false) = some (b && x) := by cases b <;> rfl
theorem beqD {a b : Int} : (a == b) = decide (a = b) := by by_cases h : a = b <;> simp [h]
theorem E_tells {cs : List Col} {p : Pt} (hc : cs.length ≤ 900000000) (hv : p.V.S.size ≤ 900000000) : m_impl_Part_tells p cs = some (tells cs p) := by
  unfold m_impl_Part_tells m_impl_Part_tells_j1 m_impl_Part_tells_j2 m_impl_Part_tells_j3 m_impl_Part_tells_j4 m_impl_Part_tells_j5 tells
  by_cases h1 : p.Kind = 1
  · rw [beqE h1, cond_true, if_pos h1, E_Value_ok hv, Option.bind_some, bif_f, bif_f, beqD]
    rw [show (p.V.Kind != 0) = !decide (p.V.Kind = 0) by by_cases h : p.V.Kind = 0 <;> simp [h]]
  · rw [beqF h1, cond_false, if_neg h1]
    by_cases h2 : p.Kind = 2
    · rw [beqE h2, cond_true, if_pos h2, ckI_of (by omega) (by omega), Option.bind_some, E_between, Option.bind_some, bif_f]; rfl
    · rw [beqF h2, cond_false, if_neg h2]
      by_cases h4 : p.Kind = 4
      · rw [beqE h4, cond_true, if_pos h4, E_between, Option.bind_some, bif_f]; rfl
      · rw [beqF h4, cond_false, if_neg h4]
        have fin : ∀ b : Bool, (bif b then (bif p.N == 0 then some (decide (p.V = ⟨0, 0, ⟨#[]⟩⟩)) else some false) else some false) = some (b && (decide (p.N = 0) && decide (p.V = v0))) := fun b => by rw [bif_f, bif_f, beqD]; rfl
        by_cases h3 : p.Kind = 3
        · rw [beqE h3, cond_true, fin, if_pos (.inl h3), Bool.true_and]
        · by_cases h5 : p.Kind = 5
          · rw [beqF h3, cond_false, beqE h5, cond_true, fin, if_pos (.inr (.inl h5)), Bool.true_and]
          · by_cases h6 : p.Kind = 6
            · rw [beqF h3, cond_false, beqF h5, cond_false, beqE h6, cond_true, fin, if_pos (.inr (.inr (.inl h6))), Bool.true_and]
            · by_cases h7 : p.Kind = 7
              · rw [beqF h3, cond_false, beqF h5, cond_false, beqF h6, cond_false, beqE h7, cond_true, fin, if_pos (.inr (.inr (.inr (.inl h7)))), Bool.true_and]
              · rw [beqF h3, cond_false, beqF h5, cond_false, beqF h6, cond_false, beqF h7, cond_false, fin]
                by_cases h8 : p.Kind = 8
                · rw [beqE h8, if_pos (.inr (.inr (.inr (.inr h8)))), Bool.true_and]
                · rw [beqF h8, if_neg (by simp [h3, h5, h6, h7, h8]), Bool.false_and]
theorem E_all {n : Int} {ins : List Int} (h : ins.length ≤ 900000000) : m_impl_Part_kind_1 n ins = some (ins.all fun k => decide (k = n)) := by
  unfold m_impl_Part_kind_1
  rw [L_slices_ContainsFunc_Lint_int (q := fun k => !decide (k = n)) h (fun k _ => by
    unfold m_impl_Part_kind_1_1
    by_cases e : k = n <;> simp [e]), Option.bind_some]
  congr 1
  induction ins with
  | nil => rfl
  | cons a l ih => simp only [List.any_cons, List.all_cons, Bool.not_or, Bool.not_not]; rw [← ih (by simp at h; omega)]
theorem tells_2 {cs : List Col} {p : Pt} (h : tells cs p = true) (h2 : p.Kind = 2) : 0 ≤ p.N ∧ p.N ≤ (cs.length : Int) - 1 := by
  unfold tells at h; rw [if_neg (by omega), if_pos h2] at h; simp at h; exact ⟨h.1.1, by omega⟩
theorem takes_le (p : Pt) : takesN p ≤ 2 := by
  unfold takesN
  split
  · exact Nat.le_refl _
  · split
    · exact Nat.le_succ _
    · exact Nat.zero_le _
theorem E_kind {cs : List Col} {p : Pt} {ins : List Int} (ht : tells cs p = true) (hl : ins.length = takesN p) : m_impl_Part_kind p cs ins = some (kindOf cs p ins) := by
  unfold m_impl_Part_kind kindOf; have hs : ins.length ≤ 900000000 := by have := takes_le p; omega
  by_cases h1 : p.Kind = 1
  · rw [beqE h1, cond_true, if_pos h1]
  · rw [beqF h1, cond_false, if_neg h1]
    by_cases h2 : p.Kind = 2
    · obtain ⟨a, b⟩ := tells_2 ht h2
      have hn : p.N.toNat < cs.length := by omega
      have hx : cs[p.N.toNat]? = some cs[p.N.toNat] := List.getElem?_eq_getElem hn
      have hat : at? cs p.N = some cs[p.N.toNat] := by
        have := at_of hx
        rwa [Int.toNat_of_nonneg a] at this
      rw [beqE h2, cond_true, if_pos h2, hat, Option.bind_some, List.getD_eq_getElem?_getD, hx]; rfl
    · rw [beqF h2, cond_false, if_neg h2]
      by_cases h3 : p.Kind = 3
      · rw [beqE h3, cond_true, if_pos h3, E_all hs, Option.bind_some]
      · rw [beqF h3, cond_false, if_neg h3]
        by_cases h4 : p.Kind = 4
        · have hl2 : ins.length = 2 := by rw [hl]; unfold takesN; rw [if_pos (.inr (.inl h4))]
          match ins, hl2 with
          | [a, b], _ =>
            rw [beqE h4, cond_true, if_pos h4, at0' (show [a, b][0]? = some a from rfl), Option.bind_some, at1' (show [a, b][1]? = some b from rfl), Option.bind_some, beqD]; rfl
        · rw [beqF h4, cond_false, if_neg h4]
          by_cases h8 : p.Kind = 8
          · rw [beqE h8, cond_true, if_pos h8]
          · rw [beqF h8, cond_false, if_neg h8, E_all hs, Option.bind_some]
theorem kGo_c (cs : List Col) (p : Pt) (ps : List Pt) (st : List Int) : kGo cs (p :: ps) st = (kStep cs st p).bind (kGo cs ps) := rfl
theorem impl_k_loop {cs : List Col} {e : List Pt} (hc : cs.length ≤ 900000000) (he : e.length ≤ 1000) (hv : ∀ p ∈ e, p.V.S.size ≤ 900000000) : ∀ (n k f : Nat) (st : List Int), k + n = e.length → st.length ≤ k → n < f → m_impl_ExprKind_l1 f cs e (e.length : Int) (k : Int) st = some (fin1 (kGo cs (e.drop k) st)) := by
  intro n
  induction n with
  | zero =>
    intro k f st hk hs hf; obtain ⟨f, rfl⟩ : ∃ q, f = q + 1 := ⟨f - 1, by omega⟩; obtain rfl : k = e.length := by omega
    rw [m_impl_ExprKind_l1, dnlt, cond_false, List.drop_length]; unfold m_impl_ExprKind_j3; show _ = some (fin1 (some st))
    match st with
    | [] => rfl
    | [a] => rfl
    | a :: b :: r => rw [beqF' (by simp only [List.length_cons]; omega), cond_true]; rfl
  | succ n ih =>
    intro k f st hk hs hf; obtain ⟨f, rfl⟩ : ∃ q, f = q + 1 := ⟨f - 1, by omega⟩; have hx : e[k]? = some e[k] := List.getElem?_eq_getElem (by omega); have hd : e.drop k = e[k] :: e.drop (k + 1) := List.drop_eq_getElem_cons (by omega); generalize hp : e[k] = p at *; have hvp := hv p (List.mem_of_getElem? hx); have htk := takes_le p; rw [m_impl_ExprKind_l1, dlt (by omega), cond_true, at_of hx, Option.bind_some, ltE', E_takes, Option.bind_some, E_tells hc hvp, Option.bind_some, hd, kGo_c]; have stop : ∀ (K : List Col → List Pt → Int → Int → List Int → Option Int) (t : Int), m_impl_ExprKind_j2 K cs t e (e.length : Int) (k : Int) true p st = some (-1) := fun K t => by unfold m_impl_ExprKind_j2; rw [cond_true]
    cases ht : tells cs p with
    | false =>
      rw [Bool.not_false, cond_true, stop]; unfold kStep; rw [if_neg (fun h => by rw [ht] at h; cases h.1)]; rfl
    | true =>
      rw [Bool.not_true, cond_false]
      by_cases hle : takesN p ≤ st.length
      · rw [decide_eq_false (by omega)]
        unfold m_impl_ExprKind_j2 rng? leN appT?; have e0 : (st.length : Int) - (takesN p : Int) = ((st.length - takesN p : Nat) : Int) := by omega
        have hdl : (st.drop (0 + (st.length - takesN p))).take (st.length - (st.length - takesN p)) = st.drop (st.length - takesN p) := by
          rw [Nat.zero_add, List.take_of_length_le (by rw [List.length_drop]; omega)]
        have hin : (st.drop (st.length - takesN p)).length = takesN p := by rw [List.length_drop]; omega
        rw [cond_false, e0, ckI_of (by omega) (by omega), Option.bind_some, Int.toNat_natCast, if_pos (by omega), Option.bind_some, if_pos (by omega), Option.bind_some, hdl, E_kind ht hin, Option.bind_some]; unfold kStep; cases hk2 : (kindOf cs p (st.drop (st.length - takesN p))).2 with
        | false => rw [if_neg (fun h => by cases h.2.2)]; rfl
        | true =>
          rw [if_pos ⟨ht, hle, rfl⟩, Bool.not_true, cond_false, Option.bind_some, Option.bind_some, Int.toNat_natCast, if_pos (by omega), Option.bind_some, if_pos (by simp; omega), Option.bind_some, ckI_of (by omega) (by omega), Option.bind_some]; exact ih (k + 1) f _ (by omega) (by simp; omega) (by omega)
      · rw [decide_eq_true (by omega), stop]
        unfold kStep; rw [if_neg (fun h => hle h.2.1)]; rfl
theorem E_impl_ExprKind {cs : List Col} {e : List Pt} (hc : cs.length ≤ 900000000) (he : e.length ≤ 900000000) (hv : ∀ p ∈ e, p.V.S.size ≤ 900000000) : m_impl_ExprKind cs e = some (exprKind cs e) := by
  unfold m_impl_ExprKind exprKind m_impl_ExprKind_j1; rw [E_impl_ColumnsOk hc, Option.bind_some]; cases hk : colsOk cs with
  | false => rw [Bool.not_false, cond_true, cond_true, if_neg (fun h => by cases h.1)]
  | true =>
    rw [Bool.not_true, cond_false]
    by_cases hl : e.length ≤ 12
    · rw [decide_eq_false (by omega), cond_false, if_pos ⟨rfl, hl⟩]
      have := impl_k_loop hc (by omega) hv e.length 0 _ [] (by omega) (by simp) fuel0; rw [List.drop_zero] at this; exact this
    · rw [decide_eq_true (by omega), cond_true, if_neg (fun h => hl h.2)]
def vOf (t : Int) : V := if t = 0 ∨ t = 1 then ⟨3, t, ⟨#[]⟩⟩ else v0
def trOf (v : V) : Int := if vOk v then (if v.Kind = 0 then 2 else if v.Kind = 3 then v.N else -1) else -1
theorem E_impl_ValueOf (t : Int) : m_impl_ValueOf t = some (vOf t) := by
  unfold m_impl_ValueOf vOf; rw [E_between, Option.bind_some]
  by_cases h : t = 0 ∨ t = 1
  · rw [if_pos h, show (decide (0 ≤ t) && decide (t ≤ 1)) = true by rcases h with h | h <;> subst h <;> rfl, Bool.not_true, cond_false]; rfl
  · have : (decide (0 ≤ t) && decide (t ≤ 1)) = false := by rw [Bool.and_eq_false_iff, decide_eq_false_iff_not, decide_eq_false_iff_not]; omega
    rw [if_neg h, this, Bool.not_false, cond_true]; rfl
theorem E_impl_TruthOf {v : V} (h : v.S.size ≤ 900000000) : m_impl_TruthOf v = some (trOf v) := by
  unfold m_impl_TruthOf trOf; rw [E_Value_ok h, Option.bind_some]; cases vOk v with
  | false => rfl
  | true =>
    rw [Bool.not_true, cond_false, if_pos rfl]
    by_cases h0 : v.Kind = 0
    · rw [beqE h0, cond_true, if_pos h0]
    · rw [beqF h0, cond_false, if_neg h0]
      by_cases h3 : v.Kind = 3
      · rw [beqE h3, cond_true, if_pos h3]
      · rw [beqF h3, cond_false, if_neg h3]
def tOk (a : Int) : Bool := decide (0 ≤ a) && decide (a ≤ 2)
def andT (a b : Int) : Int := if tOk a = true ∧ tOk b = true then (if a = 0 ∨ b = 0 then 0 else if a = 2 ∨ b = 2 then 2 else 1) else -1
def orT (a b : Int) : Int := if tOk a = true ∧ tOk b = true then (if a = 1 ∨ b = 1 then 1 else if a = 2 ∨ b = 2 then 2 else 0) else -1
def notT (a : Int) : Int := if a = 0 then 1 else if a = 1 then 0 else if a = 2 then 2 else -1
theorem tOk_3 {a : Int} (h : tOk a = true) : a = 0 ∨ a = 1 ∨ a = 2 := by unfold tOk at h; simp at h; omega
theorem E_impl_TruthOk (a : Int) : m_impl_TruthOk a = some (tOk a) := by unfold m_impl_TruthOk; rw [E_between, Option.bind_some]; rfl
theorem fold_out {a b c : Int} (h : ¬ (tOk a = true ∧ tOk b = true)) : m_impl_fold a b c = some (-1) := by
  unfold m_impl_fold m_impl_fold_j1; rw [E_impl_TruthOk, Option.bind_some, E_impl_TruthOk, Option.bind_some]; cases ha : tOk a <;> cases hb : tOk b <;> first | rfl | exact absurd ⟨ha, hb⟩ h
theorem E_impl_AndOf (a b : Int) : m_impl_AndOf a b = some (andT a b) := by
  unfold m_impl_AndOf andT
  by_cases h : tOk a = true ∧ tOk b = true
  · rw [if_pos h]
    rcases tOk_3 h.1 with e | e | e <;> rcases tOk_3 h.2 with e2 | e2 | e2 <;> subst e <;> subst e2 <;> rfl
  · rw [if_neg h, fold_out h]; rfl
theorem E_impl_OrOf (a b : Int) : m_impl_OrOf a b = some (orT a b) := by
  unfold m_impl_OrOf orT
  by_cases h : tOk a = true ∧ tOk b = true
  · rw [if_pos h]
    rcases tOk_3 h.1 with e | e | e <;> rcases tOk_3 h.2 with e2 | e2 | e2 <;> subst e <;> subst e2 <;> rfl
  · rw [if_neg h, fold_out h]; rfl
theorem E_impl_NotOf (a : Int) : m_impl_NotOf a = some (notT a) := by
  unfold m_impl_NotOf notT
  by_cases h0 : a = 0
  · rw [beqE h0, cond_true, if_pos h0]
  · rw [beqF h0, cond_false, if_neg h0]
    by_cases h1 : a = 1
    · rw [beqE h1, cond_true, if_pos h1]
    · rw [beqF h1, cond_false, if_neg h1]
      by_cases h2 : a = 2
      · rw [beqE h2, cond_true, if_pos h2]
      · rw [beqF h2, cond_false, if_neg h2]
def cmpR (k o : Int) : Bool := if k = 1 then decide (o = 0) else if k = 2 then !decide (o = 0) else if k = 3 then decide (o < 0) else decide (o ≤ 0)
def cmpT (k : Int) (a b : V) : Int := if ((decide (1 ≤ k) && decide (k ≤ 4)) && (vOk a && vOk b)) = true then (if a.Kind = 0 ∨ b.Kind = 0 then 2 else if a.Kind = b.Kind then (if cmpR k (vOrd a b) = true then 1 else 0) else -1) else -1
theorem E_impl_Compare {k : Int} {a b : V} (ha : a.S.size ≤ 900000000) (hb : b.S.size ≤ 900000000) : m_impl_Compare k a b = some (cmpT k a b) := by
  unfold m_impl_Compare cmpT; have bad : m_impl_Compare_j1 k a b true = some (-1) := by unfold m_impl_Compare_j1; rfl
  rw [E_between, Option.bind_some, E_Value_ok ha, Option.bind_some, E_Value_ok hb, Option.bind_some]; cases hr : (decide (1 ≤ k) && decide (k ≤ 4)) with
  | false => rw [Bool.not_false, cond_true, bad]; rfl
  | true =>
    rw [Bool.not_true, cond_false]; cases hva : vOk a with
    | false => rw [Bool.not_false, cond_true, bad]; rfl
    | true =>
      rw [Bool.not_true, cond_false]; cases hvb : vOk b with
      | false => rw [Bool.not_false, bad]; rfl
      | true =>
        rw [Bool.not_true, if_pos (show (true && (true && true)) = true from rfl)]; unfold m_impl_Compare_j1 m_impl_Compare_j2; rw [cond_false]
        by_cases h0 : a.Kind = 0
        · rw [beqE h0, cond_true, cond_true, if_pos (.inl h0)]
        · rw [beqF h0, cond_false]
          by_cases h1 : b.Kind = 0
          · rw [beqE h1, cond_true, if_pos (.inr h1)]
          · rw [beqF h1, cond_false, if_neg (fun h => h.elim h0 h1)]
            by_cases h2 : a.Kind = b.Kind
            · rw [if_pos h2, show (a.Kind != b.Kind) = false by simp [h2], cond_false, E_order, Option.bind_some]
              generalize vOrd a b = o; simp at hr; have hk : k = 1 ∨ k = 2 ∨ k = 3 ∨ k = 4 := by omega
              have e0 : (o == 0) = decide (o = 0) := beqD; have e1 : (o != 0) = !decide (o = 0) := by by_cases h : o = 0 <;> simp [h]
              rw [e0, e1]; unfold cmpR; rcases hk with e | e | e | e <;> subst e
              · cases h : decide (o = 0) <;> rfl
              · cases h : decide (o = 0) <;> rfl
              · cases h : decide (o < 0) <;> rfl
              · cases h : decide (o ≤ 0) <;> rfl
            · rw [if_neg h2, beqF' h2, cond_true]
def sumT (a b : V) : V := if (a.Kind = 0 ∨ b.Kind = 0) ∨ ¬ (-9999 ≤ a.N + b.N ∧ a.N + b.N ≤ 9999) then v0 else ⟨1, a.N + b.N, ⟨#[]⟩⟩
def valOf (row : Row) (p : Pt) (ins : List V) : V :=
  if p.Kind = 1 then p.V
  else if p.Kind = 2 then row.getD p.N.toNat v0
  else if p.Kind = 3 then sumT (ins.getD 0 v0) (ins.getD 1 v0)
  else if p.Kind = 4 then vOf (cmpT p.N (ins.getD 0 v0) (ins.getD 1 v0))
  else if p.Kind = 5 then vOf (andT (trOf (ins.getD 0 v0)) (trOf (ins.getD 1 v0)))
  else if p.Kind = 6 then vOf (orT (trOf (ins.getD 0 v0)) (trOf (ins.getD 1 v0)))
  else if p.Kind = 7 then vOf (notT (trOf (ins.getD 0 v0)))
  else vOf (if (ins.getD 0 v0).Kind = 0 then 1 else 0)
theorem vN {v : V} (h : vOk v = true) : (-9999 ≤ v.N ∧ v.N ≤ 9999) ∧ v.S.size ≤ 1000 := by
  unfold vOk at h
  by_cases h0 : v.Kind = 0
  · rw [if_pos h0] at h; have := of_decide_eq_true h; rw [this]; decide
  · by_cases h1 : v.Kind = 1
    · rw [if_neg h0, if_pos h1] at h; simp at h; rw [h.1]; exact ⟨⟨h.2.1, h.2.2⟩, by decide⟩
    · by_cases h2 : v.Kind = 2
      · rw [if_neg h0, if_neg h1, if_pos h2] at h; simp at h; exact ⟨by omega, by omega⟩
      · by_cases h3 : v.Kind = 3
        · rw [if_neg h0, if_neg h1, if_neg h2, if_pos h3] at h; simp at h; rw [h.1]; exact ⟨by omega, by decide⟩
        · rw [if_neg h0, if_neg h1, if_neg h2, if_neg h3] at h; cases h
theorem vOk_num (n : Int) : vOk ⟨1, n, ⟨#[]⟩⟩ = (decide (-9999 ≤ n) && decide (n ≤ 9999)) := by
  unfold vOk; rw [if_neg (show ¬ (1 : Int) = 0 by decide), if_pos rfl, decide_eq_true (show (⟨#[]⟩ : ByteArray) = ⟨#[]⟩ from rfl), Bool.true_and]
theorem two_of {ins : List V} (h : ins.length = 2) : ∃ a b, ins = [a, b] := by
  match ins, h with
  | [a, b], _ => exact ⟨a, b, rfl⟩
theorem one_of {ins : List V} (h : ins.length = 1) : ∃ a, ins = [a] := by
  match ins, h with
  | [a], _ => exact ⟨a, rfl⟩
theorem E_impl_Part_value {cs : List Col} {row : Row} {p : Pt} {ins : List V} (ht : tells cs p = true) (hr : cs.length = row.length) (hl : ins.length = takesN p) (hi : ∀ v ∈ ins, vOk v = true) : m_impl_Part_value p row ins = some (valOf row p ins) := by
  unfold m_impl_Part_value valOf
  by_cases h1 : p.Kind = 1
  · rw [beqE h1, cond_true, if_pos h1, ltE']
  · rw [beqF h1, cond_false, if_neg h1]
    by_cases h2 : p.Kind = 2
    · obtain ⟨a, b⟩ := tells_2 ht h2
      have hx : row[p.N.toNat]? = some row[p.N.toNat] := List.getElem?_eq_getElem (by omega)
      have hat : at? row p.N = some row[p.N.toNat] := by
        have := at_of hx
        rwa [Int.toNat_of_nonneg a] at this
      rw [beqE h2, cond_true, if_pos h2, hat, Option.bind_some, ltE', List.getD_eq_getElem?_getD, hx]; rfl
    · rw [beqF h2, cond_false, if_neg h2]
      have t2 : p.Kind = 3 ∨ p.Kind = 4 ∨ p.Kind = 5 ∨ p.Kind = 6 → ∃ a b, ins = [a, b] ∧ vOk a = true ∧ vOk b = true := fun h => by
        obtain ⟨a, b, rfl⟩ := two_of (ins := ins) (by rw [hl]; unfold takesN; rw [if_pos h]); exact ⟨a, b, rfl, hi a (by simp), hi b (by simp)⟩
      by_cases h3 : p.Kind = 3
      · obtain ⟨a, b, rfl, ha, hb⟩ := t2 (.inl h3)
        obtain ⟨⟨a1, a2⟩, _⟩ := vN ha; obtain ⟨⟨b1, b2⟩, _⟩ := vN hb; have e0 : at? [a, b] 0 = some a := rfl; have e1 : at? [a, b] 1 = some b := rfl; rw [beqE h3, cond_true, if_pos h3, e0, e1, Option.bind_some, Option.bind_some, ckI_of (by omega) (by omega), Option.bind_some, ltE', Option.bind_some]; unfold m_impl_Part_value_j1; show _ = some (sumT a b); unfold sumT
        by_cases ka : a.Kind = 0
        · rw [beqE ka, cond_true, cond_true, if_pos (.inl (.inl ka)), ltE']; rfl
        · rw [beqF ka, cond_false, Option.bind_some]
          by_cases kb : b.Kind = 0
          · rw [beqE kb, cond_true, cond_true, if_pos (.inl (.inr kb)), ltE']; rfl
          · rw [beqF kb, cond_false, E_Value_ok (v := ⟨1, a.N + b.N, ⟨#[]⟩⟩) (show (0 : Nat) ≤ 900000000 by decide), Option.bind_some, vOk_num]
            by_cases hn : -9999 ≤ a.N + b.N ∧ a.N + b.N ≤ 9999
            · rw [decide_eq_true hn.1, decide_eq_true hn.2, if_neg (fun h => h.elim (fun h => h.elim ka kb) (fun h => h hn))]; rfl
            · have : (decide (-9999 ≤ a.N + b.N) && decide (a.N + b.N ≤ 9999)) = false := by rw [Bool.and_eq_false_iff, decide_eq_false_iff_not, decide_eq_false_iff_not]; omega
              rw [this, if_pos (.inr hn)]; rfl
      · rw [beqF h3, cond_false, if_neg h3]
        by_cases h4 : p.Kind = 4
        · obtain ⟨a, b, rfl, ha, hb⟩ := t2 (.inr (.inl h4))
          have sa := (vN ha).2; have sb := (vN hb).2; have e0 : at? [a, b] 0 = some a := rfl; have e1 : at? [a, b] 1 = some b := rfl; rw [beqE h4, cond_true, if_pos h4, e0, e1, Option.bind_some, Option.bind_some, E_impl_Compare (by omega) (by omega), Option.bind_some, E_impl_ValueOf, Option.bind_some, ltE']; rfl
        · rw [beqF h4, cond_false, if_neg h4]
          by_cases h5 : p.Kind = 5
          · obtain ⟨a, b, rfl, ha, hb⟩ := t2 (.inr (.inr (.inl h5)))
            have sa := (vN ha).2; have sb := (vN hb).2; have e0 : at? [a, b] 0 = some a := rfl; have e1 : at? [a, b] 1 = some b := rfl; rw [beqE h5, cond_true, if_pos h5, e0, e1, Option.bind_some, E_impl_TruthOf (by omega), Option.bind_some, Option.bind_some, E_impl_TruthOf (by omega), Option.bind_some, E_impl_AndOf, Option.bind_some, E_impl_ValueOf, Option.bind_some, ltE']; rfl
          · rw [beqF h5, cond_false, if_neg h5]
            by_cases h6 : p.Kind = 6
            · obtain ⟨a, b, rfl, ha, hb⟩ := t2 (.inr (.inr (.inr h6)))
              have sa := (vN ha).2; have sb := (vN hb).2; have e0 : at? [a, b] 0 = some a := rfl; have e1 : at? [a, b] 1 = some b := rfl; rw [beqE h6, cond_true, if_pos h6, e0, e1, Option.bind_some, E_impl_TruthOf (by omega), Option.bind_some, Option.bind_some, E_impl_TruthOf (by omega), Option.bind_some, E_impl_OrOf, Option.bind_some, E_impl_ValueOf, Option.bind_some, ltE']; rfl
            · rw [beqF h6, cond_false, if_neg h6]
              have t1 : p.Kind = 7 ∨ p.Kind = 8 → ∃ a, ins = [a] ∧ vOk a = true := fun h => by
                obtain ⟨a, rfl⟩ := one_of (ins := ins) (by rw [hl]; unfold takesN; rw [if_neg (by omega), if_pos h]); exact ⟨a, rfl, hi a (by simp)⟩
              by_cases h7 : p.Kind = 7
              · obtain ⟨a, rfl, ha⟩ := t1 (.inl h7)
                have sa := (vN ha).2; have e0 : at? [a] 0 = some a := rfl; rw [beqE h7, cond_true, if_pos h7, e0, Option.bind_some, E_impl_TruthOf (by omega), Option.bind_some, E_impl_NotOf, Option.bind_some, E_impl_ValueOf, Option.bind_some, ltE']; rfl
              · have h8 : p.Kind = 8 := by
                  unfold tells at ht; rw [if_neg h1, if_neg h2, if_neg h4] at ht
                  split at ht
                  · omega
                  · cases ht
                obtain ⟨a, rfl, ha⟩ := t1 (.inr h8); have e0 : at? [a] 0 = some a := rfl
                have et : m_impl_truthIf (a.Kind == 0) = some (if a.Kind = 0 then 1 else 0) := by
                  unfold m_impl_truthIf
                  by_cases h : a.Kind = 0
                  · rw [beqE h, cond_true, if_pos h]
                  · rw [beqF h, cond_false, if_neg h]
                rw [beqF h7, cond_false, if_neg h7, e0, Option.bind_some, et, Option.bind_some, E_impl_ValueOf, Option.bind_some, ltE']; rfl
abbrev Tb := S_impl_Table
def tbOk (t : Tb) : Bool := colsOk t.Columns && (decide (t.Rows.length ≤ 6) && rowsOk t.Columns t.Rows)
def tbsOk (ts : List Tb) : Bool := decide (ts.length ≤ 3) && ts.all tbOk
def tbSm (t : Tb) : Prop := t.Columns.length ≤ 1100000 ∧ rsSm t.Rows
def tbsSm (ts : List Tb) : Prop := ts.length ≤ 1100000 ∧ ∀ t ∈ ts, tbSm t
def ptSm (e : List Pt) : Prop := e.length ≤ 1100000 ∧ ∀ p ∈ e, p.V.S.size ≤ 1100000
theorem E_TablesOk_1 {t : Tb} (h : tbSm t) : m_impl_TablesOk_1 t = some (!tbOk t) := by
  unfold m_impl_TablesOk_1 m_impl_TablesOk_1_j1 tbOk; rw [E_impl_ColumnsOk (by have := h.1; omega), Option.bind_some]; cases hc : colsOk t.Columns with
  | false => rfl
  | true =>
    rw [Bool.not_true, cond_false, Bool.true_and]
    by_cases hl : t.Rows.length ≤ 6
    · rw [decide_eq_false (by omega), cond_false, decide_eq_true hl, Bool.true_and, E_impl_RowsOk (by have := h.1; omega) h.2, Option.bind_some]
    · rw [decide_eq_true (by omega), cond_true, decide_eq_false hl]; rfl
theorem any_all {α : Type} {p : α → Bool} : ∀ {l : List α}, (l.any fun x => !p x) = !(l.all p)
  | [] => rfl
  | x :: l => by rw [List.any_cons, List.all_cons, any_all, Bool.not_and]
theorem E_impl_TablesOk {ts : List Tb} (h : tbsSm ts) : m_impl_TablesOk ts = some (tbsOk ts) := by
  unfold m_impl_TablesOk m_impl_TablesOk_j1 tbsOk
  by_cases hl : ts.length ≤ 3
  · rw [decide_eq_true (by omega), cond_true, decide_eq_true hl, Bool.true_and, L_slices_ContainsFunc_Limpl_Table_impl_Table (q := fun t => !tbOk t) (by have := h.1; omega) (fun t ht => E_TablesOk_1 (h.2 t ht)), Option.bind_some, any_all, Bool.not_not]
  · rw [decide_eq_false (by omega), cond_false, decide_eq_false hl]; rfl
theorem getD_of {α : Type} {l : List α} {k : Nat} {x d : α} (h : l[k]? = some x) : l.getD k d = x := by rw [List.getD_eq_getElem?_getD, h]; rfl
theorem at_z {α : Type} {l : List α} {i : Int} {x : α} (h0 : 0 ≤ i) (h : l[i.toNat]? = some x) : at? l i = some x := by
  have := at_of h
  rwa [Int.toNat_of_nonneg h0] at this
def inR (n : Nat) (k : Int) : Bool := decide (0 ≤ k) && decide (k ≤ (n : Int) - 1)
theorem inR_of {n : Nat} {k : Int} (h : inR n k = true) : 0 ≤ k ∧ k.toNat < n := by
  unfold inR at h; rw [Bool.and_eq_true, decide_eq_true_eq, decide_eq_true_eq] at h; omega
def vStep (row : Row) (st : List V) (p : Pt) : List V := st.take (st.length - takesN p) ++ [valOf row p (st.drop (st.length - takesN p))]
def exprVal (row : Row) (e : List Pt) : V := (e.foldl (vStep row) []).getD 0 v0
def tyV (v : V) (k : Int) : Prop := vOk v = true ∧ (v.Kind = k ∨ v.Kind = 0)
inductive Typed : List V → List Int → Prop
  | nil : Typed [] []
  | cons {v : V} {k : Int} {vs : List V} {ks : List Int} : tyV v k → Typed vs ks → Typed (v :: vs) (k :: ks)
theorem Typed.len {vs : List V} {ks : List Int} (h : Typed vs ks) : vs.length = ks.length := by
  induction h with
  | nil => rfl
  | cons _ _ ih => simp [ih]
theorem Typed.ok {vs : List V} {ks : List Int} (h : Typed vs ks) : ∀ v ∈ vs, vOk v = true := by
  induction h with
  | nil => simp
  | cons h _ ih =>
    intro v hv; rcases List.mem_cons.1 hv with rfl | hv
    · exact h.1
    · exact ih v hv
theorem Typed.take {vs : List V} {ks : List Int} (h : Typed vs ks) (n : Nat) : Typed (vs.take n) (ks.take n) := by
  induction h generalizing n with
  | nil => simp; exact .nil
  | cons h _ ih =>
    cases n with
    | zero => exact .nil
    | succ n => exact .cons h (ih n)
theorem Typed.drop {vs : List V} {ks : List Int} (h : Typed vs ks) (n : Nat) : Typed (vs.drop n) (ks.drop n) := by
  induction h generalizing n with
  | nil => simp; exact .nil
  | cons h h2 ih =>
    cases n with
    | zero => exact .cons h h2
    | succ n => exact ih n
theorem Typed.snoc {vs : List V} {ks : List Int} (h : Typed vs ks) {v : V} {k : Int} (hv : tyV v k) : Typed (vs ++ [v]) (ks ++ [k]) := by
  induction h with
  | nil => exact .cons hv .nil
  | cons h _ ih => exact .cons h ih
theorem vOk_v0 : vOk v0 = true := by decide
theorem tyV_v0 (k : Int) : tyV v0 k := ⟨vOk_v0, .inr rfl⟩
theorem vOf_ty (t : Int) : tyV (vOf t) 3 := by
  unfold vOf
  split
  · rename_i h
    rcases h with rfl | rfl
    · exact ⟨by decide, .inl rfl⟩
    · exact ⟨by decide, .inl rfl⟩
  · exact tyV_v0 3
theorem sumT_ty (a b : V) : tyV (sumT a b) 1 := by
  unfold sumT
  split
  · exact tyV_v0 1
  · rename_i h
    have : -9999 ≤ a.N + b.N ∧ a.N + b.N ≤ 9999 := by
      rcases Classical.em (-9999 ≤ a.N + b.N ∧ a.N + b.N ≤ 9999) with h1 | h1
      · exact h1
      · exact absurd (.inr h1) h
    exact ⟨by rw [vOk_num, decide_eq_true this.1, decide_eq_true this.2]; rfl, .inl rfl⟩
theorem fits_get {cs : List Col} {row : Row} (h : rowFits cs row = true) : colsOk cs = true ∧ rowOk row = true ∧ row.length = cs.length ∧ ∀ (i : Nat) (v : V) (c : Col), row[i]? = some v → cs[i]? = some c → vFit v c = true := by
  unfold rowFits at h; rw [Bool.and_eq_true, Bool.and_eq_true, Bool.and_eq_true, decide_eq_true_eq] at h; obtain ⟨h1, h2, h3, h4⟩ := h; refine ⟨h1, h2, h3, fun i v c hv hc => ?_⟩; unfold all2 at h4; have := List.all_eq_true.1 h4 (v, c) (List.mem_of_getElem? (i := i) (by rw [List.getElem?_zip_eq_some]; exact ⟨hv, hc⟩)); exact this
theorem rowOk_all {row : Row} (h : rowOk row = true) : row.length ≤ 4 ∧ ∀ v ∈ row, vOk v = true := by
  unfold rowOk at h; rw [Bool.and_eq_true, decide_eq_true_eq] at h; exact ⟨h.1, fun v hv => List.all_eq_true.1 h.2 v hv⟩
theorem valOf_ty {cs : List Col} {row : Row} {p : Pt} {ins : List V} {ks : List Int} (hf : rowFits cs row = true) (ht : tells cs p = true) (h : Typed ins ks) : tyV (valOf row p ins) (kindOf cs p ks).1 := by
  obtain ⟨f1, f2, f3, f4⟩ := fits_get hf; unfold valOf kindOf
  by_cases h1 : p.Kind = 1
  · rw [if_pos h1, if_pos h1]
    unfold tells at ht; rw [if_pos h1, Bool.and_eq_true, Bool.and_eq_true] at ht; exact ⟨ht.2.1, .inl rfl⟩
  · rw [if_neg h1, if_neg h1]
    by_cases h2 : p.Kind = 2
    · obtain ⟨a, b⟩ := tells_2 ht h2
      have hx : row[p.N.toNat]? = some row[p.N.toNat] := List.getElem?_eq_getElem (by omega); have hc : cs[p.N.toNat]? = some cs[p.N.toNat] := List.getElem?_eq_getElem (by omega); rw [if_pos h2, if_pos h2, getD_of hx, getD_of hc]; have := f4 _ _ _ hx hc; unfold vFit at this; rw [Bool.or_eq_true, decide_eq_true_eq, Bool.and_eq_true, decide_eq_true_eq] at this; exact ⟨(rowOk_all f2).2 _ (List.mem_of_getElem? hx), this.imp id (fun h => h.1)⟩
    · rw [if_neg h2, if_neg h2]
      by_cases h3 : p.Kind = 3
      · rw [if_pos h3, if_pos h3]; exact sumT_ty _ _
      · rw [if_neg h3, if_neg h3]
        by_cases h4 : p.Kind = 4
        · rw [if_pos h4, if_pos h4]; exact vOf_ty _
        · rw [if_neg h4, if_neg h4]
          have e : (if p.Kind = 8 then ((3 : Int), true) else (3, ks.all fun k => decide (k = 3))).1 = 3 := by split <;> rfl
          rw [e]
          split
          · exact vOf_ty _
          · split
            · exact vOf_ty _
            · split
              · exact vOf_ty _
              · exact vOf_ty _
theorem kStep_some {cs : List Col} {ks ks' : List Int} {p : Pt} (h : kStep cs ks p = some ks') : tells cs p = true ∧ takesN p ≤ ks.length ∧ (kindOf cs p (ks.drop (ks.length - takesN p))).2 = true ∧ ks' = ks.take (ks.length - takesN p) ++ [(kindOf cs p (ks.drop (ks.length - takesN p))).1] := by
  unfold kStep at h
  split at h
  · rename_i g; cases h; exact ⟨g.1, g.2.1, g.2.2, rfl⟩
  · cases h
theorem vStep_ty {cs : List Col} {row : Row} {p : Pt} {vs : List V} {ks ks' : List Int} (hf : rowFits cs row = true) (h : Typed vs ks) (hk : kStep cs ks p = some ks') : Typed (vStep row vs p) ks' := by
  obtain ⟨h1, h2, h3, rfl⟩ := kStep_some hk; unfold vStep; rw [h.len]; exact (h.take _).snoc (valOf_ty hf h1 (h.drop _))
theorem kind_run {cs : List Col} {e : List Pt} (h : 0 ≤ exprKind cs e) : colsOk cs = true ∧ e.length ≤ 12 ∧ kGo cs e [] = some [exprKind cs e] := by
  unfold exprKind at h ⊢
  split at h
  · rename_i g
    rw [if_pos g]; refine ⟨g.1, g.2, ?_⟩; cases hk : kGo cs e [] with
    | none => rw [hk] at h; exact absurd h (by decide)
    | some l =>
      rw [hk] at h
      match l with
      | [] => exact absurd h (show ¬ (0 : Int) ≤ -1 by decide)
      | [k] => rfl
      | a :: b :: r => exact absurd h (show ¬ (0 : Int) ≤ -1 by decide)
  · exact absurd h (by decide)
theorem foldl_drop {α β : Type} (f : β → α → β) (l : List α) (k : Nat) (x : α) (b : β) (h : l[k]? = some x) : (l.drop k).foldl f b = (l.drop (k + 1)).foldl f (f b x) := by
  have hk := lt_of_at h; rw [List.drop_eq_getElem_cons hk, List.foldl_cons]; have : l[k] = x := by rw [List.getElem?_eq_getElem hk] at h; exact Option.some.inj h
  rw [this]
theorem kGo_drop {cs : List Col} {l : List Pt} {k : Nat} {p : Pt} {ks r : List Int} (h : l[k]? = some p) (hk : kGo cs (l.drop k) ks = some r) : ∃ k1, kStep cs ks p = some k1 ∧ kGo cs (l.drop (k + 1)) k1 = some r := by
  have hl := lt_of_at h; rw [List.drop_eq_getElem_cons hl, kGo_c] at hk; have : l[k] = p := by rw [List.getElem?_eq_getElem hl] at h; exact Option.some.inj h
  rw [this] at hk; cases hs : kStep cs ks p with
  | none => rw [hs] at hk; cases hk
  | some k1 => rw [hs, Option.bind_some] at hk; exact ⟨k1, rfl, hk⟩
theorem impl_v_loop {cs : List Col} {row : Row} {e : List Pt} {z : V} (hf : rowFits cs row = true) (he : e.length ≤ 12) {r : Int} : ∀ (n k f : Nat) (vs : List V) (ks : List Int), k + n = e.length → Typed vs ks → kGo cs (e.drop k) ks = some [r] → ks.length ≤ k → n < f → m_impl_exprValue_l1 f row e (e.length : Int) (k : Int) z vs = some (((e.drop k).foldl (vStep row) vs).getD 0 v0) := by
  intro n
  induction n with
  | zero =>
    intro k f vs ks hk ht hg hl hf'; obtain ⟨f, rfl⟩ : ∃ q, f = q + 1 := ⟨f - 1, by omega⟩; obtain rfl : k = e.length := by omega
    rw [List.drop_length] at hg ⊢; cases hg; cases ht with
    | cons h1 h2 =>
      cases h2 with
      | nil =>
        rw [m_impl_exprValue_l1, dnlt, cond_false]; rfl
  | succ n ih =>
    intro k f vs ks hk ht hg hl hf'; obtain ⟨f, rfl⟩ : ∃ q, f = q + 1 := ⟨f - 1, by omega⟩; have hx : e[k]? = some e[k] := List.getElem?_eq_getElem (by omega); generalize e[k] = p at hx; obtain ⟨k1, g1, g2⟩ := kGo_drop hx hg; obtain ⟨t1, t2, t3, t4⟩ := kStep_some g1; have hlen := ht.len; have htk := takes_le p; have hin : (vs.drop (vs.length - takesN p)).length = takesN p := by rw [List.length_drop]; omega
    obtain ⟨f1, f2, f3, f4⟩ := fits_get hf; rw [m_impl_exprValue_l1, dlt (by omega), cond_true, at_of hx, Option.bind_some, ltE, E_takes, Option.bind_some, ckI_of (by omega) (by omega), Option.bind_some]; have e0 : (vs.length : Int) - (takesN p : Int) = ((vs.length - takesN p : Nat) : Int) := by omega
    have hdl : (vs.drop (0 + (vs.length - takesN p))).take (vs.length - (vs.length - takesN p)) = vs.drop (vs.length - takesN p) := by
      rw [Nat.zero_add, List.take_of_length_le (by rw [List.length_drop]; omega)]
    unfold rng? leN appT?; rw [e0, Int.toNat_natCast, if_pos (by omega), Option.bind_some, if_pos (by omega), Option.bind_some, hdl, E_impl_Part_value (cs := cs) t1 f3.symm hin (fun v hv => ht.ok v (List.mem_of_mem_drop hv)), Option.bind_some, ltE, if_pos (by omega), Option.bind_some, if_pos (by simp; omega), Option.bind_some, ckI_of (by omega) (by omega), Option.bind_some, foldl_drop _ _ _ _ _ hx]; have hst := vStep_ty hf ht g1; have hk1 : k1.length ≤ k + 1 := by rw [t4]; simp; omega
    exact ih (k + 1) f (vStep row vs p) k1 (by omega) hst g2 hk1 (by omega)
theorem E_impl_exprValue {cs : List Col} {row : Row} {e : List Pt} (h : 0 ≤ exprKind cs e) (hf : rowFits cs row = true) : m_impl_exprValue row e = some (exprVal row e) := by
  obtain ⟨h1, h2, h3⟩ := kind_run h; unfold m_impl_exprValue exprVal; have := impl_v_loop (z := ⟨0, 0, ⟨#[]⟩⟩) hf h2 (r := exprKind cs e) e.length 0 _ [] [] (by omega) .nil (by rw [List.drop_zero]; exact h3) (by simp) (fuel0 (n := e.length)); rw [List.drop_zero] at this; exact this
def yes : V := ⟨3, 1, ⟨#[]⟩⟩
theorem vOf_1 : vOf 1 = yes := rfl
theorem E_impl_exprHolds {cs : List Col} {row : Row} {e : List Pt} (h : 0 ≤ exprKind cs e) (hf : rowFits cs row = true) : m_impl_exprHolds row e = some (decide (exprVal row e = yes)) := by
  unfold m_impl_exprHolds; rw [E_impl_exprValue h hf, Option.bind_some, E_impl_ValueOf, Option.bind_some, vOf_1]
def pSz (p : Pt) : Prop := p.V.S.size ≤ 20
theorem pSz_0 {k n : Int} : pSz ⟨k, n, ⟨0, 0, ⟨#[]⟩⟩⟩ := by show ByteArray.size ⟨#[]⟩ ≤ 20; decide
theorem pt_sm {e : List Pt} (h : e.length ≤ 1000) (hp : ∀ p ∈ e, pSz p) : ptSm e := ⟨by omega, fun p h => by have := hp p h; unfold pSz at this; omega⟩
abbrev Stp := S_impl_Step
abbrev Md := S_impl_made
def tb0 : Tb := ⟨[], []⟩
def md0 : Md := ⟨[], 0⟩
def col0 : Col := ⟨0, false⟩
theorem scanT {α β R : Type} {p : α → Bool} {f : α → β} {J : List β → Option R} {r0 : Option R} (xs : List α) (L : Nat → Int → List β → Option R) (hs : ∀ n (k : Nat) x o, xs[k]? = some x → o.length = k → L (n + 1) (k : Int) o = bif p x then L n ((k : Int) + 1) (o ++ [f x]) else r0)
    (he : ∀ n o, o.length = xs.length → L (n + 1) (xs.length : Int) o = J o) (n : Nat) (hn : xs.length < n) : L n 0 [] = bif xs.all p then J (xs.map f) else r0 := by
  have go : ∀ (d k n : Nat), k + d = xs.length → d < n → L n (k : Int) ((xs.take k).map f) = bif (xs.drop k).all p then J (xs.map f) else r0 := by
    intro d
    induction d with
    | zero =>
      intro k n hk hd; obtain ⟨m, rfl⟩ : ∃ m, n = m + 1 := ⟨n - 1, by omega⟩; have : k = xs.length := by omega
      subst this; rw [he m _ (by simp), List.drop_of_length_le (Nat.le_refl _), List.take_of_length_le (Nat.le_refl _)]; rfl
    | succ d ih =>
      intro k n hk hd; obtain ⟨m, rfl⟩ : ∃ m, n = m + 1 := ⟨n - 1, by omega⟩; have hlt : k < xs.length := by omega
      have hx : xs[k]? = some xs[k] := by simp [hlt]
      rw [hs m k _ _ hx (by simp; omega), List.drop_eq_getElem_cons hlt, List.all_cons]; cases p xs[k] with
      | false => rfl
      | true =>
        have := ih (k + 1) m (by omega) (by omega); rw [show xs.take (k + 1) = xs.take k ++ [xs[k]] by rw [List.take_add_one, hx]; rfl, List.map_append] at this; rw [cond_true, Bool.true_and]
        exact_mod_cast this
  have := go xs.length 0 n (by omega) (by omega); simpa using this
theorem set_mid {α : Type} {a b : List α} {x y : α} {k : Nat} (h : a.length = k) : (a ++ x :: b).set k y = a ++ y :: b := by
  subst h; simp
theorem scanZ {α β γ R : Type} {p : α → β → Bool} {g : α → β → α} {J : List α → Option R} {r0 : Option R} (a : List α) (b : List β) (hl : a.length = b.length) (L : Nat → Int → List α → Option R) (hs : ∀ n (k : Nat) x y o, b[k]? = some y → o[k]? = some x → o.length = a.length → L (n + 1) (k : Int) o = bif p x y then L n ((k : Int) + 1) (o.set k (g x y)) else r0)
    (he : ∀ n o, L (n + 1) (b.length : Int) o = J o) (n : Nat) (hn : b.length < n) : L n 0 a = bif all2 p a b then J (List.zipWith g a b) else r0 := by
  have go : ∀ (a2 : List α) (b2 : List β) (a1 : List α) (b1 : List β) (n : Nat), a1.length = b1.length → a2.length = b2.length → b = b1 ++ b2 → a1.length + a2.length = a.length → b2.length < n → L n (b1.length : Int) (a1 ++ a2) = bif all2 p a2 b2 then J (a1 ++ List.zipWith g a2 b2) else r0 := by
    intro a2
    induction a2 with
    | nil =>
      intro b2 a1 b1 n h1 h2 hb _ hn; obtain ⟨m, rfl⟩ : ∃ m, n = m + 1 := ⟨n - 1, by omega⟩; have : b2 = [] := List.eq_nil_of_length_eq_zero (by simpa using h2.symm); subst this; rw [List.append_nil] at hb; subst hb; rw [he]; rfl
    | cons x a2 ih =>
      intro b2 a1 b1 n h1 h2 hb h3 hn; obtain ⟨m, rfl⟩ : ∃ m, n = m + 1 := ⟨n - 1, by omega⟩; cases b2 with
      | nil => simp at h2
      | cons y b2 =>
        have hy : b[b1.length]? = some y := by rw [hb]; simp
        have hx : (a1 ++ x :: a2)[b1.length]? = some x := by rw [← h1]; simp
        rw [hs m b1.length x y _ hy hx (by simpa using h3), set_mid h1]; have e : all2 p (x :: a2) (y :: b2) = (p x y && all2 p a2 b2) := rfl; rw [e]; cases p x y with
        | false => rfl
        | true =>
          rw [cond_true, Bool.true_and]; have := ih b2 (a1 ++ [g x y]) (b1 ++ [y]) m (by simp [h1]) (by simpa using h2) (by rw [hb]; simp) (by simp at h3 ⊢; omega) (by simp at hn; omega); simp only [List.length_append, List.length_singleton, List.append_assoc, List.singleton_append] at this
          exact_mod_cast this
  have := go a b [] [] n rfl hl rfl (by simp) hn; simpa using this
def plainB (k1 k2 k3 k4 k5 a b n e l : Bool) : Bool := (k1 == false || a) && ((k4 || k5 || b) && ((k1 || n) && ((k2 || k4 || e) && (k3 || l))))
def plainS (s : Stp) : Bool := plainB (s.Kind == 1) (s.Kind == 2) (s.Kind == 3) (s.Kind == 4) (s.Kind == 5) (s.A == 0) (s.B == 0) (s.N == 0) ((s.E.length : Int) == 0) ((s.f_List.length : Int) == 0)
theorem E_plain (s : Stp) : m_impl_Step_plain s = some (plainS s) := by
  unfold m_impl_Step_plain m_impl_Step_plain_j1 m_impl_Step_plain_j2 m_impl_Step_plain_j3 plainS; rw [show (s.Kind != 1) = !(s.Kind == 1) from rfl]; generalize (s.Kind == 1) = k1; generalize (s.Kind == 2) = k2; generalize (s.Kind == 3) = k3; generalize (s.Kind == 4) = k4; generalize (s.Kind == 5) = k5; generalize (s.A == 0) = a; generalize (s.B == 0) = b; generalize (s.N == 0) = n; generalize ((s.E.length : Int) == 0) = e; generalize ((s.f_List.length : Int) == 0) = l; cases k1 <;> cases k4 <;> cases k5 <;> cases k2 <;> cases k3 <;> cases a <;> cases b <;> cases n <;> cases e <;> rfl
def takeOk (n : Nat) (l : List Int) : Bool := l.all (inR n)
def zipC (x y : Col) : Col := ⟨x.Kind, x.Empty || y.Empty⟩
def sameK (x y : Col) : Bool := decide (x.Kind = y.Kind)
def kindsEq (a b : List Col) : Bool := decide (a.length = b.length) && all2 sameK a b
def colAt (cs : List Col) (n : Int) : Col := cs.getD n.toNat col0
def makeB (a b : Md) (s : Stp) : Option Md :=
  if s.Kind = 2 then (if exprKind a.columns s.E = 3 then some a else none)
  else if s.Kind = 3 then (if takeOk a.columns.length s.f_List && decide (s.f_List.length ≤ 4) then some ⟨s.f_List.map (colAt a.columns), a.most⟩ else none)
  else if s.Kind = 4 then (if decide ((a.columns ++ b.columns).length ≤ 4) && decide (exprKind (a.columns ++ b.columns) s.E = 3) then some ⟨a.columns ++ b.columns, a.most * b.most⟩ else none)
  else if s.Kind = 5 then (if kindsEq a.columns b.columns then some ⟨List.zipWith zipC a.columns b.columns, a.most + b.most⟩ else none)
  else some a
def makeS (ts : List Tb) (ah : List Md) (s : Stp) : Option Md :=
  if plainS s && (decide (1 ≤ s.Kind) && decide (s.Kind ≤ 6)) then
    if s.Kind = 1 then (if inR ts.length s.N then some ⟨(ts.getD s.N.toNat tb0).Columns, 6⟩ else none)
    else if inR ah.length s.A && inR ah.length s.B then makeB (ah.getD s.A.toNat md0) (ah.getD s.B.toNat md0) s else none
  else none
def mdSm (m : Md) : Prop := m.columns.length ≤ 1100000 ∧ 0 ≤ m.most ∧ m.most ≤ 300
def stSm (s : Stp) : Prop := ptSm s.E ∧ s.f_List.length ≤ 1100000
def plSm (plan : List Stp) : Prop := plan.length ≤ 1100000 ∧ ∀ s ∈ plan, stSm s
def SaysM (o : Option (Md × Bool)) (q : Option Md) : Prop := ∃ m, o = some (m, q.isSome) ∧ ∀ x, q = some x → m = x
theorem saysNo {m : Md} {q : Option Md} (h : q = none) : SaysM (some (m, false)) q := ⟨m, by rw [h]; rfl, fun x hx => by rw [h] at hx; cases hx⟩
theorem saysYes {m : Md} {q : Option Md} (h : q = some m) : SaysM (some (m, true)) q := ⟨m, by rw [h]; rfl, fun x hx => by rw [h] at hx; cases hx; rfl⟩
theorem saysIf {m : Md} {b : Bool} {q : Option Md} (h : q = if b = true then some m else none) : SaysM (some (m, b)) q := by
  cases b
  · exact saysNo (by simpa using h)
  · exact saysYes (by simpa using h)
theorem E_ConcatC {a b : List Col} (ha : a.length ≤ 400000000) (hb : b.length ≤ 400000000) : m_slices_Concat_Limpl_Column_impl_Column [a, b] = some (a ++ b) := by
  unfold m_slices_Concat_Limpl_Column_impl_Column; rw [show ((([a, b] : List (List Col)).length : Int) - 0).toNat + 1 = 2 + 1 from rfl, show (([a, b] : List (List Col)).length : Int) = 2 from rfl]; have a0 : at? [a, b] 0 = some a := rfl; have a1 : at? [a, b] 1 = some b := rfl; have k1 : ckI (0 + 1) = some 1 := rfl; have k2 : ckI (1 + 1) = some 2 := rfl; have d0 : decide ((0 : Int) < 2) = true := rfl; have d1 : decide ((1 : Int) < 2) = true := rfl; have d2 : decide ((2 : Int) < 2) = false := rfl; rw [m_slices_Concat_Limpl_Column_impl_Column_l1, d0, cond_true, a0, Option.bind_some, ckI_of (by omega) (by omega), Option.bind_some]; rw [show decide (0 + (a.length : Int) < 0) = false by rw [decide_eq_false_iff_not]; omega, cond_false, k1, Option.bind_some]; rw [m_slices_Concat_Limpl_Column_impl_Column_l1, d1, cond_true, a1, Option.bind_some, ckI_of (by omega) (by omega), Option.bind_some]; rw [show decide (0 + (a.length : Int) + (b.length : Int) < 0) = false by rw [decide_eq_false_iff_not]; omega, cond_false, k2, Option.bind_some]; rw [m_slices_Concat_Limpl_Column_impl_Column_l1, d2, cond_false]; unfold m_slices_Concat_Limpl_Column_impl_Column_j1 m_slices_Grow_Limpl_Column_impl_Column; rw [if_pos (by omega), Option.bind_some, show ((([a, b] : List (List Col)).length : Int) - 0).toNat + 1 = 2 + 1 from rfl, show (([a, b] : List (List Col)).length : Int) = 2 from rfl]; rw [m_slices_Concat_Limpl_Column_impl_Column_l2, d0, cond_true, a0, Option.bind_some, app_of (by simp; omega), Option.bind_some, k1, Option.bind_some]; rw [m_slices_Concat_Limpl_Column_impl_Column_l2, d1, cond_true, a1, Option.bind_some, app_of (by simp; omega), Option.bind_some, k2, Option.bind_some]; rw [m_slices_Concat_Limpl_Column_impl_Column_l2, d2, cond_false]; rfl
theorem E_ConcatV {a b : Row} (ha : a.length ≤ 400000000) (hb : b.length ≤ 400000000) : m_slices_Concat_Limpl_Value_impl_Value [a, b] = some (a ++ b) := by
  unfold m_slices_Concat_Limpl_Value_impl_Value; rw [show ((([a, b] : List Row).length : Int) - 0).toNat + 1 = 2 + 1 from rfl, show (([a, b] : List Row).length : Int) = 2 from rfl]; have a0 : at? [a, b] 0 = some a := rfl; have a1 : at? [a, b] 1 = some b := rfl; have k1 : ckI (0 + 1) = some 1 := rfl; have k2 : ckI (1 + 1) = some 2 := rfl; have d0 : decide ((0 : Int) < 2) = true := rfl; have d1 : decide ((1 : Int) < 2) = true := rfl; have d2 : decide ((2 : Int) < 2) = false := rfl; rw [m_slices_Concat_Limpl_Value_impl_Value_l1, d0, cond_true, a0, Option.bind_some, ckI_of (by omega) (by omega), Option.bind_some]; rw [show decide (0 + (a.length : Int) < 0) = false by rw [decide_eq_false_iff_not]; omega, cond_false, k1, Option.bind_some]; rw [m_slices_Concat_Limpl_Value_impl_Value_l1, d1, cond_true, a1, Option.bind_some, ckI_of (by omega) (by omega), Option.bind_some]; rw [show decide (0 + (a.length : Int) + (b.length : Int) < 0) = false by rw [decide_eq_false_iff_not]; omega, cond_false, k2, Option.bind_some]; rw [m_slices_Concat_Limpl_Value_impl_Value_l1, d2, cond_false]; unfold m_slices_Concat_Limpl_Value_impl_Value_j1 m_slices_Grow_Limpl_Value_impl_Value; rw [if_pos (by omega), Option.bind_some, show ((([a, b] : List Row).length : Int) - 0).toNat + 1 = 2 + 1 from rfl, show (([a, b] : List Row).length : Int) = 2 from rfl]; rw [m_slices_Concat_Limpl_Value_impl_Value_l2, d0, cond_true, a0, Option.bind_some, app_of (by simp; omega), Option.bind_some, k1, Option.bind_some]; rw [m_slices_Concat_Limpl_Value_impl_Value_l2, d1, cond_true, a1, Option.bind_some, app_of (by simp; omega), Option.bind_some, k2, Option.bind_some]; rw [m_slices_Concat_Limpl_Value_impl_Value_l2, d2, cond_false]; rfl
theorem E_cloneC {l : List Col} (h : l.length ≤ 900000000) : m_impl_clone_impl_Column l = some l := by
  unfold m_impl_clone_impl_Column; cases l with
  | nil => rfl
  | cons x l =>
    rw [beqF (by simp; omega), cond_false]; unfold appN? m_slices_Clip_Limpl_Column_impl_Column_o; rw [if_pos (by simp at h ⊢; omega)]; rfl
theorem ptSm_k {e : List Pt} (h : ptSm e) : e.length ≤ 900000000 ∧ ∀ p ∈ e, p.V.S.size ≤ 900000000 := ⟨by have := h.1; omega, fun p hp => by have := h.2 p hp; omega⟩
theorem beq3 (x : Int) : (x == 3) = decide (x = 3) := by rw [Bool.eq_iff_iff]; simp
theorem make_take {ah : List Md} {s : Stp} {o6 a : Md} {m : Md} (ha : mdSm a) (hl : s.f_List.length ≤ 1100000) (hm : m.most = a.most) :
    SaysM (m_impl_Step_make_r_l1 ah (((s.f_List.length : Int) - 0).toNat + 1) s s.f_List (s.f_List.length : Int) 0 o6 a [] m) (if takeOk a.columns.length s.f_List && decide (s.f_List.length ≤ 4) then some ⟨s.f_List.map (colAt a.columns), a.most⟩ else none) := by
  have hc := ha.1; have e := scanT (p := inR a.columns.length) (f := colAt a.columns) (J := fun o => m_impl_Step_make_r_j3 ah s o6 o m) (r0 := some (⟨[], 0⟩, false)) s.f_List (fun n k o => m_impl_Step_make_r_l1 ah n s s.f_List (s.f_List.length : Int) k o6 a o m) (fun n k x o hx ho => ?_) (fun n o ho => by rw [m_impl_Step_make_r_l1, dnlt, cond_false]) _ fuel0
  · rw [e]
    show SaysM (bif takeOk _ _ then _ else _) _; cases takeOk a.columns.length s.f_List with
    | false => exact saysNo rfl
    | true =>
      rw [cond_true, Bool.true_and]; unfold m_impl_Step_make_r_j3; rw [show ((4 : Int)) = ((4 : Nat) : Int) from rfl, lenD]; refine saysIf ?_; rw [hm]
  · have hk := lt_of_at hx
    rw [m_impl_Step_make_r_l1, dlt hk, cond_true, at_of hx, Option.bind_some, ckI_of (by omega) (by omega), Option.bind_some, E_between, Option.bind_some]; cases hi : inR a.columns.length x with
    | false => unfold inR at hi; rw [hi]; rfl
    | true =>
      have h2 := inR_of hi; unfold inR at hi; rw [hi, Bool.not_true, cond_false, cond_true, at_z (x := colAt a.columns x) h2.1 (by unfold colAt; rw [List.getD_eq_getElem?_getD, List.getElem?_eq_getElem h2.2]; rfl), Option.bind_some, app_of (by simp; omega), Option.bind_some, ck1 (by omega), Option.bind_some]
theorem make_both {ah : List Md} {o6 : Md} {a b : List Col} {m : Md} (hl : a.length = b.length) (ha : a.length ≤ 1100000) :
    SaysM (m_impl_Step_make_r_l2 ah (((b.length : Int) - 0).toNat + 1) b (b.length : Int) 0 o6 a m) (if all2 sameK a b then some ⟨List.zipWith zipC a b, m.most⟩ else none) := by
  have e := scanZ (γ := Unit) (p := sameK) (g := zipC) (J := fun o => m_impl_Step_make_r_j6 ah o6 o m) (r0 := some (⟨[], 0⟩, false)) a b hl (fun n k o => m_impl_Step_make_r_l2 ah n b (b.length : Int) k o6 o m) (fun n k x y o hy hx ho => ?_) (fun n o => by rw [m_impl_Step_make_r_l2, dnlt, cond_false]) _ fuel0
  · rw [e]
    cases all2 sameK a b with
    | false => exact saysNo rfl
    | true => exact saysYes rfl
  · have hk := lt_of_at hy
    rw [m_impl_Step_make_r_l2, dlt hk, cond_true, at_of hy, Option.bind_some, ltE', at_of hx, Option.bind_some, Option.bind_some]; unfold sameK
    by_cases hkd : x.Kind = y.Kind
    · rw [bneF hkd.symm, cond_false, decide_eq_true hkd, cond_true, Option.bind_some, Option.bind_some]
      unfold m_impl_Step_make_r_j5 zipC; cases hx2 : x.Empty with
      | true => rw [cond_true, Option.bind_some, Option.bind_some, ltE', ck1 (by omega), Option.bind_some, Int.toNat_natCast, Bool.true_or]
      | false => rw [cond_false, Option.bind_some, Option.bind_some, ltE', ck1 (by omega), Option.bind_some, Int.toNat_natCast, Bool.false_or]
    · rw [beqF' (fun e => hkd e.symm), cond_true, decide_eq_false hkd, cond_false]; rfl
theorem getD_in {α : Type} {l : List α} {n : Int} {d : α} (h : inR l.length n = true) : at? l n = some (l.getD n.toNat d) := by
  have h2 := inR_of h; exact at_z h2.1 (by rw [List.getD_eq_getElem?_getD, List.getElem?_eq_getElem h2.2]; rfl)
theorem getD_mem' {α : Type} {l : List α} {n : Int} {d : α} (h : inR l.length n = true) : l.getD n.toNat d ∈ l := by
  have h2 := inR_of h; rw [List.getD_eq_getElem?_getD, List.getElem?_eq_getElem h2.2]; simp
theorem E_makeB {ah : List Md} {s : Stp} {o6 : Md} (hA : inR ah.length s.A = true) (hB : inR ah.length s.B = true) (hm : ∀ m ∈ ah, mdSm m) (hs : stSm s) (h1 : ¬ s.Kind = 1) :
    SaysM (m_impl_Step_make_r_j2 ah s false o6) (makeB (ah.getD s.A.toNat md0) (ah.getD s.B.toNat md0) s) := by
  have ha := hm _ (getD_mem' (d := md0) hA); have hb := hm _ (getD_mem' (d := md0) hB); unfold m_impl_Step_make_r_j2; rw [cond_false, getD_in (d := md0) hA, getD_in (d := md0) hB, Option.bind_some, Option.bind_some, Option.bind_some, Option.bind_some, ltE', ltE']; generalize ah.getD s.A.toNat md0 = a at ha ⊢; generalize ah.getD s.B.toNat md0 = b at hb ⊢; have hk := ptSm_k hs.1; unfold makeB
  by_cases k2 : s.Kind = 2
  · rw [if_pos k2, beqE k2, cond_true, E_impl_ExprKind (by have := ha.1; omega) hk.1 hk.2, Option.bind_some, ltE', beq3]
    exact saysIf (by simp)
  rw [if_neg k2, beqF k2, cond_false]
  by_cases k3 : s.Kind = 3
  · rw [if_pos k3, beqE k3, cond_true, ltE']
    exact make_take ha hs.2 rfl
  rw [if_neg k3, beqF k3, cond_false]
  by_cases k4 : s.Kind = 4
  · have hmul : 0 ≤ a.most * b.most ∧ a.most * b.most ≤ 90000 := by
      refine ⟨Int.mul_nonneg ha.2.1 hb.2.1, ?_⟩; have := Int.mul_le_mul ha.2.2 hb.2.2 hb.2.1 (by omega); omega
    rw [if_pos k4, beqE k4, cond_true, E_ConcatC (by have := ha.1; omega) (by have := hb.1; omega), Option.bind_some, ckI_of (by omega) (by omega), Option.bind_some, ltE', show ((4 : Int)) = ((4 : Nat) : Int) from rfl, lenD]; unfold m_impl_Step_make_r_j4; cases decide ((a.columns ++ b.columns).length ≤ 4) with
    | false => exact saysNo rfl
    | true =>
      rw [cond_true, E_impl_ExprKind (by have := ha.1; have := hb.1; simp; omega) hk.1 hk.2, Option.bind_some, ltE', beq3, Bool.true_and]; exact saysIf rfl
  rw [if_neg k4, beqF k4, cond_false]
  by_cases k5 : s.Kind = 5
  · rw [if_pos k5, beqE k5, cond_true, E_cloneC (by have := ha.1; omega), Option.bind_some, ckI_of (by have := ha.2; have := hb.2; omega) (by have := ha.2; have := hb.2; omega), Option.bind_some, ltE']
    unfold kindsEq
    by_cases hl : a.columns.length = b.columns.length
    · rw [lenEq hl, cond_false, decide_eq_true hl, Bool.true_and]
      exact make_both hl ha.1
    · rw [beqF' (by omega), cond_true, decide_eq_false hl]
      exact saysNo rfl
  · rw [if_neg k5, beqF k5, cond_false]
    exact saysYes rfl
theorem E_make {ts : List Tb} {ah : List Md} {s : Stp} (ht : ts.length ≤ 1100000) (hl : ah.length ≤ 1100000) (hm : ∀ m ∈ ah, mdSm m) (hs : stSm s) : SaysM (m_impl_Step_make_r s ts ah) (makeS ts ah s) := by
  unfold m_impl_Step_make_r makeS; rw [E_plain, Option.bind_some]; have j1t : ∀ o6, SaysM (m_impl_Step_make_r_j1 ah ts s true o6) none := fun _ => saysNo rfl; cases plainS s with
  | false => exact j1t ⟨[], 0⟩
  | true =>
    rw [Bool.not_true, cond_false, E_between, Option.bind_some, Bool.true_and]; cases decide (1 ≤ s.Kind) && decide (s.Kind ≤ 6) with
    | false => exact j1t ⟨[], 0⟩
    | true =>
      rw [if_pos rfl]; unfold m_impl_Step_make_r_j1; rw [Bool.not_true, cond_false]
      by_cases k1 : s.Kind = 1
      · rw [if_pos k1, beqE k1, cond_true, ckI_of (by omega) (by omega), Option.bind_some, E_between, Option.bind_some]
        show SaysM (bif !(inR ts.length s.N) then _ else _) _; cases hi : inR ts.length s.N with
        | false => exact saysNo rfl
        | true =>
          rw [Bool.not_true, cond_false, getD_in (d := tb0) hi, Option.bind_some]; exact saysYes rfl
      · rw [if_neg k1, beqF k1, cond_false, ckI_of (by omega) (by omega), Option.bind_some, E_between, Option.bind_some]
        show SaysM (bif !(inR ah.length s.A) then _ else _) _; cases hA : inR ah.length s.A with
        | false => exact saysNo rfl
        | true =>
          rw [Bool.not_true, cond_false, Option.bind_some, E_between, Option.bind_some, Bool.true_and]; show SaysM (m_impl_Step_make_r_j2 ah s (!(inR ah.length s.B)) _) _; cases hB : inR ah.length s.B with
          | false => exact saysNo rfl
          | true => exact E_makeB hA hB hm hs k1
def makeGo (ts : List Tb) : List Stp → List Md → Option (List Md)
  | [], ah => some ah
  | s :: ps, ah => (makeS ts ah s).bind fun m => if m.most ≤ 300 then makeGo ts ps (ah ++ [m]) else none
theorem makeS_sm {ts : List Tb} {ah : List Md} {s : Stp} {m : Md} (ht : ∀ t ∈ ts, t.Columns.length ≤ 1100000) (hm : ∀ m ∈ ah, mdSm m) (hl : s.f_List.length ≤ 1100000) (h : makeS ts ah s = some m) (h3 : m.most ≤ 300) : mdSm m := by
  unfold makeS at h
  split at h
  · split at h
    · split at h
      · rename_i hi
        cases h; exact ⟨ht _ (getD_mem' hi), show (0 : Int) ≤ 6 by decide, show (6 : Int) ≤ 300 by decide⟩
      · cases h
    · split at h
      · rename_i hi
        simp only [Bool.and_eq_true] at hi; have ha := hm _ (getD_mem' (d := md0) hi.1); have hb := hm _ (getD_mem' (d := md0) hi.2); revert h ha hb; generalize ah.getD s.A.toNat md0 = a; generalize ah.getD s.B.toNat md0 = b; intro h ha hb; unfold makeB at h
        split at h
        · split at h
          · cases h; exact ha
          · cases h
        split at h
        · split at h
          · cases h; exact ⟨by simpa using hl, ha.2⟩
          · cases h
        split at h
        · split at h
          · rename_i hx
            cases h; simp only [Bool.and_eq_true, decide_eq_true_eq] at hx; exact ⟨by simp only at hx ⊢; omega, Int.mul_nonneg ha.2.1 hb.2.1, h3⟩
          · cases h
        split at h
        · split at h
          · cases h
            refine ⟨?_, by have := ha.2; have := hb.2; show 0 ≤ a.most + b.most; omega, h3⟩; show (List.zipWith zipC a.columns b.columns).length ≤ 1100000; rw [List.length_zipWith]; have := ha.1; omega
          · cases h
        · cases h; exact ha
      · cases h
  · cases h
theorem makes_loop {ts : List Tb} {plan : List Stp} (ht : ts.length ≤ 1100000) (ht2 : ∀ t ∈ ts, t.Columns.length ≤ 1100000) (hp : plSm plan) : ∀ (d k n : Nat) (ah : List Md), k + d = plan.length → ah.length = k → d < n → (∀ m ∈ ah, mdSm m) →
    ∃ ms, m_impl_makes_l1 n ts plan (plan.length : Int) (k : Int) ah = some (ms, (makeGo ts (plan.drop k) ah).isSome) ∧ ∀ x, makeGo ts (plan.drop k) ah = some x → ms = x := by
  intro d
  induction d with
  | zero =>
    intro k n ah hk hl hd hm; obtain ⟨n, rfl⟩ : ∃ m, n = m + 1 := ⟨n - 1, by omega⟩; have : k = plan.length := by omega
    subst this; rw [m_impl_makes_l1, dnlt, cond_false, List.drop_of_length_le (Nat.le_refl _)]; exact ⟨ah, rfl, fun x hx => by cases hx; rfl⟩
  | succ d ih =>
    intro k n ah hk hl hd hm; obtain ⟨n, rfl⟩ : ∃ m, n = m + 1 := ⟨n - 1, by omega⟩; have hlt : k < plan.length := by omega
    have hx : plan[k]? = some plan[k] := by simp [hlt]
    have hb := hp.1; have hst := hp.2 _ (List.getElem_mem hlt); rw [m_impl_makes_l1, dlt hlt, cond_true, at_of hx, Option.bind_some, ltE', List.drop_eq_getElem_cons hlt, makeGo]; obtain ⟨m, e1, e2⟩ := E_make (ts := ts) (ah := ah) ht (by omega) hm hst; rw [e1, Option.bind_some, ltE']; cases hq : makeS ts ah plan[k] with
    | none => exact ⟨[], rfl, fun x hx => by simp at hx⟩
    | some m' =>
      have := e2 _ hq; subst this; rw [Option.bind_some, Option.isSome_some, Bool.not_true, cond_false]; unfold m_impl_makes_j2
      by_cases h3 : m.most ≤ 300
      · rw [if_pos h3, decide_eq_false (by show ¬ m.most > 300; omega), cond_false, app_of (by simp; omega), Option.bind_some, ck1 (by omega), Option.bind_some]
        have := ih (k + 1) n (ah ++ [m]) (by omega) (by simp [hl]) (by omega) (by
          intro x hx; rcases List.mem_append.1 hx with hx | hx
          · exact hm x hx
          · rw [List.mem_singleton.1 hx]; exact makeS_sm ht2 hm hst.2 hq h3)
        exact_mod_cast this
      · rw [if_neg h3, decide_eq_true (by show m.most > 300; omega), cond_true]
        exact ⟨[], rfl, fun x hx => by cases hx⟩
def planOk (ts : List Tb) (plan : List Stp) : Bool := tbsOk ts && ((decide (1 ≤ (plan.length : Int)) && decide ((plan.length : Int) ≤ 6)) && (makeGo ts plan []).isSome)
theorem E_impl_makes {ts : List Tb} {plan : List Stp} (ht : tbsSm ts) (hp : plSm plan) : ∃ ms, m_impl_makes ts plan = some (ms, planOk ts plan) := by
  unfold m_impl_makes planOk; rw [E_impl_TablesOk ht, Option.bind_some]; cases tbsOk ts with
  | false => exact ⟨[], rfl⟩
  | true =>
    rw [Bool.not_true, cond_false, E_between, Option.bind_some, Bool.true_and]; cases decide (1 ≤ (plan.length : Int)) && decide ((plan.length : Int) ≤ 6) with
    | false => exact ⟨[], rfl⟩
    | true =>
      unfold m_impl_makes_j1; rw [Bool.not_true, cond_false, Bool.true_and]; obtain ⟨ms, h, _⟩ := makes_loop ht.1 (fun t h => (ht.2 t h).1) hp plan.length 0 (((plan.length : Int) - 0).toNat + 1) [] (by omega) rfl fuel0 (by simp); exact ⟨ms, h⟩
theorem E_impl_PlanOk {ts : List Tb} {plan : List Stp} (ht : tbsSm ts) (hp : plSm plan) : m_impl_PlanOk ts plan = some (planOk ts plan) := by
  obtain ⟨ms, h⟩ := E_impl_makes ht hp; unfold m_impl_PlanOk; rw [h]; rfl
def holdsB (e : List Pt) (r : Row) : Bool := decide (exprVal r e = yes)
def rowAt (r : Row) (n : Int) : V := r.getD n.toNat v0
def joinR (a b : Rows) (e : List Pt) : Rows := a.flatMap fun r => (b.map (r ++ ·)).filter (holdsB e)
def rowsS (ts : List Tb) (ah : List Rows) (s : Stp) : Rows :=
  if s.Kind = 1 then (ts.getD s.N.toNat tb0).Rows
  else if s.Kind = 2 then (ah.getD s.A.toNat []).filter (holdsB s.E)
  else if s.Kind = 3 then (ah.getD s.A.toNat []).map fun r => s.f_List.map (rowAt r)
  else if s.Kind = 4 then joinR (ah.getD s.A.toNat []) (ah.getD s.B.toNat []) s.E
  else if s.Kind = 5 then ah.getD s.A.toNat [] ++ ah.getD s.B.toNat []
  else if s.Kind = 6 then onceR (ah.getD s.A.toNat [])
  else []
theorem zip_get {α β : Type} : ∀ {a : List α} {b : List β} {p : α × β}, p ∈ a.zip b → ∃ i : Nat, a[i]? = some p.1 ∧ b[i]? = some p.2
  | [], _, _, h => by simp at h
  | _ :: _, [], _, h => by simp at h
  | x :: a, y :: b, p, h => by
    rw [List.zip_cons_cons] at h; rcases List.mem_cons.1 h with rfl | h
    · exact ⟨0, rfl, rfl⟩
    · obtain ⟨i, h1, h2⟩ := zip_get h
      exact ⟨i + 1, by simpa using h1, by simpa using h2⟩
theorem all2_mk {α β : Type} {q : α → β → Bool} {a : List α} {b : List β} (h : ∀ (i : Nat) x y, a[i]? = some x → b[i]? = some y → q x y = true) : all2 q a b = true := by
  unfold all2; rw [List.all_eq_true]; intro p hp; obtain ⟨i, h1, h2⟩ := zip_get hp; exact h i _ _ h1 h2
theorem get_zip {α β : Type} : ∀ {a : List α} {b : List β} {i : Nat} {x : α} {y : β}, a[i]? = some x → b[i]? = some y → (x, y) ∈ a.zip b
  | [], _, _, _, _, h, _ => by simp at h
  | _ :: _, [], _, _, _, _, h => by simp at h
  | u :: a, v :: b, 0, x, y, h1, h2 => by simp at h1 h2; subst h1; subst h2; simp
  | u :: a, v :: b, i + 1, x, y, h1, h2 => by
    rw [List.zip_cons_cons]; exact List.mem_cons_of_mem _ (get_zip (by simpa using h1) (by simpa using h2))
theorem all2_get {α β : Type} {q : α → β → Bool} {a : List α} {b : List β} (h : all2 q a b = true) {i : Nat} {x : α} {y : β} (h1 : a[i]? = some x) (h2 : b[i]? = some y) : q x y = true := by
  unfold all2 at h; rw [List.all_eq_true] at h; exact h (x, y) (get_zip h1 h2)
theorem fits_mk {cs : List Col} {r : Row} (h1 : colsOk cs = true) (h2 : rowOk r = true) (h3 : r.length = cs.length) (h4 : ∀ (i : Nat) v c, r[i]? = some v → cs[i]? = some c → vFit v c = true) : rowFits cs r = true := by
  unfold rowFits; rw [h1, h2, decide_eq_true h3, all2_mk h4]; rfl
theorem rowOk_mk {r : Row} (h : r.length ≤ 4) (h2 : ∀ v ∈ r, vOk v = true) : rowOk r = true := by
  unfold rowOk; rw [decide_eq_true h, List.all_eq_true.2 h2]; rfl
theorem colsOk_mk {cs : List Col} (h : cs.length ≤ 4) (h2 : ∀ c ∈ cs, colOk c = true) : colsOk cs = true := by
  unfold colsOk; rw [decide_eq_true h, List.all_eq_true.2 h2]; rfl
theorem colsOk_all {cs : List Col} (h : colsOk cs = true) : cs.length ≤ 4 ∧ ∀ c ∈ cs, colOk c = true := by
  unfold colsOk at h; simp only [Bool.and_eq_true, decide_eq_true_eq, List.all_eq_true] at h; exact h
theorem colsOk_app {a b : List Col} (ha : colsOk a = true) (hb : colsOk b = true) (h : (a ++ b).length ≤ 4) : colsOk (a ++ b) = true :=
  colsOk_mk h fun c hc => by
    rcases List.mem_append.1 hc with hc | hc
    · exact (colsOk_all ha).2 c hc
    · exact (colsOk_all hb).2 c hc
theorem fits_app {ca cb : List Col} {r q : Row} (h : rowFits ca r = true) (k : rowFits cb q = true) (hl : (ca ++ cb).length ≤ 4) : rowFits (ca ++ cb) (r ++ q) = true := by
  obtain ⟨a1, a2, a3, a4⟩ := fits_get h; obtain ⟨b1, b2, b3, b4⟩ := fits_get k; refine fits_mk (colsOk_app a1 b1 hl) (rowOk_mk (by simp at hl ⊢; omega) fun v hv => ?_) (by simp [a3, b3]) fun i v c hv hc => ?_
  · rcases List.mem_append.1 hv with hv | hv
    · exact (rowOk_all a2).2 v hv
    · exact (rowOk_all b2).2 v hv
  · rw [List.getElem?_append] at hv hc
    rw [a3] at hv
    split at hv
    · rename_i hi
      rw [if_pos hi] at hc; exact a4 i v c hv hc
    · rename_i hi
      rw [if_neg hi] at hc; exact b4 _ v c hv hc
theorem inR_get {α : Type} {l : List α} {n : Int} {d : α} (h : inR l.length n = true) : l[n.toNat]? = some (l.getD n.toNat d) := by
  have h2 := inR_of h; rw [List.getD_eq_getElem?_getD, List.getElem?_eq_getElem h2.2]; rfl
theorem fits_take {cs : List Col} {r : Row} {l : List Int} (h : rowFits cs r = true) (hl : takeOk cs.length l = true) (h4 : l.length ≤ 4) : rowFits (l.map (colAt cs)) (l.map (rowAt r)) = true := by
  obtain ⟨a1, a2, a3, a4⟩ := fits_get h; have hin : ∀ n ∈ l, inR cs.length n = true := by unfold takeOk at hl; exact List.all_eq_true.1 hl
  refine fits_mk (colsOk_mk (by simpa using h4) fun c hc => ?_) (rowOk_mk (by simpa using h4) fun v hv => ?_) (by simp) fun i v c hv hc => ?_
  · obtain ⟨n, hn, rfl⟩ := List.mem_map.1 hc
    exact (colsOk_all a1).2 _ (getD_mem' (hin n hn))
  · obtain ⟨n, hn, rfl⟩ := List.mem_map.1 hv
    exact (rowOk_all a2).2 _ (getD_mem' (by rw [a3]; exact hin n hn))
  · rw [List.getElem?_map] at hv hc
    cases hx : l[i]? with
    | none => rw [hx] at hv; cases hv
    | some n =>
      rw [hx] at hv hc; cases hv; cases hc; have hn := hin n (List.mem_of_getElem? hx); exact a4 n.toNat _ _ (inR_get (by rw [a3]; exact hn)) (inR_get hn)
theorem zipC_get {a b : List Col} {i : Nat} {c : Col} (h : (List.zipWith zipC a b)[i]? = some c) : ∃ x y, a[i]? = some x ∧ b[i]? = some y ∧ c = zipC x y := by
  rw [List.getElem?_zipWith] at h; cases ha : a[i]? with
  | none => rw [ha] at h; simp at h
  | some x =>
    cases hb : b[i]? with
    | none => rw [ha, hb] at h; simp at h
    | some y => rw [ha, hb] at h; simp at h; exact ⟨x, y, rfl, rfl, h.symm⟩
theorem colsOk_zip {a b : List Col} (ha : colsOk a = true) : colsOk (List.zipWith zipC a b) = true := by
  obtain ⟨h1, h2⟩ := colsOk_all ha; refine colsOk_mk (by rw [List.length_zipWith]; omega) fun c hc => ?_; obtain ⟨i, hi⟩ := List.getElem?_of_mem hc; obtain ⟨x, y, hx, _, rfl⟩ := zipC_get hi; exact h2 x (List.mem_of_getElem? hx)
theorem vFit_or {v : V} {k : Int} {a b : Bool} (h : vFit v ⟨k, a⟩ = true) : vFit v ⟨k, a || b⟩ = true ∧ vFit v ⟨k, b || a⟩ = true := by
  unfold vFit at *; simp only [Bool.or_eq_true, Bool.and_eq_true] at *; rcases h with h | ⟨h, h2⟩
  · exact ⟨.inl h, .inl h⟩
  · exact ⟨.inr ⟨h, .inl h2⟩, .inr ⟨h, .inr h2⟩⟩
theorem fits_zip_l {a b : List Col} {r : Row} (h : rowFits a r = true) (hl : a.length = b.length) : rowFits (List.zipWith zipC a b) r = true := by
  obtain ⟨a1, a2, a3, a4⟩ := fits_get h; refine fits_mk (colsOk_zip a1) a2 (by rw [List.length_zipWith, a3]; omega) fun i v c hv hc => ?_; obtain ⟨x, y, hx, hy, rfl⟩ := zipC_get hc; exact (vFit_or (a4 i v x hv hx)).1
theorem fits_zip_r {a b : List Col} {q : Row} (ha : colsOk a = true) (h : rowFits b q = true) (hk : kindsEq a b = true) : rowFits (List.zipWith zipC a b) q = true := by
  obtain ⟨a1, a2, a3, a4⟩ := fits_get h; unfold kindsEq at hk; simp only [Bool.and_eq_true, decide_eq_true_eq] at hk; refine fits_mk (colsOk_zip ha) a2 (by rw [List.length_zipWith, a3]; omega) fun i v c hv hc => ?_; obtain ⟨x, y, hx, hy, rfl⟩ := zipC_get hc; have e := all2_get hk.2 hx hy; unfold sameK at e; have e' : x.Kind = y.Kind := by simpa using e
  unfold zipC; rw [e']; exact (vFit_or (a4 i v y hv hy)).2
def fitR (m : Md) (rs : Rows) : Prop := colsOk m.columns = true ∧ (∀ r ∈ rs, rowFits m.columns r = true) ∧ (rs.length : Int) ≤ m.most
def Lk (ms : List Md) (rs : List Rows) : Prop := ms.length = rs.length ∧ ∀ n : Int, inR ms.length n = true → fitR (ms.getD n.toNat md0) (rs.getD n.toNat [])
theorem onceR_go : ∀ (rs out : Rows), (∀ x, x ∈ rs.foldl (fun out r => if r ∈ out then out else out ++ [r]) out ↔ x ∈ out ∨ x ∈ rs) ∧ (rs.foldl (fun out r => if r ∈ out then out else out ++ [r]) out).length ≤ out.length + rs.length
  | [], out => ⟨by simp, by simp⟩
  | r :: rs, out => by
    rw [List.foldl_cons]; obtain ⟨h1, h2⟩ := onceR_go rs (if r ∈ out then out else out ++ [r]); refine ⟨fun x => ?_, ?_⟩
    · rw [h1]
      split
      · rename_i h
        simp only [List.mem_cons]; constructor
        · rintro (h | h)
          · exact .inl h
          · exact .inr (.inr h)
        · rintro (h | rfl | h)
          · exact .inl h
          · exact .inl (by assumption)
          · exact .inr h
      · simp only [List.mem_append, List.mem_cons]; grind
    · refine Nat.le_trans h2 ?_
      split
      · simp only [List.length_cons]; omega
      · simp only [List.length_append, List.length_cons, List.length_nil]; omega
theorem onceR_mem {rs : Rows} {x : Row} : x ∈ onceR rs ↔ x ∈ rs := by
  have := (onceR_go rs []).1 x; simpa [onceR] using this
theorem onceR_len {rs : Rows} : (onceR rs).length ≤ rs.length := by
  have := (onceR_go rs []).2; simpa [onceR] using this
theorem joinR_len {a b : Rows} {e : List Pt} : (joinR a b e).length ≤ a.length * b.length := by
  unfold joinR
  induction a with
  | nil => simp
  | cons r a ih =>
    rw [List.flatMap_cons, List.length_append, List.length_cons, Nat.succ_mul]; have := List.length_filter_le (holdsB e) (b.map (r ++ ·)); rw [List.length_map] at this; omega
theorem mem_joinR {a b : Rows} {e : List Pt} {x : Row} : x ∈ joinR a b e ↔ ∃ r ∈ a, ∃ q ∈ b, x = r ++ q ∧ holdsB e x = true := by
  unfold joinR; simp only [List.mem_flatMap, List.mem_filter, List.mem_map]; constructor
  · rintro ⟨r, hr, ⟨q, hq, rfl⟩, h⟩; exact ⟨r, hr, q, hq, rfl, h⟩
  · rintro ⟨r, hr, q, hq, rfl, h⟩; exact ⟨r, hr, ⟨q, hq, rfl⟩, h⟩
theorem fit_sm {m : Md} {rs : Rows} (h : fitR m rs) (h3 : m.most ≤ 300) : rsSm rs ∧ rs.length ≤ 300 ∧ ∀ r ∈ rs, r.length ≤ 4 := by
  obtain ⟨h1, h2, h4⟩ := h; refine ⟨⟨by omega, fun r hr => ?_⟩, by omega, fun r hr => ?_⟩
  · have := rowOk_all (fits_get (h2 r hr)).2.1
    refine ⟨by omega, fun v hv => ?_⟩; have := (vN (this.2 v hv)).2; unfold vSm; omega
  · have := rowOk_all (fits_get (h2 r hr)).2.1
    omega
theorem tbsOk_get {ts : List Tb} (h : tbsOk ts = true) {n : Int} (hn : inR ts.length n = true) : fitR ⟨(ts.getD n.toNat tb0).Columns, 6⟩ (ts.getD n.toNat tb0).Rows := by
  unfold tbsOk at h; simp only [Bool.and_eq_true, decide_eq_true_eq, List.all_eq_true] at h; have := h.2 _ (getD_mem' (d := tb0) hn); unfold tbOk rowsOk at this; simp only [Bool.and_eq_true, decide_eq_true_eq, List.all_eq_true] at this; exact ⟨this.1, this.2.2.2, by have := this.2.1; show _ ≤ (6 : Int); omega⟩
theorem makeB_fit {a b m : Md} {x y : Rows} {s : Stp} (ha : fitR a x) (hb : fitR b y) (h : makeB a b s = some m) (h1 : ¬ s.Kind = 1) (h6 : s.Kind ≤ 6 ∧ 1 ≤ s.Kind) :
    fitR m (if s.Kind = 2 then x.filter (holdsB s.E) else if s.Kind = 3 then x.map fun r => s.f_List.map (rowAt r) else if s.Kind = 4 then joinR x y s.E else if s.Kind = 5 then x ++ y else if s.Kind = 6 then onceR x else []) := by
  unfold makeB at h
  by_cases k2 : s.Kind = 2
  · rw [if_pos k2] at h ⊢
    split at h
    · cases h
      exact ⟨ha.1, fun r hr => ha.2.1 r (List.mem_filter.1 hr).1, by have := List.length_filter_le (holdsB s.E) x; have := ha.2.2; omega⟩
    · cases h
  rw [if_neg k2] at h ⊢
  by_cases k3 : s.Kind = 3
  · rw [if_pos k3] at h ⊢
    split at h
    · rename_i ht
      simp only [Bool.and_eq_true, decide_eq_true_eq] at ht; cases h; refine ⟨colsOk_mk (by simpa using ht.2) fun c hc => ?_, fun r hr => ?_, by simpa using ha.2.2⟩
      · obtain ⟨n, hn, rfl⟩ := List.mem_map.1 hc
        have := ht.1; unfold takeOk at this; exact (colsOk_all ha.1).2 _ (getD_mem' (List.all_eq_true.1 this n hn))
      · obtain ⟨r1, hr1, rfl⟩ := List.mem_map.1 hr
        exact fits_take (ha.2.1 r1 hr1) ht.1 ht.2
    · cases h
  rw [if_neg k3] at h ⊢
  by_cases k4 : s.Kind = 4
  · rw [if_pos k4] at h ⊢
    split at h
    · rename_i ht
      simp only [Bool.and_eq_true, decide_eq_true_eq] at ht; cases h; refine ⟨colsOk_app ha.1 hb.1 ht.1, fun r hr => ?_, ?_⟩
      · obtain ⟨r1, hr1, q, hq, rfl, _⟩ := mem_joinR.1 hr
        exact fits_app (ha.2.1 r1 hr1) (hb.2.1 q hq) ht.1
      · have h7 := joinR_len (a := x) (b := y) (e := s.E)
        have h8 := Int.mul_le_mul ha.2.2 hb.2.2 (by omega) (by have := ha.2.2; omega); show ((joinR x y s.E).length : Int) ≤ a.most * b.most; have : ((joinR x y s.E).length : Int) ≤ (x.length : Int) * (y.length : Int) := by exact_mod_cast h7
        omega
    · cases h
  rw [if_neg k4] at h ⊢
  by_cases k5 : s.Kind = 5
  · rw [if_pos k5] at h ⊢
    split at h
    · rename_i ht
      cases h; refine ⟨colsOk_zip ha.1, fun r hr => ?_, by have := ha.2.2; have := hb.2.2; simp; omega⟩
      have hl : a.columns.length = b.columns.length := by
        unfold kindsEq at ht; simp only [Bool.and_eq_true, decide_eq_true_eq] at ht; exact ht.1
      rcases List.mem_append.1 hr with hr | hr
      · exact fits_zip_l (ha.2.1 r hr) hl
      · exact fits_zip_r ha.1 (hb.2.1 r hr) ht
    · cases h
  rw [if_neg k5] at h ⊢; cases h; rw [if_pos (show s.Kind = 6 by omega)]; exact ⟨ha.1, fun r hr => ha.2.1 r (onceR_mem.1 hr), by have := onceR_len (rs := x); have := ha.2.2; omega⟩
theorem makeS_inv {ts : List Tb} {ms : List Md} {s : Stp} {m : Md} (h : makeS ts ms s = some m) : (1 ≤ s.Kind ∧ s.Kind ≤ 6) ∧ ((s.Kind = 1 ∧ inR ts.length s.N = true ∧ m = ⟨(ts.getD s.N.toNat tb0).Columns, 6⟩) ∨
    (¬ s.Kind = 1 ∧ inR ms.length s.A = true ∧ inR ms.length s.B = true ∧ makeB (ms.getD s.A.toNat md0) (ms.getD s.B.toNat md0) s = some m)) := by
  unfold makeS at h
  split at h
  · rename_i hk
    simp only [Bool.and_eq_true, decide_eq_true_eq] at hk; refine ⟨hk.2, ?_⟩
    split at h
    · rename_i k1
      split at h
      · rename_i hi
        cases h; exact .inl ⟨k1, hi, rfl⟩
      · cases h
    · rename_i k1
      split at h
      · rename_i hi
        simp only [Bool.and_eq_true] at hi; exact .inr ⟨k1, hi.1, hi.2, h⟩
      · cases h
  · cases h
theorem makeS_fit {ts : List Tb} {ms : List Md} {rs : List Rows} {s : Stp} {m : Md} (ht : tbsOk ts = true) (hl : Lk ms rs) (h : makeS ts ms s = some m) : fitR m (rowsS ts rs s) := by
  obtain ⟨hk, ⟨k1, hi, rfl⟩ | ⟨k1, hA, hB, hb⟩⟩ := makeS_inv h
  · unfold rowsS
    rw [if_pos k1]; exact tbsOk_get ht hi
  · have := makeB_fit (hl.2 _ hA) (hl.2 _ hB) hb k1 ⟨hk.2, hk.1⟩
    unfold rowsS; rw [if_neg k1]; exact this
theorem E_cloneV {l : Row} (h : l.length ≤ 900000000) : m_impl_clone_impl_Value l = some l := E_clone h
theorem E_taken {r : Row} {l : List Int} (h : takeOk r.length l = true) (hl : l.length ≤ 1100000) : m_impl_taken r l = some (l.map (rowAt r)) := by
  unfold m_impl_taken; have e := scanM (f := rowAt r) (J := fun o => m_impl_taken_j1 o) l (fun n k o => m_impl_taken_l1 n r l (l.length : Int) k o) (fun n k x o hx ho => ?_) (fun n o ho => by rw [m_impl_taken_l1, dnlt, cond_false]) _ fuel0
  · rw [e]
    unfold m_impl_taken_j1; rw [E_cloneV (by simp; omega)]; rfl
  · have hk := lt_of_at hx
    have hi : inR r.length x = true := by unfold takeOk at h; exact List.all_eq_true.1 h x (List.mem_of_getElem? hx)
    rw [m_impl_taken_l1, dlt hk, cond_true, at_of hx, Option.bind_some, getD_in (d := v0) hi, Option.bind_some, app_of (by simp; omega), Option.bind_some, ck1 (by omega), Option.bind_some]; rfl
theorem E_beside {a b : Row} (ha : a.length ≤ 4) (hb : b.length ≤ 4) : m_impl_beside a b = some (a ++ b) := by
  unfold m_impl_beside; rw [E_ConcatV (by omega) (by omega), Option.bind_some, E_cloneV (by simp; omega)]; rfl
theorem app1 {o : Rows} {x : Row} (h : o.length ≤ 1000000) : app? o [x] = some (o ++ [x]) := app_of (by simp; omega)
theorem rows_where {rs : List Rows} {s : Stp} {x : Rows} {cs : List Col} (hx : x.length ≤ 300) (hf : ∀ r ∈ x, rowFits cs r = true) (he : exprKind cs s.E = 3) :
    m_impl_Step_rows_r_l1 rs (((x.length : Int) - 0).toNat + 1) s x (x.length : Int) 0 [] = some (x.filter (holdsB s.E)) := by
  have e := scanMF (f := fun r => if holdsB s.E r = true then some r else none) (J := fun o => some o) x (fun n k o => m_impl_Step_rows_r_l1 rs n s x (x.length : Int) k o) (fun n k r o hr ho => ?_) (fun n o ho => by rw [m_impl_Step_rows_r_l1, dnlt, cond_false]; rfl) _ fuel0
  · rw [e]
    congr 1
    rw [← List.filterMap_eq_filter]; rfl
  · have hk := lt_of_at hr
    rw [m_impl_Step_rows_r_l1, dlt hk, cond_true, at_of hr, Option.bind_some, E_impl_exprHolds (by rw [he]; decide) (hf r (List.mem_of_getElem? hr)), Option.bind_some]; unfold m_impl_Step_rows_r_j1; show (bif holdsB s.E r then _ else _) = _; cases holdsB s.E r with
    | true => rw [cond_true, app1 (by omega), Option.bind_some, ck1 (by omega), Option.bind_some]; rfl
    | false => rw [cond_false, ck1 (by omega), Option.bind_some]; simp
theorem rows_take {rs : List Rows} {s : Stp} {x : Rows} {n : Nat} (hx : x.length ≤ 300) (hf : ∀ r ∈ x, r.length = n) (ht : takeOk n s.f_List = true) (hl : s.f_List.length ≤ 1100000) :
    m_impl_Step_rows_r_l2 rs (((x.length : Int) - 0).toNat + 1) s x (x.length : Int) 0 [] = some (x.map fun r => s.f_List.map (rowAt r)) := by
  have e := scanM (f := fun r => s.f_List.map (rowAt r)) (J := fun o => some o) x (fun n k o => m_impl_Step_rows_r_l2 rs n s x (x.length : Int) k o) (fun n k r o hr ho => ?_) (fun n o ho => by rw [m_impl_Step_rows_r_l2, dnlt, cond_false]; rfl) _ fuel0
  · exact e
  · have hk := lt_of_at hr
    have := hf r (List.mem_of_getElem? hr); rw [m_impl_Step_rows_r_l2, dlt hk, cond_true, at_of hr, Option.bind_some, E_taken (by rw [this]; exact ht) hl, Option.bind_some, app1 (by omega), Option.bind_some, ck1 (by omega), Option.bind_some]
theorem join_inner {rs : List Rows} {k3 : Stp → Rows → Int → Int → Rows → Option Rows} {s : Stp} {r : Row} {x y : Rows} {j lx : Int} {o : Rows} {ca cb : List Col} (hy : y.length ≤ 300) (ho : o.length ≤ 100000) (hr : rowFits ca r = true) (hf : ∀ q ∈ y, rowFits cb q = true) (hl : (ca ++ cb).length ≤ 4) (he : exprKind (ca ++ cb) s.E = 3) :
    m_impl_Step_rows_r_l4 rs k3 (((y.length : Int) - 0).toNat + 1) s r x lx j y (y.length : Int) 0 o = m_impl_Step_rows_r_j3 rs k3 s x lx j (o ++ (y.map (r ++ ·)).filter (holdsB s.E)) := by
  have e := scanF (f := fun (o : Rows) q => if holdsB s.E (r ++ q) = true then o ++ [r ++ q] else o) (J := fun o => m_impl_Step_rows_r_j3 rs k3 s x lx j o) (fun k o => o.length ≤ 100000 + k) y (fun n k o => m_impl_Step_rows_r_l4 rs k3 n s r x lx j y (y.length : Int) k o) (fun n k q o hq ho => ?_) (fun n o ho => by rw [m_impl_Step_rows_r_l4, dnlt, cond_false]) _ fuel0 o (by omega)
  · rw [e.1]
    congr 1
    clear e hy hf ho
    induction y generalizing o with
    | nil => simp
    | cons q y ih =>
      rw [List.foldl_cons, ih, List.map_cons]
      by_cases h : holdsB s.E (r ++ q) = true
      · rw [if_pos h, List.filter_cons_of_pos h, List.append_assoc]; rfl
      · rw [if_neg h, List.filter_cons_of_neg h]
  · have hk := lt_of_at hq
    have h1 := (rowOk_all (fits_get hr).2.1).1; have h2 := (rowOk_all (fits_get (hf q (List.mem_of_getElem? hq))).2.1).1; refine ⟨?_, by show (if _ then _ else _ : Rows).length ≤ _; split <;> (try rw [List.length_append, List.length_singleton]) <;> omega⟩; rw [m_impl_Step_rows_r_l4, dlt hk, cond_true, at_of hq, Option.bind_some, E_beside h1 h2, Option.bind_some, E_impl_exprHolds (by rw [he]; decide) (fits_app hr (hf q (List.mem_of_getElem? hq)) hl), Option.bind_some]; unfold m_impl_Step_rows_r_j2; show (bif holdsB s.E (r ++ q) then _ else _) = _; cases holdsB s.E (r ++ q) with
    | true => rw [cond_true, app1 (by omega), Option.bind_some, ck1 (by omega), Option.bind_some]; rfl
    | false => rw [cond_false, ck1 (by omega), Option.bind_some]; simp
theorem rows_join {rs : List Rows} {s : Stp} {x y : Rows} {ca cb : List Col} (hB : at? rs s.B = some y) (hx : x.length ≤ 300) (hy : y.length ≤ 300) (hr : ∀ r ∈ x, rowFits ca r = true) (hf : ∀ q ∈ y, rowFits cb q = true) (hl : (ca ++ cb).length ≤ 4) (he : exprKind (ca ++ cb) s.E = 3) :
    m_impl_Step_rows_r_l3 rs (((x.length : Int) - 0).toNat + 1) s x (x.length : Int) 0 [] = some (joinR x y s.E) := by
  have e := scanF (f := fun (o : Rows) r => o ++ (y.map (r ++ ·)).filter (holdsB s.E)) (J := fun o => some o) (fun k o => o.length ≤ 300 * k) x (fun n k o => m_impl_Step_rows_r_l3 rs n s x (x.length : Int) k o) (fun n k r o hk ho => ?_) (fun n o ho => by rw [m_impl_Step_rows_r_l3, dnlt, cond_false]; rfl) _ fuel0 [] (by simp)
  · rw [e.1]
    congr 1
    unfold joinR
    have go : ∀ (x o : Rows), x.foldl (fun (o : Rows) r => o ++ (y.map (r ++ ·)).filter (holdsB s.E)) o = o ++ x.flatMap fun r => (y.map (r ++ ·)).filter (holdsB s.E) := by
      intro x
      induction x with
      | nil => simp
      | cons r x ih => intro o; rw [List.foldl_cons, ih, List.flatMap_cons, List.append_assoc]
    rw [go]; rfl
  · have hlt := lt_of_at hk
    refine ⟨?_, ?_⟩
    · rw [m_impl_Step_rows_r_l3, dlt hlt, cond_true, at_of hk, Option.bind_some, hB, Option.bind_some, Option.bind_some, join_inner hy (by omega) (hr r (List.mem_of_getElem? hk)) hf hl he]
      unfold m_impl_Step_rows_r_j3; rw [ck1 (by omega), Option.bind_some]
    · have h1 := List.length_filter_le (holdsB s.E) (y.map (r ++ ·))
      rw [List.length_map] at h1; show (o ++ _).length ≤ _; rw [List.length_append]; omega
theorem E_Step_rows {ts : List Tb} {ms : List Md} {rs : List Rows} {s : Stp} {m : Md} (ht : tbsOk ts = true) (hl : Lk ms rs) (hm : ∀ m ∈ ms, m.most ≤ 300) (h : makeS ts ms s = some m) (hs : stSm s) : m_impl_Step_rows_r s ts rs = some (rowsS ts rs s) := by
  obtain ⟨hk, ⟨k1, hi, rfl⟩ | ⟨k1, hA, hB, hb⟩⟩ := makeS_inv h
  · unfold m_impl_Step_rows_r rowsS
    rw [beqE k1, cond_true, if_pos k1, getD_in (d := tb0) hi]; rfl
  · unfold m_impl_Step_rows_r rowsS
    have fA := hl.2 _ hA; have fB := hl.2 _ hB; have mA := hm _ (getD_mem' (d := md0) hA); have mB := hm _ (getD_mem' (d := md0) hB); have eA := getD_in (l := rs) (d := []) (n := s.A) (by rw [← hl.1]; exact hA); have eB := getD_in (l := rs) (d := []) (n := s.B) (by rw [← hl.1]; exact hB); rw [beqF k1, cond_false, if_neg k1, eA, eB]; revert hb fA fB mA mB eA eB; generalize ms.getD s.A.toNat md0 = a; generalize ms.getD s.B.toNat md0 = b; generalize rs.getD s.A.toNat [] = x; generalize rs.getD s.B.toNat [] = y; intro hb fA fB mA mB eA eB; have sA := fit_sm fA mA; have sB := fit_sm fB mB; simp only [Option.bind_some]; unfold makeB at hb
    by_cases k2 : s.Kind = 2
    · rw [if_pos k2] at hb ⊢
      rw [beqE k2, cond_true]
      split at hb
      · rename_i he
        exact rows_where sA.2.1 fA.2.1 he
      · cases hb
    rw [if_neg k2] at hb ⊢; rw [beqF k2, cond_false]
    by_cases k3 : s.Kind = 3
    · rw [if_pos k3] at hb ⊢
      rw [beqE k3, cond_true]
      split at hb
      · rename_i he
        simp only [Bool.and_eq_true, decide_eq_true_eq] at he; exact rows_take sA.2.1 (fun r hr => (fits_get (fA.2.1 r hr)).2.2.1) he.1 hs.2
      · cases hb
    rw [if_neg k3] at hb ⊢; rw [beqF k3, cond_false]
    by_cases k4 : s.Kind = 4
    · rw [if_pos k4] at hb ⊢
      rw [beqE k4, cond_true]
      split at hb
      · rename_i he
        simp only [Bool.and_eq_true, decide_eq_true_eq] at he; exact rows_join eB sA.2.1 sB.2.1 fA.2.1 fB.2.1 he.1 he.2
      · cases hb
    rw [if_neg k4] at hb ⊢; rw [beqF k4, cond_false]
    by_cases k5 : s.Kind = 5
    · rw [if_pos k5, beqE k5, cond_true, E_Concat2 (by omega) (by omega)]; rfl
    rw [if_neg k5, beqF k5, cond_false, if_pos (show s.Kind = 6 by omega), beqE (show s.Kind = 6 by omega), cond_true, E_impl_RowsOnce sA.1]; rfl
def rowsGo (ts : List Tb) : List Stp → List Rows → List Rows
  | [], ah => ah
  | s :: ps, ah => rowsGo ts ps (ah ++ [rowsS ts ah s])
def lastR (l : List Rows) : Rows := l.getD (l.length - 1) []
theorem lk_snoc {ms : List Md} {rs : List Rows} {m : Md} {x : Rows} (h : Lk ms rs) (hf : fitR m x) : Lk (ms ++ [m]) (rs ++ [x]) := by
  refine ⟨by rw [List.length_append, List.length_append, h.1]; rfl, fun n hn => ?_⟩; have h2 := inR_of hn; rw [List.length_append, List.length_singleton] at h2
  by_cases hlt : n.toNat < ms.length
  · have := h.2 n (by unfold inR; simp; omega)
    rw [List.getD_eq_getElem?_getD, List.getD_eq_getElem?_getD] at this ⊢; rw [List.getElem?_append_left hlt, List.getElem?_append_left (by rw [← h.1]; exact hlt)]; exact this
  · have e : n.toNat = ms.length := by omega
    have h3 : (ms ++ [m])[ms.length]? = some m := by rw [List.getElem?_append_right (Nat.le_refl _), Nat.sub_self]; rfl
    have h4 : (rs ++ [x])[ms.length]? = some x := by rw [h.1, List.getElem?_append_right (Nat.le_refl _), Nat.sub_self]; rfl
    rw [List.getD_eq_getElem?_getD, List.getD_eq_getElem?_getD, e, h3, h4]; exact hf
theorem planRows_loop {ts : List Tb} {plan : List Stp} (ht : tbsOk ts = true) (hp : plSm plan) : ∀ (d k n : Nat) (ms mf : List Md) (rs : List Rows), k + d = plan.length → ms.length = k → d < n → Lk ms rs → (∀ m ∈ ms, m.most ≤ 300) → makeGo ts (plan.drop k) ms = some mf →
    m_impl_planRows_l1 n ts plan (plan.length : Int) (k : Int) rs = m_impl_planRows_j1 (rowsGo ts (plan.drop k) rs) ∧ Lk mf (rowsGo ts (plan.drop k) rs) ∧ mf.length = plan.length ∧ ∀ m ∈ mf, m.most ≤ 300 := by
  intro d
  induction d with
  | zero =>
    intro k n ms mf rs hk hl hd hL hm h; obtain ⟨n, rfl⟩ : ∃ m, n = m + 1 := ⟨n - 1, by omega⟩; have : k = plan.length := by omega
    subst this; rw [List.drop_of_length_le (Nat.le_refl _)] at h ⊢; cases h; rw [m_impl_planRows_l1, dnlt, cond_false]; exact ⟨rfl, hL, hl, hm⟩
  | succ d ih =>
    intro k n ms mf rs hk hl hd hL hm h; obtain ⟨n, rfl⟩ : ∃ m, n = m + 1 := ⟨n - 1, by omega⟩; have hlt : k < plan.length := by omega
    have hx : plan[k]? = some plan[k] := by simp [hlt]
    have hb := hp.1; have hst := hp.2 _ (List.getElem_mem hlt); rw [List.drop_eq_getElem_cons hlt] at h ⊢; rw [makeGo] at h; cases hq : makeS ts ms plan[k] with
    | none => rw [hq] at h; cases h
    | some m =>
      rw [hq, Option.bind_some] at h
      split at h
      · rename_i h3
        rw [m_impl_planRows_l1, dlt hlt, cond_true, at_of hx, Option.bind_some, ltE', E_Step_rows ht hL hm hq hst, Option.bind_some, app_of (by have := hL.1; simp; omega), Option.bind_some, ck1 (by omega), Option.bind_some]
        have := ih (k + 1) n (ms ++ [m]) mf (rs ++ [rowsS ts rs plan[k]]) (by omega) (by simp [hl]) (by omega) (lk_snoc hL (makeS_fit ht hL hq)) (by
          intro x hx; rcases List.mem_append.1 hx with hx | hx
          · exact hm x hx
          · rw [List.mem_singleton.1 hx]; exact h3) h
        rw [show ((k + 1 : Nat) : Int) = (k : Int) + 1 by omega] at this; exact this
      · cases h
def planRows (ts : List Tb) (plan : List Stp) : Rows := if planOk ts plan = true then lastR (rowsGo ts plan []) else []
theorem planOk_inv {ts : List Tb} {plan : List Stp} (h : planOk ts plan = true) : tbsOk ts = true ∧ 1 ≤ plan.length ∧ plan.length ≤ 6 ∧ ∃ mf, makeGo ts plan [] = some mf := by
  unfold planOk at h; simp only [Bool.and_eq_true, decide_eq_true_eq] at h; obtain ⟨h1, ⟨h2, h3⟩, h4⟩ := h; exact ⟨h1, by omega, by omega, Option.isSome_iff_exists.1 h4⟩
theorem lk_nil : Lk [] [] := ⟨rfl, fun n hn => by have := (inR_of hn).2; simp at this⟩
theorem E_impl_planRows {ts : List Tb} {plan : List Stp} (hp : plSm plan) (h : planOk ts plan = true) : m_impl_planRows ts plan = some (lastR (rowsGo ts plan [])) ∧ rsSm (lastR (rowsGo ts plan [])) ∧ (lastR (rowsGo ts plan [])).length ≤ 300 ∧ ∀ r ∈ lastR (rowsGo ts plan []), r.length ≤ 4 := by
  obtain ⟨h1, h2, h3, mf, h4⟩ := planOk_inv h; obtain ⟨e1, e2, e3, e4⟩ := planRows_loop h1 hp plan.length 0 (((plan.length : Int) - 0).toNat + 1) [] mf [] (by omega) rfl fuel0 lk_nil (by simp) h4; rw [List.drop_zero] at e1 e2; have hl := e2.1; have hi : inR (rowsGo ts plan []).length ((rowsGo ts plan []).length - 1 : Int) = true := by unfold inR; simp; omega
  have hf := e2.2 ((rowsGo ts plan []).length - 1 : Int) (by rw [hl]; exact hi); have et : ((rowsGo ts plan []).length - 1 : Int).toNat = (rowsGo ts plan []).length - 1 := by omega
  have h5 : (mf.getD ((rowsGo ts plan []).length - 1 : Int).toNat md0).most ≤ 300 := e4 _ (getD_mem' (by rw [hl]; exact hi)); have hs := fit_sm hf h5; rw [et] at hs; refine ⟨?_, hs.1, hs.2.1, hs.2.2⟩; unfold m_impl_planRows; have e1' := e1; rw [show (((0 : Nat) : Int)) = 0 from rfl] at e1'; rw [e1']; unfold m_impl_planRows_j1; rw [ckI_of (by omega) (by omega), Option.bind_some, getD_in (d := []) hi, Option.bind_some, Option.bind_some, et]; rw [E_rowsCopy (by have := hs.2.1; omega) (fun r hr => by have := hs.2.2 r hr; omega)]; rfl
theorem E_impl_PlanRows {ts : List Tb} {plan : List Stp} (ht : tbsSm ts) (hp : plSm plan) : m_impl_PlanRows ts plan = some (planRows ts plan) ∧ rsSm (planRows ts plan) ∧ (planRows ts plan).length ≤ 300 ∧ ∀ r ∈ planRows ts plan, r.length ≤ 4 := by
  unfold m_impl_PlanRows planRows; rw [E_impl_PlanOk ht hp, Option.bind_some]
  by_cases h : planOk ts plan = true
  · obtain ⟨h1, h2⟩ := E_impl_planRows hp h
    rw [h, Bool.not_true, cond_false, h1, Option.bind_some, if_pos rfl]; exact ⟨rfl, h2⟩
  · have h' : planOk ts plan = false := by simpa using h
    rw [if_neg h, h']; exact ⟨rfl, ⟨by simp, by simp⟩, by simp, by simp⟩
theorem odd0 {o : Rd} : m_Pspec_l20Rd_odd o 0 = some (false, o) := by
  unfold m_Pspec_l20Rd_odd m_Pspec_l20Rd_odd_j1; rw [show decide ((0 : Int) > 0) = false from rfl, cond_false]
def vLk (c : Col) (v : V) : Prop := vOk v = true ∧ vFit v c = true ∧ v.S.size ≤ 20
theorem vLk_0 {c : Col} (h : c.Empty = true) : vLk c v0 := ⟨vOk_v0, by unfold vFit; rw [h]; simp [show v0.Kind = 0 from rfl], by decide⟩
theorem vLk_n {c : Col} (h : c.Kind = 1) {n : Int} (h1 : 0 ≤ n ∧ n ≤ 9999) : vLk c ⟨1, n, ⟨#[]⟩⟩ := ⟨by rw [vOk_num, decide_eq_true h1.2, decide_eq_true (show -9999 ≤ n by omega)]; rfl, by unfold vFit; rw [decide_eq_true h.symm]; rfl, by show ByteArray.size ⟨#[]⟩ ≤ 20; decide⟩
theorem vLk_b {c : Col} (h : c.Kind = 3) {n : Int} (h1 : n = 0 ∨ n = 1) : vLk c ⟨3, n, ⟨#[]⟩⟩ := ⟨by rcases h1 with rfl | rfl <;> decide, by unfold vFit; rw [decide_eq_true h.symm]; rfl, by show ByteArray.size ⟨#[]⟩ ≤ 20; decide⟩
theorem vLk_s {c : Col} (h : c.Kind = 2) {s : ByteArray} (h1 : vOk ⟨2, 0, s⟩ = true) (h2 : s.size ≤ 20) : vLk c ⟨2, 0, s⟩ := ⟨h1, by unfold vFit; rw [decide_eq_true h.symm]; rfl, h2⟩
theorem D_Like {o : Rd} {c : Col} (hc : colOk c = true) (ho : 0 ≤ o.p ∧ o.p ≤ 1000000000 - 100) : Tot (m_spec_l20Like o c) fun r => vLk c r.1 ∧ o.p ≤ r.2.p ∧ r.2.p ≤ o.p + 3 := by
  unfold m_spec_l20Like; have hk : 1 ≤ c.Kind ∧ c.Kind ≤ 3 := by unfold colOk at hc; simpa using hc
  have j1 : ∀ (b : Bool) (q : Rd) (v : V), (b = true → c.Empty = true) → o.p ≤ q.p → q.p ≤ o.p + 1 → Tot (m_spec_l20Like_j1 c b q v) fun r => vLk c r.1 ∧ o.p ≤ r.2.p ∧ r.2.p ≤ o.p + 3 := by
    intro b q v hb h1 h2; unfold m_spec_l20Like_j1; refine Tot.bif (fun h => Tot.lt (Tot.ret ⟨vLk_0 (hb h), h1, by simp only; omega⟩)) (fun _ => Tot.bif (fun h => ?_) (fun hn1 => Tot.bif (fun h => ?_) (fun hn2 => ?_)))
    · refine Tot.bind (T_pick (by omega)) (fun r hr => Tot.lt (Tot.ret ⟨vLk_n (by simpa using h) (by omega), by simp only; omega, by simp only; omega⟩))
    · refine Tot.bind (T_pick (by omega)) (fun r hr => Tot.at (by omega) (by simp only [List.length_cons, List.length_nil]; omega) (fun y hy => Tot.lt (Tot.ret ⟨?_, by simp only; omega, by simp only; omega⟩)))
      simp only [List.mem_cons, List.mem_nil_iff, or_false] at hy; rcases hy with rfl | rfl | rfl | rfl <;> exact vLk_s (by simpa using h) (by decide) (by decide)
    · refine Tot.bind (T_pick (by omega)) (fun r hr => Tot.lt (Tot.ret ⟨vLk_b ?_ (by omega), by simp only; omega, by simp only; omega⟩))
      have a1 : c.Kind ≠ 1 := by simpa using hn1
      have a2 : c.Kind ≠ 2 := by simpa using hn2
      omega
  refine Tot.bif (fun h => Tot.bind (T_pick (by omega)) (fun r hr => j1 _ _ _ (fun _ => h) (by omega) (by omega))) (fun _ => j1 _ _ _ (fun h => by cases h) (by omega) (by omega))
theorem D_Fit {o : Rd} {cs : List Col} (ho : 0 ≤ o.p ∧ o.p ≤ 1000000000 - 1000) (hc : colsOk cs = true) : Tot (m_spec_l20Fit o cs 0) fun r => rowFits cs r.1 = true ∧ o.p ≤ r.2.p ∧ r.2.p ≤ o.p + 80 := by
  obtain ⟨hc1, hc2⟩ := colsOk_all hc; unfold m_spec_l20Fit; refine Tot.up (cs.length : Int) (fun f t (s : Rd × Row) => m_spec_l20Fit_l1 f cs 0 t s.1 s.2) (fun t s => o.p ≤ s.1.p ∧ s.1.p ≤ o.p + 3 * t ∧ (s.2.length : Int) = t ∧ (∀ v ∈ s.2, vOk v = true) ∧ ∀ (i : Nat) v c, s.2[i]? = some v → cs[i]? = some c → vFit v c = true) (fun f s h => ?_) (fun f t s h0 ht h ih => ?_) _ 0 (o, []) (by omega) (by omega) (by omega) ⟨by simp only; omega, by simp only; omega, by simp, by simp, by simp⟩
  · obtain ⟨g1, g2, g3, g4, g5⟩ := h
    rw [m_spec_l20Fit_l1, show decide ((cs.length : Int) < cs.length) = false by simp, cond_false]; unfold m_spec_l20Fit_j1 m_spec_l20Fit_j2; rw [odd0, Option.bind_some, cond_false]; exact Tot.ret ⟨fits_mk hc (rowOk_mk (by simp only; omega) g4) (by simp only; omega) g5, by simp only; omega, by simp only; omega⟩
  · obtain ⟨g1, g2, g3, g4, g5⟩ := h
    obtain ⟨y, hx⟩ : ∃ y, cs[t.toNat]? = some y := ⟨_, List.getElem?_eq_getElem (by omega)⟩; rw [m_spec_l20Fit_l1, decide_eq_true ht, cond_true]; refine Tot.eq (at_z h0 hx) (Tot.bind (D_Like (hc2 _ (List.mem_of_getElem? hx)) (by omega)) (fun x hx' => Tot.app (by simp only [List.length_cons, List.length_nil]; omega) (Tot.ck (by omega) (by omega) ?_))); refine ih (x.2, s.2 ++ [x.1]) ⟨by simp only; omega, by simp only; omega, by first | (simp; done) | (simp; omega), ?_, ?_⟩
    · intro v hv
      rcases List.mem_append.1 hv with hv | hv
      · exact g4 v hv
      · rw [List.mem_singleton.1 hv]; exact hx'.1.1
    · intro i v c hv hcv
      simp only at hv; rw [List.getElem?_append] at hv
      split at hv
      · exact g5 i v c hv hcv
      · rename_i hi
        have e : i = s.2.length := by
          rcases Nat.lt_or_ge i (s.2.length + 1) with h | h
          · omega
          · rw [List.getElem?_eq_none (by simp; omega)] at hv; cases hv
        subst e; rw [Nat.sub_self] at hv; cases hv; have e2 : t.toNat = s.2.length := by omega
        rw [e2] at hx; rw [hx] at hcv; cases hcv; exact hx'.1.2.1
theorem D_Bag {o : Rd} {cs : List Col} (ho : 0 ≤ o.p ∧ o.p ≤ 1000000000 - 10000) (hc : colsOk cs = true) : Tot (m_spec_l20Bag o cs 0) fun r => (r.1.length ≤ 6 ∧ ∀ x ∈ r.1, rowFits cs x = true) ∧ o.p ≤ r.2.p ∧ r.2.p ≤ o.p + 600 := by
  unfold m_spec_l20Bag; refine Tot.bind (T_pick (by omega)) (fun r hr => ?_); refine Tot.down (fun f t (s : Rd × Rows) => m_spec_l20Bag_l1 f cs 0 t s.1 s.2) (fun t s => t ≤ r.1 ∧ o.p ≤ s.1.p ∧ s.1.p + 90 * t ≤ o.p + 1 + 90 * r.1 ∧ (s.2.length : Int) + t = r.1 ∧ ∀ x ∈ s.2, rowFits cs x = true) (fun f s h => ?_) (fun f t s ht h ih => ?_) _ r.1 (r.2, []) (by omega) (by omega) ⟨by omega, by simp only; omega, by simp only; omega, by simp, by simp⟩
  · obtain ⟨g1, g2, g3, g4, g5⟩ := h
    rw [m_spec_l20Bag_l1, show decide ((0 : Int) > 0) = false from rfl, cond_false]; exact Tot.ret ⟨⟨by simp only; omega, g5⟩, by simp only; omega, by simp only; omega⟩
  · obtain ⟨g1, g2, g3, g4, g5⟩ := h
    rw [m_spec_l20Bag_l1, decide_eq_true (show t > 0 by omega), cond_true]
    have j2 : ∀ (q : Rd) (x : Row), s.1.p ≤ q.p → q.p ≤ s.1.p + 90 → rowFits cs x = true → Tot (m_spec_l20Bag_j2 (m_spec_l20Bag_l1 f) cs 0 t q (s.2 ++ [x])) fun r => (r.1.length ≤ 6 ∧ ∀ x ∈ r.1, rowFits cs x = true) ∧ o.p ≤ r.2.p ∧ r.2.p ≤ o.p + 600 := by
      intro q x h1 h2 h3; unfold m_spec_l20Bag_j2; refine Tot.ck (by omega) (by omega) ?_; refine ih (q, s.2 ++ [x]) ⟨by omega, by simp only; omega, by simp only; omega, by first | (simp; done) | (simp; omega), ?_⟩; intro c hc; simp only [List.mem_append, List.mem_cons, List.mem_nil_iff, or_false] at hc; rcases hc with hc | rfl
      · exact g5 c hc
      · exact h3
    have j1 : ∀ (b : Bool) (q : Rd), s.1.p ≤ q.p → q.p ≤ s.1.p + 2 → (b = true → 0 < s.2.length) → Tot (m_spec_l20Bag_j1 (m_spec_l20Bag_l1 f) cs 0 t b q s.2) fun r => (r.1.length ≤ 6 ∧ ∀ x ∈ r.1, rowFits cs x = true) ∧ o.p ≤ r.2.p ∧ r.2.p ≤ o.p + 600 := by
      intro b q h1 h2 h3; unfold m_spec_l20Bag_j1; refine Tot.bif (fun hb => ?_) (fun _ => ?_)
      · have := h3 hb
        refine Tot.bind (T_pick (by omega)) (fun x hx => Tot.at (by omega) (by omega) (fun _ _ => Tot.at (by omega) (by omega) (fun y hy => ?_))); have hy' := g5 y hy; have hl := (rowOk_all (fits_get hy').2.1).1; refine Tot.eq (E_l3Own (by omega)) (Tot.app (by simp only [List.length_cons, List.length_nil]; omega) (j2 _ _ (by omega) (by omega) hy'))
      · refine Tot.bind (D_Fit (by omega) hc) (fun x hx => Tot.app (by simp only [List.length_cons, List.length_nil]; omega) (j2 _ _ (by omega) (by omega) hx.1))
    refine Tot.bif (fun h3 => ?_) (fun _ => j1 _ _ (by omega) (by omega) (by intro e; cases e)); simp only [gt_iff_lt, decide_eq_true_eq] at h3; refine Tot.bind (T_pick (by omega)) (fun x hx => j1 _ _ (by omega) (by omega) (fun _ => by omega))
theorem tbOk_mk {cs : List Col} {rs : Rows} (hc : colsOk cs = true) (h6 : rs.length ≤ 6) (h : ∀ r ∈ rs, rowFits cs r = true) : tbOk ⟨cs, rs⟩ = true := by
  unfold tbOk rowsOk; simp only; rw [hc, decide_eq_true h6, List.all_eq_true.2 h]; rfl
theorem tbOk_all {t : Tb} (h : tbOk t = true) : colsOk t.Columns = true ∧ t.Rows.length ≤ 6 ∧ ∀ r ∈ t.Rows, rowFits t.Columns r = true := by
  unfold tbOk rowsOk at h; simp only [Bool.and_eq_true, decide_eq_true_eq, List.all_eq_true] at h; exact ⟨h.1, h.2.1, h.2.2.2⟩
def lk (cs : List Col) (k : Int) (p : Pt) : Prop := pSz p ∧ ∀ st, kStep cs st p = some (st ++ [k])
theorem kStep_put {cs : List Col} {st : List Int} {p : Pt} {k : Int} (h1 : tells cs p = true) (h2 : takesN p = 0) (h3 : kindOf cs p [] = (k, true)) : kStep cs st p = some (st ++ [k]) := by
  unfold kStep; rw [h2, Nat.sub_zero, List.drop_length, h3, if_pos ⟨h1, Nat.zero_le _, rfl⟩, List.take_length]
theorem lk_val {cs : List Col} {k : Int} {v : V} (hk : 1 ≤ k ∧ k ≤ 3) (h : vLk ⟨k, false⟩ v) : lk cs k ⟨1, 0, v⟩ := by
  obtain ⟨h1, h2, h3⟩ := h; have hv : v.Kind = k := by unfold vFit at h2; simpa using h2
  refine ⟨h3, fun st => kStep_put ?_ rfl ?_⟩
  · unfold tells
    rw [if_pos rfl, h1, decide_eq_false (p := v.Kind = 0) (by omega)]; rfl
  · unfold kindOf
    rw [if_pos rfl]; show (v.Kind, true) = _; rw [hv]
theorem lk_col {cs : List Col} {k i : Int} (h : ∃ c, 0 ≤ i ∧ cs[i.toNat]? = some c ∧ c.Kind = k) : lk cs k ⟨2, i, ⟨0, 0, ⟨#[]⟩⟩⟩ := by
  obtain ⟨c, h0, h1, h2⟩ := h
  have hl : i.toNat < cs.length := by
    rcases Nat.lt_or_ge i.toNat cs.length with h | h
    · exact h
    · rw [List.getElem?_eq_none h] at h1; cases h1
  refine ⟨pSz_0, fun st => kStep_put ?_ rfl ?_⟩
  · unfold tells
    rw [if_neg (show ¬ (2 : Int) = 1 by decide), if_pos rfl, decide_eq_true h0, decide_eq_true (show i ≤ (cs.length : Int) - 1 by omega), decide_eq_true (show (⟨0, 0, ⟨#[]⟩⟩ : V) = v0 from rfl)]; rfl
  · unfold kindOf
    rw [if_neg (show ¬ (2 : Int) = 1 by decide), if_pos rfl]; show ((cs.getD i.toNat ⟨0, false⟩).Kind, true) = _; rw [getD_of h1, h2]
theorem tells_cmp {cs : List Col} {n : Int} (h : 1 ≤ n ∧ n ≤ 4) : tells cs ⟨4, n, ⟨0, 0, ⟨#[]⟩⟩⟩ = true := by
  unfold tells; rw [if_neg (show ¬ (4 : Int) = 1 by decide), if_neg (show ¬ (4 : Int) = 2 by decide), if_pos rfl, decide_eq_true h.1, decide_eq_true h.2, decide_eq_true (show (⟨0, 0, ⟨#[]⟩⟩ : V) = v0 from rfl)]; rfl
def tb1 (t : Tb) : Prop := tbOk t = true ∧ t.Columns.length = 1
def stS (n : Int) : Stp := ⟨1, 0, 0, n, [], []⟩
theorem inR_of_get {α : Type} {l : List α} {n : Int} {x : α} (h0 : 0 ≤ n) (h : l[n.toNat]? = some x) : inR l.length n = true := by
  have : n.toNat < l.length := by
    rcases Nat.lt_or_ge n.toNat l.length with h1 | h1
    · exact h1
    · rw [List.getElem?_eq_none h1] at h; cases h
  unfold inR; simp; omega
theorem mk_scan {ts : List Tb} {ah : List Md} {n : Int} {A : Tb} (h0 : 0 ≤ n) (h : ts[n.toNat]? = some A) : makeS ts ah (stS n) = some ⟨A.Columns, 6⟩ := by
  unfold makeS; rw [if_pos (show (plainS (stS n) && (decide (1 ≤ (stS n).Kind) && decide ((stS n).Kind ≤ 6))) = true from rfl), if_pos (show (stS n).Kind = 1 from rfl)]; show (if inR ts.length n = true then _ else _) = _; rw [if_pos (inR_of_get h0 h)]; show some (⟨(ts.getD n.toNat tb0).Columns, 6⟩ : Md) = _; rw [getD_of h]
theorem rows_scan {ts : List Tb} {rs : List Rows} {n : Int} {A : Tb} (h : ts[n.toNat]? = some A) : rowsS ts rs (stS n) = A.Rows := by
  unfold rowsS; rw [if_pos (show (stS n).Kind = 1 from rfl)]; show (ts.getD n.toNat tb0).Rows = _; rw [getD_of h]
theorem mk_two {ts : List Tb} {ah : List Md} {s : Stp} {a b : Md} (hp : (plainS s && (decide (1 ≤ s.Kind) && decide (s.Kind ≤ 6))) = true) (h1 : ¬ s.Kind = 1) (hA0 : 0 ≤ s.A) (hA : ah[s.A.toNat]? = some a) (hB0 : 0 ≤ s.B) (hB : ah[s.B.toNat]? = some b) : makeS ts ah s = makeB a b s := by
  unfold makeS; rw [if_pos hp, if_neg h1, inR_of_get hA0 hA, inR_of_get hB0 hB, if_pos (show (true && true) = true from rfl), getD_of hA, getD_of hB]
theorem stSm_0 {s : Stp} (h : s.E = []) (h2 : s.f_List.length ≤ 100) : stSm s := ⟨by rw [h]; exact ⟨by simp, by simp⟩, by omega⟩
theorem plSm_of {l : List Stp} (hl : l.length ≤ 100) (h : ∀ s ∈ l, stSm s) : plSm l := ⟨by omega, h⟩
theorem beg_tabs {ts : List Tb} (h3 : ts.length ≤ 3) (h : ∀ t ∈ ts, tb1 t) : tbsOk ts = true ∧ tbsSm ts := by
  refine ⟨?_, by omega, fun t ht => ?_⟩
  · unfold tbsOk
    rw [decide_eq_true h3, List.all_eq_true.2 fun t ht => (h t ht).1]; rfl
  · obtain ⟨a1, a2, a3⟩ := tbOk_all (h t ht).1
    refine ⟨by have := (h t ht).2; omega, by omega, fun r hr => ?_⟩; have := rowOk_all (fits_get (a3 r hr)).2.1; refine ⟨by omega, fun v hv => ?_⟩; have := (vN (this.2 v hv)).2; unfold vSm; omega
theorem perm_flat_app {α β : Type} (g h : α → List β) : ∀ l : List α, (l.flatMap fun x => g x ++ h x).Perm (l.flatMap g ++ l.flatMap h)
  | [] => by simp
  | x :: l => by
    rw [List.flatMap_cons, List.flatMap_cons, List.flatMap_cons, List.append_assoc, List.append_assoc]; refine List.Perm.append_left _ ?_; refine ((perm_flat_app g h l).append_left _).trans ?_; rw [← List.append_assoc, ← List.append_assoc]; exact List.Perm.append_right _ List.perm_append_comm
theorem perm_flat_swap {α β γ : Type} (f : α → β → List γ) (b : List β) : ∀ a : List α, (a.flatMap fun x => b.flatMap fun y => f x y).Perm (b.flatMap fun y => a.flatMap fun x => f x y)
  | [] => by
    simp only [List.flatMap_nil]; rw [show (b.flatMap fun _ => ([] : List γ)) = [] by induction b <;> simp_all]
  | x :: a => by
    simp only [List.flatMap_cons]; exact ((perm_flat_swap f b a).append_left _).trans (perm_flat_app _ _ b).symm
theorem filter_map_flat {α β : Type} (p : β → Bool) (f : α → β) : ∀ l : List α, (l.map f).filter p = l.flatMap fun x => if p (f x) = true then [f x] else []
  | [] => rfl
  | x :: l => by
    rw [List.map_cons, List.flatMap_cons, ← filter_map_flat p f l]
    by_cases h : p (f x) = true
    · rw [List.filter_cons_of_pos h, if_pos h]; rfl
    · rw [List.filter_cons_of_neg h, if_neg h]; rfl
theorem flat_congr {α β : Type} {f g : α → List β} : ∀ {l : List α}, (∀ x ∈ l, f x = g x) → l.flatMap f = l.flatMap g
  | [], _ => rfl
  | x :: l, h => by rw [List.flatMap_cons, List.flatMap_cons, h x List.mem_cons_self, flat_congr fun y hy => h y (List.mem_cons_of_mem _ hy)]
theorem fits_1 {c : Col} {r : Row} (h : rowFits [c] r = true) : ∃ v, r = [v] := by
  have := (fits_get h).2.2.1
  match r, this with
  | [v], _ => exact ⟨v, rfl⟩
def parts (r : Row) (b : Rows) (e : List Pt) : Rows := (b.map (r ++ ·)).filter (holdsB e)
theorem fits_rsSm {cs : List Col} {rs : Rows} (h : rs.length ≤ 400000000) (hf : ∀ r ∈ rs, rowFits cs r = true) : rsSm rs := by
  refine ⟨h, fun r hr => ?_⟩; have := rowOk_all (fits_get (hf r hr)).2.1; refine ⟨by omega, fun v hv => ?_⟩; have := (vN (this.2 v hv)).2; unfold vSm; omega
theorem E_kept {a : Rows} {p : Row → Option Bool} {q : Row → Bool} (h : a.length ≤ 1000) (hl : ∀ r ∈ a, r.length ≤ 4) (hp : ∀ r ∈ a, p r = some (q r)) : m_impl_kept a p = some (a.filter q) := by
  unfold m_impl_kept; have e := scanMF (f := fun r => if q r = true then some r else none) (J := fun o => m_impl_kept_j2 p o) a (fun n k o => m_impl_kept_l1 p n a (a.length : Int) k o) (fun n k r o hr ho => ?_) (fun n o ho => by rw [m_impl_kept_l1, dnlt, cond_false]) _ fuel0
  · rw [e]
    unfold m_impl_kept_j2; have ef : a.filterMap (fun r => if q r = true then some r else none) = a.filter q := by rw [← List.filterMap_eq_filter]; rfl
    have := List.length_filter_le q a; rw [ef, E_rowsCopy (by omega) (fun r hr => by have := hl r (List.mem_filter.1 hr).1; omega)]; rfl
  · have hk := lt_of_at hr
    rw [m_impl_kept_l1, dlt hk, cond_true, at_of hr, Option.bind_some, hp r (List.mem_of_getElem? hr), Option.bind_some]; unfold m_impl_kept_j1; cases q r with
    | true => rw [cond_true, app1 (by omega), Option.bind_some, ck1 (by omega), Option.bind_some]; rfl
    | false => rw [cond_false, ck1 (by omega), Option.bind_some]; simp
theorem one_fits {c : Col} {r : Row} (h : rowFits [c] r = true) : r.length = 1 := (fits_get h).2.2.1
def belowN (cuts : List Int) (n : Int) : Nat := (cuts.filter fun x => decide (x ≤ n)).length
theorem E_below {cuts : List Int} {n : Int} (h : cuts.length ≤ 1000) : m_impl_below cuts n = some (belowN cuts n : Int) := by
  unfold m_impl_below; rw [L_slices_Clone_Lint_int (by omega), Option.bind_some, L_slices_DeleteFunc_Lint_int (p := fun x => m_impl_below_1 x n) (q := fun x => decide (x > n)) (by omega) (fun x _ => rfl), Option.bind_some]; unfold belowN
  congr 4
  funext x
  rw [Bool.eq_iff_iff]; simp
theorem below_le (cuts : List Int) (n : Int) : belowN cuts n ≤ cuts.length := List.length_filter_le _ _
theorem below_mono {cuts : List Int} {m n : Int} (h : m ≤ n) : belowN cuts m ≤ belowN cuts n := by
  unfold belowN
  induction cuts with
  | nil => simp
  | cons x l ih =>
    by_cases h1 : x ≤ m
    · rw [List.filter_cons_of_pos (by simpa using h1), List.filter_cons_of_pos (by simp; omega)]; simpa using ih
    · rw [List.filter_cons_of_neg (by simpa using h1)]
      by_cases h2 : x ≤ n
      · rw [List.filter_cons_of_pos (by simpa using h2)]; simp only [List.length_cons]; omega
      · rw [List.filter_cons_of_neg (by simpa using h2)]; exact ih
def risP (l : List Int) : Prop := l.length ≤ 4 ∧ (∀ x ∈ l, -9999 ≤ x ∧ x ≤ 9999) ∧ ∀ (k : Nat) x y, l[k]? = some x → l[k + 1]? = some y → x < y
theorem ris_loop {l : List Int} (h : risP l) : ∀ (d k n : Nat), k + d = l.length → d < n → m_impl_rising_l1 n l (-9999) 9999 l (l.length : Int) (k : Int) = some true := by
  intro d
  induction d with
  | zero =>
    intro k n hk hd; obtain ⟨n, rfl⟩ : ∃ q, n = q + 1 := ⟨n - 1, by omega⟩; have : k = l.length := by omega
    subst this; rw [m_impl_rising_l1, dnlt]; rfl
  | succ d ih =>
    intro k n hk hd; obtain ⟨n, rfl⟩ : ∃ q, n = q + 1 := ⟨n - 1, by omega⟩; have hlt : k < l.length := by omega
    have hl := h.1; obtain ⟨x, hx⟩ : ∃ x, l[k]? = some x := ⟨_, List.getElem?_eq_getElem hlt⟩; have hb := h.2.1 x (List.mem_of_getElem? hx)
    have nxt : m_impl_rising_j1 (m_impl_rising_l1 n) l (-9999) 9999 l (l.length : Int) (k : Int) false = some true := by
      unfold m_impl_rising_j1; rw [cond_false, ck1 (by omega), Option.bind_some, show ((k : Int) + 1) = ((k + 1 : Nat) : Int) by omega]; exact ih (k + 1) n (by omega) (by omega)
    rw [m_impl_rising_l1, dlt hlt, cond_true, at_of hx, Option.bind_some, E_between, Option.bind_some, decide_eq_true hb.1, decide_eq_true hb.2, Bool.and_self, Bool.not_true, cond_false]
    by_cases hk0 : k = 0
    · subst hk0
      exact nxt
    · obtain ⟨j, rfl⟩ : ∃ j, k = j + 1 := ⟨k - 1, by omega⟩
      obtain ⟨y, hy⟩ : ∃ y, l[j]? = some y := ⟨_, List.getElem?_eq_getElem (by omega)⟩; have hlt' := h.2.2 j y x hy hx; rw [decide_eq_true (show (((j + 1 : Nat) : Int)) > 0 by omega), cond_true, ckI_of (by omega) (by omega), Option.bind_some, show (((j + 1 : Nat) : Int) - 1) = (j : Int) by omega, at_of hy, Option.bind_some, decide_eq_false (show ¬ y ≥ x by omega)]; exact nxt
theorem E_CutsOk {l : List Int} (h : risP l) : m_impl_CutsOk l = some true := by
  unfold m_impl_CutsOk m_impl_CutsOk_j1 m_impl_rising; rw [decide_eq_true (show (l.length : Int) ≤ 4 by have := h.1; omega), cond_true]; have e := ris_loop h l.length 0 (((l.length : Int) - 0).toNat + 1) (by omega) fuel0; rw [show (((0 : Nat) : Int)) = 0 from rfl] at e; rw [e]; rfl
theorem D_Cuts {o : Rd} (ho : 0 ≤ o.p ∧ o.p ≤ 100000000) : Tot (m_spec_l20Cuts o 0) fun r => risP r.1 ∧ o.p ≤ r.2.p ∧ r.2.p ≤ o.p + 20 := by
  unfold m_spec_l20Cuts; refine Tot.bind (T_pick (by omega)) (fun a ha => Tot.ck (by omega) (by omega) (Tot.bind (T_pick (by omega)) (fun b hb => ?_)))
  have key : ∀ (n : Nat) (t x : Int) (q : Rd) (l : List Int), 0 ≤ t → t < n → (l.length : Int) + t = b.1 → (-1 ≤ x ∧ x + 2 * t ≤ 12) → o.p ≤ q.p → q.p + t ≤ o.p + 10 → (∀ y ∈ l, -1 ≤ y ∧ y < x) → (∀ (k : Nat) u v, l[k]? = some u → l[k + 1]? = some v → u < v) → Tot (m_spec_l20Cuts_l1 n 0 x t q l) fun r => risP r.1 ∧ o.p ≤ r.2.p ∧ r.2.p ≤ o.p + 20 := by
    intro n
    induction n with
    | zero => intro t x q l h1 h2; omega
    | succ n ih =>
      intro t x q l h1 h2 h3 h4 h5 h6 h7 h8; rw [m_spec_l20Cuts_l1]
      by_cases ht : t > 0
      · rw [decide_eq_true ht, cond_true]
        refine Tot.app (by simp only [List.length_cons, List.length_nil]; omega) (Tot.ck (by omega) (by omega) (Tot.bind (T_pick (by omega)) (fun c hc => Tot.ck (by omega) (by omega) (Tot.ck (by omega) (by omega) ?_)))); refine ih (t - 1) (x + 1 + c.1) c.2 (l ++ [x]) (by omega) (by omega) (by simp; omega) (by omega) (by omega) (by omega) ?_ ?_
        · intro y hy
          rcases List.mem_append.1 hy with hy | hy
          · have := h7 y hy; omega
          · rw [List.mem_singleton.1 hy]; omega
        · intro k u v hu hv
          rw [List.getElem?_append] at hv
          split at hv
          · rename_i hk
            rw [List.getElem?_append_left (by omega)] at hu; exact h8 k u v hu hv
          · rename_i hk
            have hv' : v = x := by
              rcases Nat.lt_or_ge (k + 1 - l.length) 1 with h | h
              · rw [show k + 1 - l.length = 0 by omega] at hv; cases hv; rfl
              · rw [List.getElem?_eq_none (by simpa using h)] at hv; cases hv
            have hkl : k + 1 - l.length < 1 := by
              rcases Nat.lt_or_ge (k + 1 - l.length) 1 with h | h
              · exact h
              · rw [List.getElem?_eq_none (by simpa using h)] at hv; cases hv
            have hku : k < l.length := by omega
            rw [List.getElem?_append_left hku] at hu; rw [hv']; exact (h7 u (List.mem_of_getElem? hu)).2
      · rw [decide_eq_false ht, cond_false]
        unfold m_spec_l20Cuts_j1 m_spec_l20Cuts_j2; rw [odd0, Option.bind_some, cond_false]; exact Tot.ret ⟨⟨by simp only; omega, fun y hy => by have := h7 y hy; omega, h8⟩, by simp only; omega, by simp only; omega⟩
  exact key _ b.1 (a.1 - 1) b.2 [] (by omega) (by omega) (by simp) (by omega) (by omega) (by omega) (by simp) (by simp)
def prOk (r : Rows × List Int × Int × Int) : Prop := (r.1.length ≤ 6 ∧ ∀ x ∈ r.1, rowFits [⟨1, true⟩] x = true) ∧ risP r.2.1 ∧ (1 ≤ r.2.2.1 ∧ r.2.2.1 ≤ 4) ∧ (-1 ≤ r.2.2.2 ∧ r.2.2.2 ≤ 10)
theorem T_DrawPruned {l : List UInt8} : Tot (m_spec_DrawPruned l) prOk := by
  unfold m_spec_DrawPruned; refine Tot.bind T_l20Open (fun o ho => Tot.bind (D_Bag (by omega) (by decide)) (fun a ha => Tot.bind (D_Cuts (by omega)) (fun c hc => Tot.bind (T_pick (by omega)) (fun k hk => Tot.ck (by omega) (by omega) (Tot.bind (T_pick (by omega)) (fun n hn => Tot.ck (by omega) (by omega) (Tot.ret ⟨ha.1, hc.1, by simp only; omega, by simp only; omega⟩)))))))
theorem tyV_sz1 {v : V} {k : Int} (h : tyV v k) : v.S.size ≤ 1000 := (vN h.1).2
def partN (cuts : List Int) (v : V) : Nat := if v.Kind = 0 then 0 else belowN cuts v.N
theorem E_PartOf {cuts : List Int} {v : V} (hc : risP cuts) (hv : tyV v 1) : m_impl_PartOf cuts v = some (partN cuts v : Int) := by
  unfold m_impl_PartOf; rw [E_CutsOk hc, Option.bind_some, Bool.not_true, cond_false, E_Value_ok (by have := tyV_sz1 hv; omega), Option.bind_some, hv.1]; unfold m_impl_PartOf_j1 partN; rw [Bool.not_true, cond_false]
  by_cases h0 : v.Kind = 0
  · rw [beqE h0, cond_true, if_pos h0]; rfl
  · rw [beqF h0, cond_false, beqE (hv.2.resolve_right h0), cond_true, if_neg h0, E_below (by have := hc.1; omega)]; rfl
theorem part_le {cuts : List Int} {v : V} : partN cuts v ≤ cuts.length := by
  unfold partN
  split
  · exact Nat.zero_le _
  · exact below_le _ _
def pt1 (cuts : List Int) (r : Row) : Nat := partN cuts (rowAt r 0)
theorem one_ty {r : Row} (h : rowFits [⟨1, true⟩] r = true) : ∃ v, r = [v] ∧ tyV v 1 := by
  obtain ⟨v, rfl⟩ := fits_1 h; obtain ⟨f1, f2, f3, f4⟩ := fits_get h; have := f4 0 v ⟨1, true⟩ rfl rfl; unfold vFit at this; rw [Bool.or_eq_true, decide_eq_true_eq, Bool.and_eq_true, decide_eq_true_eq] at this; exact ⟨v, rfl, (rowOk_all f2).2 v (by simp), this.imp id (fun h => h.1)⟩
theorem E_partsOk {rows : Rows} {cuts : List Int} (h6 : rows.length ≤ 6) (hf : ∀ r ∈ rows, rowFits [⟨1, true⟩] r = true) (hc : risP cuts) : m_impl_partsOk [⟨1, true⟩] rows 0 cuts = some true := by
  unfold m_impl_partsOk m_impl_partsOk_j1; have hcs : colsOk [⟨1, true⟩] = true := by decide
  rw [E_impl_ColumnsOk (by simp), Option.bind_some, hcs, cond_true, E_impl_RowsOk (by simp) (fits_rsSm (by omega) hf), Option.bind_some, show rowsOk [⟨1, true⟩] rows = true by unfold rowsOk; rw [hcs, List.all_eq_true.2 hf]; rfl, cond_true]; rw [show ckI ((([⟨1, true⟩] : List Col).length : Int) - 1) = some 0 from rfl, Option.bind_some, E_between, Option.bind_some, show (decide ((0 : Int) ≤ 0) && decide ((0 : Int) ≤ 0)) = true from rfl, cond_true, show at? ([⟨1, true⟩] : List Col) 0 = some ⟨1, true⟩ from rfl, Option.bind_some, show (((⟨1, true⟩ : Col).Kind) == (1 : Int)) = true from rfl, cond_true, E_CutsOk hc]; rfl
def distr (cuts : List Int) (rows : Rows) : List Rows := (List.range (cuts.length + 1)).map fun k => rows.filter fun r => decide (pt1 cuts r = k)
theorem distr_get {cuts : List Int} {rows : Rows} {k : Nat} (h : k ≤ cuts.length) : (distr cuts rows)[k]? = some (rows.filter fun r => decide (pt1 cuts r = k)) := by
  unfold distr; rw [List.getElem?_map, List.getElem?_range (by omega)]; rfl
theorem distr_snoc {cuts : List Int} {rows : Rows} {r : Row} {k : Nat} (hk : k ≤ cuts.length) (h : pt1 cuts r = k) : (distr cuts rows).set k ((rows.filter fun r => decide (pt1 cuts r = k)) ++ [r]) = distr cuts (rows ++ [r]) := by
  apply List.ext_getElem?
  intro i; rw [List.getElem?_set]; have hl : (distr cuts rows).length = cuts.length + 1 := by unfold distr; simp
  by_cases e : k = i
  · subst e
    rw [if_pos rfl, if_pos (by omega), distr_get hk, List.filter_append, List.filter_cons_of_pos (by simpa using h)]; rfl
  · rw [if_neg e]
    by_cases hi : i ≤ cuts.length
    · rw [distr_get hi, distr_get hi, List.filter_append, List.filter_cons_of_neg (by simp; omega), List.filter_nil, List.append_nil]
    · rw [List.getElem?_eq_none (by omega), List.getElem?_eq_none (by unfold distr; simp; omega)]
theorem distr_loop {cuts : List Int} {rows : Rows} (h6 : rows.length ≤ 6) (hf : ∀ r ∈ rows, rowFits [⟨1, true⟩] r = true) (hc : risP cuts) : ∀ (d k n : Nat), k + d = rows.length → d < n → m_impl_partsOf_l1 n 0 cuts rows (rows.length : Int) (k : Int) (distr cuts (rows.take k)) = m_impl_partsOf_j1 (distr cuts rows) := by
  intro d
  induction d with
  | zero =>
    intro k n hk hd; obtain ⟨n, rfl⟩ : ∃ q, n = q + 1 := ⟨n - 1, by omega⟩; have : k = rows.length := by omega
    subst this; rw [m_impl_partsOf_l1, dnlt, cond_false, List.take_length]
  | succ d ih =>
    intro k n hk hd; obtain ⟨n, rfl⟩ : ∃ q, n = q + 1 := ⟨n - 1, by omega⟩; have hlt : k < rows.length := by omega
    obtain ⟨r, hr⟩ : ∃ r, rows[k]? = some r := ⟨_, List.getElem?_eq_getElem hlt⟩; obtain ⟨v, rfl, hv⟩ := one_ty (hf r (List.mem_of_getElem? hr)); have hp : pt1 cuts [v] = partN cuts v := rfl; have hle := part_le (cuts := cuts) (v := v); have hg := distr_get (cuts := cuts) (rows := rows.take k) hle; have hfl := List.length_filter_le (fun r => decide (pt1 cuts r = partN cuts v)) (rows.take k); rw [List.length_take] at hfl; rw [m_impl_partsOf_l1, dlt hlt, cond_true, at_of hr, Option.bind_some, show at? ([v] : Row) 0 = some v from rfl, Option.bind_some, E_PartOf hc hv, Option.bind_some, at_of hg, Option.bind_some, Option.bind_some, app1 (by omega), Option.bind_some, Option.bind_some, ck1 (by omega), Option.bind_some, Int.toNat_natCast, distr_snoc hle hp]; have ht : rows.take k ++ [[v]] = rows.take (k + 1) := by rw [List.take_add_one, hr]; rfl
    rw [ht, show ((k : Int) + 1) = ((k + 1 : Nat) : Int) by omega]; exact ih (k + 1) n (by omega) (by omega)
theorem copies_loop {L : List Rows} (hL : L.length ≤ 100) (h : ∀ l ∈ L, l.length ≤ 100 ∧ ∀ r ∈ l, r.length ≤ 100) : ∀ (d k n : Nat), k + d = L.length → d < n → m_impl_partsOf_l2 n (L.length : Int) (k : Int) L = some L := by
  intro d
  induction d with
  | zero =>
    intro k n hk hd; obtain ⟨n, rfl⟩ : ∃ q, n = q + 1 := ⟨n - 1, by omega⟩; have : k = L.length := by omega
    subst this; rw [m_impl_partsOf_l2, dnlt]; rfl
  | succ d ih =>
    intro k n hk hd; obtain ⟨n, rfl⟩ : ∃ q, n = q + 1 := ⟨n - 1, by omega⟩; have hlt : k < L.length := by omega
    obtain ⟨l, hl⟩ : ∃ l, L[k]? = some l := ⟨_, List.getElem?_eq_getElem hlt⟩; have hb := h l (List.mem_of_getElem? hl)
    have hset : L.set k l = L := by
      apply List.ext_getElem?
      intro i; rw [List.getElem?_set]
      by_cases e : k = i
      · subst e; rw [if_pos rfl, if_pos hlt, hl]
      · rw [if_neg e]
    rw [m_impl_partsOf_l2, dlt hlt, cond_true, at_of hl, Option.bind_some, Option.bind_some, E_rowsCopy (by omega) (fun r hr => by have := hb.2 r hr; omega), Option.bind_some, Option.bind_some, ck1 (by omega), Option.bind_some, Int.toNat_natCast, hset, show ((k : Int) + 1) = ((k + 1 : Nat) : Int) by omega]; exact ih (k + 1) n (by omega) (by omega)
theorem distr_nil (cuts : List Int) : distr cuts [] = List.replicate (cuts.length + 1) [] := by
  unfold distr
  apply List.ext_getElem?
  intro i
  by_cases h : i < cuts.length + 1
  · rw [List.getElem?_map, List.getElem?_range h, List.getElem?_replicate, if_pos h]; rfl
  · rw [List.getElem?_eq_none (by simp; omega), List.getElem?_eq_none (by simp; omega)]
theorem E_partsOf {rows : Rows} {cuts : List Int} (h6 : rows.length ≤ 6) (hf : ∀ r ∈ rows, rowFits [⟨1, true⟩] r = true) (hc : risP cuts) : m_impl_partsOf rows 0 cuts = some (distr cuts rows) := by
  have hc1 := hc.1; unfold m_impl_partsOf; rw [ckI_of (by omega) (by omega), Option.bind_some, show mk2? ((cuts.length : Int) + 1) ((cuts.length : Int) + 1) ([] : Rows) = some (distr cuts []) by unfold mk2?; rw [if_pos (by omega), distr_nil, show ((cuts.length : Int) + 1).toNat = cuts.length + 1 by omega], Option.bind_some]; have := distr_loop h6 hf hc rows.length 0 (((rows.length : Int) - 0).toNat + 1) (by omega) fuel0; rw [List.take_zero] at this; rw [show (((0 : Nat) : Int)) = 0 from rfl] at this; rw [this]; unfold m_impl_partsOf_j1
  exact copies_loop (by unfold distr; simp; omega) (fun l hl => by
    unfold distr at hl; obtain ⟨k, _, rfl⟩ := List.mem_map.1 hl; have := List.length_filter_le (fun r => decide (pt1 cuts r = k)) rows; refine ⟨by omega, fun r hr => ?_⟩; have := one_fits (hf r (List.mem_filter.1 hr).1); omega) _ 0 _ (by omega) fuel0
def seqI : Int → Nat → List Int
  | _, 0 => []
  | a, m + 1 => a :: seqI (a + 1) m
theorem seqI_mem : ∀ {m : Nat} {a x : Int}, x ∈ seqI a m ↔ a ≤ x ∧ x < a + m
  | 0, a, x => by first | (simp [seqI]; done) | (simp [seqI]; omega)
  | m + 1, a, x => by rw [seqI, List.mem_cons, seqI_mem (m := m)]; omega
theorem seqI_nodup : ∀ (m : Nat) (a : Int), (seqI a m).Nodup
  | 0, a => List.nodup_nil
  | m + 1, a => by
    rw [seqI, List.nodup_cons]; exact ⟨fun h => by have := seqI_mem.1 h; omega, seqI_nodup m _⟩
theorem seqI_len : ∀ (m : Nat) (a : Int), (seqI a m).length = m
  | 0, _ => rfl
  | m + 1, a => by rw [seqI, List.length_cons, seqI_len]
theorem E_cloneI {l : List Int} (h : l.length ≤ 900000000) : m_impl_clone_int l = some l := by
  unfold m_impl_clone_int; cases l with
  | nil => rfl
  | cons x l =>
    rw [beqF (by simp; omega), cond_false]; unfold appN? m_slices_Clip_Lint_int_o; rw [if_pos (by simp at h ⊢; omega)]; rfl
theorem pf_loop : ∀ (m n : Nat) (a : Int) (o : List Int), m < n → (-10 ≤ a ∧ a + m ≤ 100) → o.length + m ≤ 1000 → m_impl_PartsFor_l1 n (a + m - 1) a o = some (o ++ seqI a m) := by
  intro m
  induction m with
  | zero =>
    intro n a o hn ha ho; obtain ⟨n, rfl⟩ : ∃ q, n = q + 1 := ⟨n - 1, by omega⟩; rw [m_impl_PartsFor_l1, decide_eq_false (show ¬ a ≤ a + ((0 : Nat) : Int) - 1 by omega), cond_false]; unfold m_impl_PartsFor_j3; rw [E_cloneI (by omega)]; simp [seqI]
  | succ m ih =>
    intro n a o hn ha ho; obtain ⟨n, rfl⟩ : ∃ q, n = q + 1 := ⟨n - 1, by omega⟩; rw [m_impl_PartsFor_l1, decide_eq_true (show a ≤ a + ((m + 1 : Nat) : Int) - 1 by omega), cond_true, app_of (by simp; omega), Option.bind_some, ckI_of (by omega) (by omega), Option.bind_some]; have := ih n (a + 1) (o ++ [a]) (by omega) (by omega) (by simp; omega); rw [show a + 1 + (m : Int) - 1 = a + ((m + 1 : Nat) : Int) - 1 by omega] at this; rw [this, seqI, List.append_assoc]; rfl
theorem pf_j2 {a : Int} {b : Int} (ha : 0 ≤ a) (hb : a ≤ b) (h : b ≤ 10) : m_impl_PartsFor_j2 a b = some (seqI a (b - a).toNat.succ) := by
  unfold m_impl_PartsFor_j2; have := pf_loop (b - a).toNat.succ ((b - a).toNat + 2) a [] (by omega) (by omega) (by simp; omega); rw [show a + (((b - a).toNat.succ : Nat) : Int) - 1 = b by omega] at this; rw [this, List.nil_append]
def num (n : Int) : V := ⟨1, n, ⟨#[]⟩⟩
theorem cmpS_nil : cmpS ⟨#[]⟩ ⟨#[]⟩ = 0 := (TO_str.eq0 _ _).2 rfl
theorem vOf_yes' {t : Int} : vOf t = yes ↔ t = 1 := by
  unfold vOf yes; constructor
  · intro h
    split at h
    · cases h; rfl
    · cases h
  · rintro rfl; rfl
theorem vOrd_num (m n : Int) : vOrd (num m) (num n) = cmpI m n := by
  unfold vOrd num; rw [show cmpI (1 : Int) 1 = 0 from rfl, cmpS_nil]; unfold cmpI
  by_cases h : m < n
  · rw [if_pos h]; rfl
  · rw [if_neg h]
    by_cases h2 : n < m
    · rw [if_pos h2]; rfl
    · rw [if_neg h2]; rfl
theorem num_of {v : V} (h : vOk v = true) (hk : v.Kind = 1) : v = num v.N ∧ -9999 ≤ v.N ∧ v.N ≤ 9999 := by
  obtain ⟨k, m, s⟩ := v; simp only at hk; subst hk; unfold vOk at h; rw [if_neg (show ¬ (1 : Int) = 0 by decide), if_pos rfl] at h; simp only [Bool.and_eq_true, decide_eq_true_eq] at h; rw [h.1]; exact ⟨rfl, h.2⟩
theorem cmp_part {cuts : List Int} {v : V} {kind n : Int} (hv : tyV v 1) (hn : -9999 ≤ n ∧ n ≤ 9999) (h : cmpT kind v (num n) = 1) : (kind = 1 → partN cuts v = belowN cuts n) ∧ (kind = 3 → partN cuts v ≤ belowN cuts (n - 1)) ∧ (kind = 4 → partN cuts v ≤ belowN cuts n) := by
  unfold cmpT at h
  split at h
  · by_cases h0 : v.Kind = 0
    · rw [if_pos (.inl h0)] at h; cases h
    · obtain ⟨e, b1, b2⟩ := num_of hv.1 (hv.2.resolve_right h0)
      rw [if_neg (fun hx => hx.elim h0 (fun h1 => by cases h1)), if_pos (show v.Kind = (num n).Kind from hv.2.resolve_right h0)] at h; have hp : partN cuts v = belowN cuts v.N := by unfold partN; rw [if_neg h0]
      rw [hp]; rw [e, vOrd_num] at h
      have hr : cmpR kind (cmpI v.N n) = true := by
        cases hc : cmpR kind (cmpI v.N n) with
        | true => rfl
        | false => rw [hc, if_neg (by decide)] at h; cases h
      unfold cmpR cmpI at hr; refine ⟨fun hk => ?_, fun hk => ?_, fun hk => ?_⟩
      · subst hk
        rw [if_pos rfl] at hr
        have : v.N = n := by
          have hr := of_decide_eq_true hr
          split at hr
          · cases hr
          · split at hr
            · cases hr
            · omega
        rw [this]
      · subst hk
        rw [if_neg (by decide), if_neg (by decide), if_pos rfl] at hr; have hr := of_decide_eq_true hr; refine below_mono ?_
        split at hr
        · omega
        · split at hr
          · exact absurd hr (by decide)
          · exact absurd hr (by decide)
      · subst hk
        rw [if_neg (by decide), if_neg (by decide), if_neg (by decide)] at hr; have hr := of_decide_eq_true hr; refine below_mono ?_
        split at hr
        · omega
        · split at hr
          · exact absurd hr (by decide)
          · omega
  · cases h
theorem E_PartsFor {cuts : List Int} {kind n : Int} (hc : risP cuts) (hk : 1 ≤ kind ∧ kind ≤ 4) (hn : -1 ≤ n ∧ n ≤ 10) :
    ∃ ks, m_impl_PartsFor cuts kind n = some ks ∧ ks.Nodup ∧ ks.length ≤ 20 ∧ (∀ k ∈ ks, 0 ≤ k ∧ k ≤ cuts.length) ∧ ∀ v, tyV v 1 → cmpT kind v (num n) = 1 → ((partN cuts v : Nat) : Int) ∈ ks := by
  have hl := hc.1; have hb := below_le cuts n; have hb1 := below_le cuts (n - 1); unfold m_impl_PartsFor; rw [E_CutsOk hc, Option.bind_some, Bool.not_true, cond_false, show m_impl_numOk n = some true by unfold m_impl_numOk; rw [E_between, decide_eq_true (show (-9999 : Int) ≤ n by omega), decide_eq_true (show n ≤ (9999 : Int) by omega)]; rfl, Option.bind_some]; unfold m_impl_PartsFor_j1; rw [Bool.not_true, cond_false, E_below (by omega)]
  have fin : ∀ (a b : Int), 0 ≤ a → a ≤ b → b ≤ cuts.length → (∀ v, tyV v 1 → cmpT kind v (num n) = 1 → a ≤ ((partN cuts v : Nat) : Int) ∧ ((partN cuts v : Nat) : Int) ≤ b) → ∃ ks, m_impl_PartsFor_j2 a b = some ks ∧ ks.Nodup ∧ ks.length ≤ 20 ∧ (∀ k ∈ ks, 0 ≤ k ∧ k ≤ cuts.length) ∧ ∀ v, tyV v 1 → cmpT kind v (num n) = 1 → ((partN cuts v : Nat) : Int) ∈ ks := by
    intro a b h1 h2 h3 h4; refine ⟨_, pf_j2 h1 h2 (by omega), seqI_nodup _ _, by rw [seqI_len]; omega, fun k hk => ?_, fun v hv hx => ?_⟩
    · have := seqI_mem.1 hk; omega
    · have := h4 v hv hx
      rw [seqI_mem]; omega
  have hk' : kind = 1 ∨ kind = 2 ∨ kind = 3 ∨ kind = 4 := by omega
  rcases hk' with rfl | rfl | rfl | rfl
  · rw [show ((1 : Int) == 1) = true from rfl, cond_true, Option.bind_some, Option.bind_some]
    refine fin (belowN cuts n) (belowN cuts n) (by omega) (Int.le_refl _) (by omega) fun v hv hx => ?_; have := (cmp_part (cuts := cuts) hv (by omega) hx).1 rfl; omega
  · rw [show ((2 : Int) == 1) = false from rfl, cond_false, show ((2 : Int) == 2) = true from rfl, cond_true]
    refine fin 0 (cuts.length : Int) (by omega) (by omega) (by omega) fun v hv hx => ?_; have := part_le (cuts := cuts) (v := v); omega
  · rw [show ((3 : Int) == 1) = false from rfl, cond_false, show ((3 : Int) == 2) = false from rfl, cond_false, show ((3 : Int) == 3) = true from rfl, cond_true]
    rw [ckI_of (by omega) (by omega), Option.bind_some, E_below (by omega), Option.bind_some]; refine fin 0 (belowN cuts (n - 1)) (by omega) (by omega) (by omega) fun v hv hx => ?_; have := (cmp_part (cuts := cuts) hv (by omega) hx).2.1 rfl; omega
  · rw [show ((4 : Int) == 1) = false from rfl, cond_false, show ((4 : Int) == 2) = false from rfl, cond_false, show ((4 : Int) == 3) = false from rfl, cond_false, show ((4 : Int) == 4) = true from rfl, cond_true, Option.bind_some]
    refine fin 0 (belowN cuts n) (by omega) (by omega) (by omega) fun v hv hx => ?_; have := (cmp_part (cuts := cuts) hv (by omega) hx).2.2 rfl; omega
def suits (kind n : Int) (r : Row) : Bool := decide (cmpT kind (rowAt r 0) (num n) = 1)
theorem parts_perm {ks : List Int} {f : Row → Int} {p : Row → Bool} (hn : ks.Nodup) {l : Rows} (h : ∀ r ∈ l, p r = true → f r ∈ ks) : (ks.flatMap fun k => (l.filter fun r => decide (f r = k)).filter p).Perm (l.filter p) := by
  have e1 : (ks.flatMap fun k => (l.filter fun r => decide (f r = k)).filter p) = ks.flatMap fun k => l.flatMap fun r => if (p r && decide (f r = k)) = true then [r] else [] := by
    congr 1
    funext k
    rw [List.filter_filter]; have := filter_map_flat (fun r => p r && decide (f r = k)) id l; rw [List.map_id] at this; exact this
  have e2 : l.filter p = l.flatMap fun r => if p r = true then [r] else [] := by
    have := filter_map_flat p id l; rw [List.map_id] at this; exact this
  rw [e1, e2]; refine (perm_flat_swap _ l ks).trans ?_; rw [flat_congr (g := fun r => if p r = true then [r] else []) fun r hr => ?_]
  by_cases hp : p r = true
  · rw [if_pos hp]
    have hm := h r hr hp; simp only [hp, Bool.true_and, decide_eq_true_eq]; clear h hr hp e1 e2
    induction ks with
    | nil => cases hm
    | cons k ks ih =>
      rw [List.nodup_cons] at hn; rw [List.flatMap_cons]; rcases List.mem_cons.1 hm with e | hm
      · rw [if_pos e]
        have : (ks.flatMap fun k => if f r = k then [r] else []) = [] := by
          rw [List.flatMap_eq_nil_iff]; intro k' hk'; rw [if_neg (fun e' => hn.1 (by rw [← e, e']; exact hk'))]
        rw [this]; rfl
      · rw [if_neg (fun e' => hn.1 (by rw [← e']; exact hm)), List.nil_append]
        exact ih hn.2 hm
  · rw [if_neg hp]
    have hp' : p r = false := by simpa using hp
    rw [List.flatMap_eq_nil_iff]; intro k _; rw [hp']; rfl
theorem E_PrunedRows {rows : Rows} {cuts : List Int} {kind n : Int} (h6 : rows.length ≤ 6) (hf : ∀ r ∈ rows, rowFits [⟨1, true⟩] r = true) (hc : risP cuts) (hk : 1 ≤ kind ∧ kind ≤ 4) (hn : -1 ≤ n ∧ n ≤ 10) :
    ∃ out, m_impl_PrunedRows [⟨1, true⟩] rows 0 cuts kind n = some out ∧ out.Perm (rows.filter (suits kind n)) := by
  obtain ⟨ks, e1, e2, e3, e4, e5⟩ := E_PartsFor hc hk hn; unfold m_impl_PrunedRows; rw [E_partsOk h6 hf hc, Option.bind_some, Bool.not_true, cond_false, E_partsOf h6 hf hc, Option.bind_some, e1, Option.bind_some]; have hcl := hc.1; have h' := scanF (f := fun (o : Rows) (k : Int) => o ++ (rows.filter fun r => decide (((pt1 cuts r : Nat) : Int) = k)).filter (suits kind n)) (J := fun o => m_impl_PrunedRows_j1 o) (fun k o => o.length ≤ 10 * k) ks (fun f k o => m_impl_PrunedRows_l1 f 0 kind n (distr cuts rows) ks (ks.length : Int) k o) (fun f k x o hx ho => ?_) (fun f o ho => by rw [m_impl_PrunedRows_l1, dnlt, cond_false]) _ fuel0 [] (by simp)
  · refine ⟨_, h'.1, ?_⟩
    have go : ∀ (x : List Int) (o : Rows), x.foldl (fun (o : Rows) (k : Int) => o ++ (rows.filter fun r => decide (((pt1 cuts r : Nat) : Int) = k)).filter (suits kind n)) o = o ++ x.flatMap fun k => (rows.filter fun r => decide (((pt1 cuts r : Nat) : Int) = k)).filter (suits kind n) := by
      intro x
      induction x with
      | nil => simp
      | cons r x ih => intro o; rw [List.foldl_cons, ih, List.flatMap_cons, List.append_assoc]
    rw [go, List.nil_append]; refine parts_perm e2 fun r hr hs => ?_; obtain ⟨v, rfl, hv⟩ := one_ty (hf r hr); exact e5 v hv (of_decide_eq_true hs)
  · have hlt := lt_of_at hx
    have hb := e4 x (List.mem_of_getElem? hx); have hd := distr_get (cuts := cuts) (rows := rows) (k := x.toNat) (by omega)
    have ef : (rows.filter fun r => decide (pt1 cuts r = x.toNat)) = rows.filter fun r => decide (((pt1 cuts r : Nat) : Int) = x) := by
      refine List.filter_congr fun r _ => ?_; rw [Bool.eq_iff_iff, decide_eq_true_eq, decide_eq_true_eq]; omega
    rw [ef] at hd; have l1 := List.length_filter_le (fun r => decide (((pt1 cuts r : Nat) : Int) = x)) rows; have l2 := List.length_filter_le (suits kind n) (rows.filter fun r => decide (((pt1 cuts r : Nat) : Int) = x)); refine ⟨?_, by rw [List.length_append]; omega⟩; rw [m_impl_PrunedRows_l1, dlt hlt, cond_true, at_of hx, Option.bind_some, at_z hb.1 hd, Option.bind_some]
    rw [E_kept (q := suits kind n) (by omega) (fun r hr => by have := one_fits (hf r (List.mem_filter.1 hr).1); omega) (fun r hr => by
      obtain ⟨v, rfl, hv⟩ := one_ty (hf r (List.mem_filter.1 hr).1); unfold m_impl_PrunedRows_1; rw [show at? ([v] : Row) 0 = some v from rfl, Option.bind_some, E_impl_Compare (by have := tyV_sz1 hv; omega) (by show ByteArray.size ⟨#[]⟩ ≤ 900000000; decide), Option.bind_some, beqD]; rfl), Option.bind_some, app_of (by omega), Option.bind_some, ck1 (by omega), Option.bind_some]
def whE (kind n : Int) : List Pt := [⟨2, 0, ⟨0, 0, ⟨#[]⟩⟩⟩, ⟨1, 0, num n⟩, ⟨4, kind, ⟨0, 0, ⟨#[]⟩⟩⟩]
theorem exprVal_wh (r : Row) (kind n : Int) : exprVal r (whE kind n) = vOf (cmpT kind (rowAt r 0) (num n)) := rfl
theorem kind_wh {kind n : Int} (hk : 1 ≤ kind ∧ kind ≤ 4) (hn : -1 ≤ n ∧ n ≤ 10) : exprKind [⟨1, true⟩] (whE kind n) = 3 := by
  unfold exprKind; rw [if_pos ⟨by decide, by simp [whE]⟩]; have h1 : kStep [⟨1, true⟩] [] ⟨2, 0, ⟨0, 0, ⟨#[]⟩⟩⟩ = some [1] := (lk_col (cs := [⟨1, true⟩]) (k := 1) ⟨_, Int.le_refl 0, rfl, rfl⟩).2 []; have h2 : kStep [⟨1, true⟩] [1] ⟨1, 0, num n⟩ = some [1, 1] := (lk_val (cs := [⟨1, true⟩]) (k := 1) (v := num n) (by decide) ⟨by unfold num; rw [vOk_num, decide_eq_true (show -9999 ≤ n by omega), decide_eq_true (show n ≤ 9999 by omega)]; rfl, rfl, by show ByteArray.size ⟨#[]⟩ ≤ 20; decide⟩).2 [1]; unfold whE; rw [kGo_c, h1, Option.bind_some, kGo_c, h2, Option.bind_some, kGo_c]
  have h3 : kStep [⟨1, true⟩] [1, 1] ⟨4, kind, ⟨0, 0, ⟨#[]⟩⟩⟩ = some [3] := by
    unfold kStep; rw [tells_cmp hk]; rfl
  rw [h3]; rfl
theorem pure_FnWholePruned (l : List UInt8) : m_laws_FnWholePruned l = some true := by
  unfold m_laws_FnWholePruned; cases hlen : decide ((l.length : Int) > 1048576)
  · rw [cond_false]
    obtain ⟨⟨rows, cuts, kind, n⟩, hd, ⟨h6, hf⟩, hc, hk, hn⟩ := T_DrawPruned (l := l); simp only at h6 hf hc hk hn; obtain ⟨out, e1, e2⟩ := E_PrunedRows h6 hf hc hk hn; have hA : tbOk ⟨[⟨1, true⟩], rows⟩ = true := tbOk_mk (by decide) h6 hf; obtain ⟨tk, tsm⟩ := beg_tabs (ts := [⟨[⟨1, true⟩], rows⟩]) (by simp) (fun t ht => by rw [List.mem_singleton.1 ht]; exact ⟨hA, rfl⟩)
    have se : ptSm (whE kind n) := pt_sm (by simp [whE]) (by
      intro p hp; simp only [whE, List.mem_cons, List.mem_nil_iff, or_false] at hp; rcases hp with rfl | rfl | rfl <;> first | exact pSz_0 | (show ByteArray.size ⟨#[]⟩ ≤ 20; decide))
    have p1 : plSm [stS 0, ⟨2, 0, 0, 0, whE kind n, []⟩] := plSm_of (by simp) (by intro s hs; simp only [List.mem_cons, List.mem_nil_iff, or_false] at hs; rcases hs with rfl | rfl <;> first | exact stSm_0 rfl (by simp [stS]) | exact ⟨se, by simp⟩); obtain ⟨w1, s1, _⟩ := E_impl_PlanRows tsm p1; have ga : ([⟨[⟨1, true⟩], rows⟩] : List Tb)[(0 : Int).toNat]? = some ⟨[⟨1, true⟩], rows⟩ := rfl
    have m1 : makeGo [⟨[⟨1, true⟩], rows⟩] [stS 0, ⟨2, 0, 0, 0, whE kind n, []⟩] [] = some [⟨[⟨1, true⟩], 6⟩, ⟨[⟨1, true⟩], 6⟩] := by
      rw [makeGo, mk_scan (Int.le_refl 0) ga, Option.bind_some, if_pos (by show (6 : Int) ≤ 300; decide), makeGo]; rw [mk_two (s := ⟨2, 0, 0, 0, whE kind n, []⟩) (a := ⟨[⟨1, true⟩], 6⟩) (b := ⟨[⟨1, true⟩], 6⟩) rfl (show ¬ (2 : Int) = 1 by decide) (Int.le_refl 0) rfl (Int.le_refl 0) rfl]; unfold makeB; rw [if_pos (show (2 : Int) = 2 from rfl), if_pos (show exprKind [⟨1, true⟩] (whE kind n) = 3 from kind_wh hk hn), Option.bind_some, if_pos (by show (6 : Int) ≤ 300; decide)]; rfl
    have k1 : planOk [⟨[⟨1, true⟩], rows⟩] [stS 0, ⟨2, 0, 0, 0, whE kind n, []⟩] = true := by unfold planOk; rw [tk, m1]; rfl
    have r1 : planRows [⟨[⟨1, true⟩], rows⟩] [stS 0, ⟨2, 0, 0, 0, whE kind n, []⟩] = rows.filter (suits kind n) := by
      unfold planRows; rw [k1, if_pos rfl, rowsGo, rowsGo, rowsGo, rows_scan ga]; show rows.filter (holdsB (whE kind n)) = _; refine List.filter_congr fun r _ => ?_; unfold holdsB suits; rw [exprVal_wh, Bool.eq_iff_iff, decide_eq_true_eq, decide_eq_true_eq]; exact vOf_yes'
    rw [hd, Option.bind_some]; simp only; rw [e1, Option.bind_some]; unfold stS whE num at w1; rw [w1, Option.bind_some]; change (m_impl_SameBag out (planRows [⟨[⟨1, true⟩], rows⟩] [stS 0, ⟨2, 0, 0, 0, whE kind n, []⟩])).bind _ = _; rw [r1] at s1 ⊢; have s0 : rsSm out := ⟨by rw [e2.length_eq]; exact s1.1, fun r hr => s1.2 r (e2.mem_iff.1 hr)⟩; rw [E_impl_SameBag s0 s1, Option.bind_some, bag_perm.2 e2, cond_true, E_alive]; rfl
  · rfl
end Go.Proofs.Ytjmeoggmdnlicaa
