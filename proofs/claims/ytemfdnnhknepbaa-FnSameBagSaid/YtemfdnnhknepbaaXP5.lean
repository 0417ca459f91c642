/- Orders are total; rows in order are the same just if the bags are. Own work. -/
import Derived.Test.YtemfdnnhknepbaaXP4
set_option linter.unusedVariables false
set_option linter.unusedSimpArgs false
namespace Go.Proofs.Ytemfdnnhknepbaa
open Go.Proofs Go.Lift
/-- A total order, told by numbers. -/
structure TO {α : Type} (p : α → α → Int) : Prop where
  eq0 : ∀ a b, p a b = 0 ↔ a = b
  anti : ∀ a b, p a b < 0 ↔ 0 < p b a
  trans : ∀ a b c, p a b < 0 → p b c < 0 → p a c < 0
theorem TO.comap {α β : Type} {p : β → β → Int} (h : TO p) (f : α → β) (hf : ∀ a b, f a = f b → a = b) : TO fun a b => p (f a) (f b) where
  eq0 a b := ⟨fun e => hf a b ((h.eq0 _ _).1 e), fun e => (h.eq0 _ _).2 (by rw [e])⟩
  anti a b := h.anti _ _
  trans a b c := h.trans _ _ _
theorem TO.le_trans {α : Type} {p : α → α → Int} (h : TO p) {a b c : α} (h1 : p a b ≤ 0) (h2 : p b c ≤ 0) : p a c ≤ 0 := by
  rcases Int.lt_or_eq_of_le h1 with h1 | h1
  · rcases Int.lt_or_eq_of_le h2 with h2 | h2
    · exact Int.le_of_lt (h.trans _ _ _ h1 h2)
    · rw [← (h.eq0 _ _).1 h2]; omega
  · rw [(h.eq0 _ _).1 h1]; exact h2
theorem TO.le_antisymm {α : Type} {p : α → α → Int} (h : TO p) {a b : α} (h1 : p a b ≤ 0) (h2 : p b a ≤ 0) : a = b := by
  refine (h.eq0 _ _).1 ?_
  have := h.anti a b
  omega
theorem TO.total {α : Type} {p : α → α → Int} (h : TO p) (a b : α) : 0 < p a b ↔ p b a < 0 := (h.anti b a).symm
def lx (x y : Int) : Int := if x = 0 then y else x
theorem TO.lex {α β : Type} {p : α → α → Int} {q : β → β → Int} (h : TO p) (k : TO q) : TO fun (a b : α × β) => lx (p a.1 b.1) (q a.2 b.2) where
  eq0 a b := by
    have h1 := h.eq0 a.1 b.1
    have h2 := k.eq0 a.2 b.2
    unfold lx
    split
    · rename_i e; rw [h2]; exact ⟨fun e2 => Prod.ext (h1.1 e) e2, fun e2 => by rw [e2]⟩
    · rename_i e; exact ⟨fun e2 => absurd e2 e, fun e2 => absurd (h1.2 (by rw [e2])) e⟩
  anti a b := by
    have h1 := h.anti a.1 b.1
    have h2 := k.anti a.2 b.2
    have h3 := h.eq0 a.1 b.1
    have h4 := h.eq0 b.1 a.1
    unfold lx
    by_cases e : a.1 = b.1
    · rw [if_pos (h3.2 e), if_pos (h4.2 e.symm)]; exact h2
    · rw [if_neg (fun x => e (h3.1 x)), if_neg (fun x => e (h4.1 x).symm)]; exact h1
  trans a b c := by
    have h1 := h.trans a.1 b.1 c.1
    have h2 := k.trans a.2 b.2 c.2
    unfold lx
    by_cases e1 : a.1 = b.1
    · rw [if_pos ((h.eq0 _ _).2 e1), e1]
      by_cases e2 : b.1 = c.1
      · rw [if_pos ((h.eq0 _ _).2 e2), if_pos ((h.eq0 _ _).2 e2)]; exact h2
      · rw [if_neg (fun x => e2 ((h.eq0 _ _).1 x)), if_neg (fun x => e2 ((h.eq0 _ _).1 x))]; exact fun _ g => g
    · rw [if_neg (fun x => e1 ((h.eq0 _ _).1 x))]
      by_cases e2 : b.1 = c.1
      · rw [← e2, if_pos ((h.eq0 _ _).2 rfl), if_neg (fun x => e1 ((h.eq0 _ _).1 x))]; exact fun g _ => g
      · rw [if_neg (fun x => e2 ((h.eq0 _ _).1 x))]
        intro g1 g2
        have := h1 g1 g2
        rw [if_neg (by omega)]; exact this
theorem TO_int : TO cmpI where
  eq0 a b := by unfold cmpI; split <;> (try split) <;> omega
  anti a b := by unfold cmpI; split <;> split <;> (try split) <;> (try split) <;> omega
  trans a b c := by unfold cmpI; split <;> split <;> (try split) <;> (try split) <;> (try split) <;> omega
def cmpB : List UInt8 → List UInt8 → Int
  | [], [] => 0
  | [], _ :: _ => -1
  | _ :: _, [] => 1
  | a :: x, b :: y => lx (cmpI a.toNat b.toNat) (cmpB x y)
theorem cmpB_less : ∀ a b : List UInt8, (if Op.bytesLess a b then (-1 : Int) else if Op.bytesLess a b || a == b then 0 else 1) = cmpB a b
  | [], [] => rfl
  | [], _ :: _ => rfl
  | _ :: _, [] => rfl
  | a :: x, b :: y => by
    have ih := cmpB_less x y
    simp only [cmpB, ← ih]
    unfold lx cmpI
    simp only [Op.bytesLess]
    rcases Nat.lt_trichotomy a.toNat b.toNat with h | h | h
    · have h' : a < b := UInt8.lt_iff_toNat_lt.2 h
      have h2 : (a.toNat : Int) < b.toNat := by omega
      simp [h', h2]
    · have h' : a = b := UInt8.toNat_inj.1 h
      subst h'
      simp
    · have h' : ¬ a < b := fun e => by have := UInt8.lt_iff_toNat_lt.1 e; omega
      have h2 : ¬ (a.toNat : Int) < b.toNat := by omega
      have h3 : (b.toNat : Int) < a.toNat := by omega
      have h4 : ¬ a = b := fun e => by rw [e] at h; omega
      simp [h', h2, h3, h4]
theorem TO_list {α : Type} {p : α → α → Int} (h : TO p) : TO (cmpL p) where
  eq0 := by
    intro a
    induction a with
    | nil => intro b; cases b <;> simp [cmpL]
    | cons x a ih =>
      intro b
      cases b with
      | nil => simp [cmpL]
      | cons y b =>
        simp only [cmpL]
        split
        · rename_i e; rw [ih b, List.cons.injEq]; exact ⟨fun e2 => ⟨(h.eq0 _ _).1 e, e2⟩, fun e2 => e2.2⟩
        · rename_i e; rw [List.cons.injEq]; exact ⟨fun e2 => absurd e2 e, fun e2 => absurd ((h.eq0 _ _).2 e2.1) e⟩
  anti := by
    intro a
    induction a with
    | nil => intro b; cases b <;> simp [cmpL]
    | cons x a ih =>
      intro b
      cases b with
      | nil => simp [cmpL]
      | cons y b =>
        simp only [cmpL]
        by_cases e : x = y
        · rw [if_pos ((h.eq0 _ _).2 e), if_pos ((h.eq0 _ _).2 e.symm)]; exact ih b
        · rw [if_neg (fun g => e ((h.eq0 _ _).1 g)), if_neg (fun g => e ((h.eq0 _ _).1 g).symm)]; exact h.anti x y
  trans := by
    intro a
    induction a with
    | nil => intro b c; cases b <;> cases c <;> simp [cmpL]
    | cons x a ih =>
      intro b c
      cases b with
      | nil => simp [cmpL]
      | cons y b =>
        cases c with
        | nil => simp [cmpL]
        | cons z c =>
          simp only [cmpL]
          by_cases e1 : x = y
          · rw [if_pos ((h.eq0 _ _).2 e1), e1]
            by_cases e2 : y = z
            · rw [if_pos ((h.eq0 _ _).2 e2), if_pos ((h.eq0 _ _).2 e2)]; exact ih b c
            · rw [if_neg (fun g => e2 ((h.eq0 _ _).1 g)), if_neg (fun g => e2 ((h.eq0 _ _).1 g))]; exact fun _ g => g
          · rw [if_neg (fun g => e1 ((h.eq0 _ _).1 g))]
            by_cases e2 : y = z
            · rw [← e2, if_pos ((h.eq0 _ _).2 rfl), if_neg (fun g => e1 ((h.eq0 _ _).1 g))]; exact fun g _ => g
            · rw [if_neg (fun g => e2 ((h.eq0 _ _).1 g))]
              intro g1 g2
              have := h.trans x y z g1 g2
              rw [if_neg (by omega)]; exact this
theorem TO_byte : TO fun (a b : UInt8) => cmpI a.toNat b.toNat := TO_int.comap (fun b : UInt8 => (b.toNat : Int)) fun a b h => UInt8.toNat_inj.1 (by omega)
theorem cmpB_L : ∀ a b : List UInt8, cmpB a b = cmpL (fun (a b : UInt8) => cmpI a.toNat b.toNat) a b
  | [], [] => rfl
  | [], _ :: _ => rfl
  | _ :: _, [] => rfl
  | a :: x, b :: y => by simp only [cmpB, cmpL, lx, cmpB_L x y]
theorem TO_str : TO cmpS := by
  have h := (TO_list TO_byte).comap (fun s : ByteArray => s.data.toList) (fun a b h => ByteArray.ext (Array.toList_inj.1 h))
  have e : cmpS = fun a b : ByteArray => cmpL (fun (a b : UInt8) => cmpI a.toNat b.toNat) a.data.toList b.data.toList := by
    funext a b
    unfold cmpS sLt sEq
    rw [ByteArray.toList_eq, ByteArray.toList_eq, cmpB_less, cmpB_L]
  rw [e]; exact h
theorem orI_2 (a b : Int) : orI [a, b] = lx a b := by
  unfold lx; split
  · rename_i h; subst h; rw [orI_0]
    by_cases h : b = 0
    · subst h; rfl
    · rw [orI_1 h]
  · rename_i h; rw [orI_1 h]
theorem orI_3 (a b c : Int) : orI [a, b, c] = lx a (lx b c) := by
  by_cases h : a = 0
  · subst h; rw [orI_0, orI_2]; rfl
  · rw [orI_1 h]; unfold lx; rw [if_neg h]
theorem TO_value : TO vOrd := by
  have h := (TO_int.lex (TO_int.lex TO_str)).comap (fun v : V => (v.Kind, (v.N, v.S))) (fun a b h => by
    cases a; cases b; simp only [Prod.mk.injEq] at h; simp [h])
  have e : vOrd = fun a b : V => lx (cmpI a.Kind b.Kind) (lx (cmpI a.N b.N) (cmpS a.S b.S)) := by
    funext a b; unfold vOrd; rw [orI_3]
  rw [e]; exact h
theorem TO_row : TO rOrd := by
  have e : rOrd = cmpL vOrd := by funext a b; exact rOrd_cmpL a b
  rw [e]; exact TO_list TO_value
/-- In order. -/
def inOrd (l : Rows) : Prop := l.Pairwise fun a b => rOrd a b ≤ 0
theorem posN_at {out : Rows} {r : Row} : ∀ n, (∀ i, posN out r n ≤ i → i < n → rrOrd (out.getD i []) r > 0) ∧ (posN out r n = 0 ∨ ∃ j, posN out r n = j + 1 ∧ rrOrd (out.getD j []) r ≤ 0)
  | 0 => ⟨fun i h1 h2 => by omega, .inl rfl⟩
  | n + 1 => by
    obtain ⟨h1, h2⟩ := posN_at (out := out) (r := r) n
    simp only [posN]
    split
    · rename_i h
      refine ⟨fun i g1 g2 => ?_, h2⟩
      rcases Nat.lt_or_ge i n with g | g
      · exact h1 i g1 g
      · have : i = n := by omega
        subst this; exact h
    · rename_i h
      exact ⟨fun i g1 g2 => by omega, .inr ⟨n, rfl, by omega⟩⟩
theorem rr_ok {a b : Row} (ha : rowOk a = true) (hb : rowOk b = true) : rrOrd a b = rOrd a b := by unfold rrOrd; rw [ha, hb]; rfl
theorem insR_ord {out : Rows} {r : Row} (ho : ∀ x ∈ out, rowOk x = true) (hr : rowOk r = true) (h : inOrd out) : inOrd (insR out r) := by
  obtain ⟨h1, h2⟩ := posN_at (out := out) (r := r) out.length
  have hle := posN_le out r out.length
  unfold insR
  generalize posN out r out.length = j at h1 h2 hle
  have hsplit : inOrd (out.take j ++ out.drop j) := by rw [List.take_append_drop]; exact h
  unfold inOrd at hsplit ⊢
  rw [List.pairwise_append] at hsplit
  obtain ⟨p1, p2, p3⟩ := hsplit
  rw [List.pairwise_append]
  refine ⟨p1, ?_, ?_⟩
  · rw [List.pairwise_cons]
    refine ⟨fun x hx => ?_, p2⟩
    obtain ⟨i, hi⟩ := List.mem_iff_getElem?.1 hx
    rw [List.getElem?_drop] at hi
    obtain ⟨hlt, hi⟩ := List.getElem?_eq_some_iff.1 hi
    have := h1 (j + i) (by omega) hlt
    rw [List.getD_eq_getElem?_getD, List.getElem?_eq_getElem hlt, Option.getD_some, hi, rr_ok (ho x (List.mem_of_mem_drop hx)) hr] at this
    have := (TO_row.total x r).1 this
    omega
  · intro x hx y hy
    rcases List.mem_cons.1 hy with rfl | hy
    · rcases h2 with rfl | ⟨k, rfl, hk⟩
      · simp at hx
      · have hkl : k < out.length := by omega
        rw [List.getD_eq_getElem?_getD, List.getElem?_eq_getElem hkl, Option.getD_some, rr_ok (ho _ (List.getElem_mem hkl)) hr] at hk
        rw [List.take_succ_eq_append_getElem hkl] at hx p1
        rcases List.mem_append.1 hx with hx | hx
        · rw [List.pairwise_append] at p1
          exact TO_row.le_trans (p1.2.2 x hx _ (by simp)) hk
        · simp at hx; subst hx; exact hk
    · exact p3 x hx y hy
theorem insR_perm (out : Rows) (r : Row) : (insR out r).Perm (r :: out) := by
  unfold insR
  have := List.perm_middle (a := r) (l₁ := out.take (posN out r out.length)) (l₂ := out.drop (posN out r out.length))
  rwa [List.take_append_drop] at this
theorem sortR_perm (rs : Rows) : (sortR rs).Perm rs := by
  have key : ∀ (rs out : Rows), (rs.foldl insR out).Perm (out ++ rs) := by
    intro rs
    induction rs with
    | nil => intro out; simp
    | cons r rs ih =>
      intro out
      rw [List.foldl_cons]
      refine (ih _).trans ((insR_perm out r).append_right rs |>.trans ?_)
      have := List.perm_middle (a := r) (l₁ := out) (l₂ := rs)
      exact this.symm
  have := key rs []
  simpa [sortR] using this
theorem sortR_ord {rs : Rows} (h : ∀ r ∈ rs, rowOk r = true) : inOrd (sortR rs) := by
  have key : ∀ (rs out : Rows), (∀ r ∈ rs, rowOk r = true) → (∀ r ∈ out, rowOk r = true) → inOrd out → inOrd (rs.foldl insR out) := by
    intro rs
    induction rs with
    | nil => intro out _ _ h; exact h
    | cons r rs ih =>
      intro out h1 h2 h3
      rw [List.foldl_cons]
      refine ih _ (fun x hx => h1 x (by simp [hx])) (fun x hx => ?_) (insR_ord h2 (h1 r (by simp)) h3)
      rcases (insR_mem _ _ _).1 hx with rfl | hx
      · exact h1 _ (by simp)
      · exact h2 x hx
  exact key rs [] h (by simp) List.Pairwise.nil
theorem sortR_eq {a b : Rows} (ha : ∀ r ∈ a, rowOk r = true) (hb : ∀ r ∈ b, rowOk r = true) : sortR a = sortR b ↔ a.Perm b := by
  constructor
  · intro h
    exact (sortR_perm a).symm.trans (h ▸ sortR_perm b)
  · intro h
    refine List.Perm.eq_of_pairwise (le := fun a b => rOrd a b ≤ 0) ?_ (sortR_ord ha) (sortR_ord hb) ((sortR_perm a).trans (h.trans (sortR_perm b).symm))
    intro x y _ _ h1 h2
    exact TO_row.le_antisymm h1 h2
/-! ### bags -/
theorem rowMany_count (rs : Rows) (r : Row) : rowMany rs r = rs.count r := by
  unfold rowMany List.count
  congr 1
  funext x
  rw [Bool.eq_iff_iff]; simp
theorem bag_perm {a b : Rows} : ((a ++ b).all fun r => decide (rowMany a r = rowMany b r)) = true ↔ a.Perm b := by
  rw [List.all_eq_true, List.perm_iff_count]
  constructor
  · intro h r
    by_cases hr : r ∈ a ++ b
    · have := h r hr
      simpa [rowMany_count] using this
    · rw [List.mem_append, not_or] at hr
      rw [List.count_eq_zero_of_not_mem hr.1, List.count_eq_zero_of_not_mem hr.2]
  · intro h r _
    simp [rowMany_count, h r]
theorem perm_of_le : ∀ {a b : Rows}, (∀ r ∈ a, a.count r ≤ b.count r) → b.length ≤ a.length → a.Perm b
  | [], b, _, h => by
    have : b = [] := List.eq_nil_of_length_eq_zero (by simpa using h)
    subst this; exact .nil
  | x :: a, b, h, hl => by
    have hx : x ∈ b := by
      have := h x (by simp)
      rw [List.count_cons_self] at this
      exact List.count_pos_iff.1 (by omega)
    have hp := List.perm_cons_erase hx
    have hlen := hp.length_eq
    have := perm_of_le (a := a) (b := b.erase x) (fun r hr => by
      have h1 := h r (by simp [hr])
      rw [List.count_cons] at h1
      rw [hp.count_eq r, List.count_cons] at h1
      omega) (by simp at hlen hl; omega)
    exact (this.cons x).trans hp.symm
theorem bag_spec {a b : Rows} : ((a.all fun r => decide (rowMany a r = rowMany b r)) && decide (a.length = b.length)) = true ↔ a.Perm b := by
  rw [Bool.and_eq_true, List.all_eq_true, decide_eq_true_eq]
  constructor
  · rintro ⟨h1, h2⟩
    refine perm_of_le (fun r hr => ?_) (by omega)
    have := h1 r hr
    simp [rowMany_count] at this
    omega
  · intro h
    refine ⟨fun r _ => ?_, h.length_eq⟩
    simp [rowMany_count, h.count_eq r]
theorem pure_FnSameBag (l : List UInt8) : m_laws_FnSameBag l = some true := by
  unfold m_laws_FnSameBag
  cases hlen : decide ((l.length : Int) > 1048576)
  · rw [cond_false]
    obtain ⟨⟨a, b⟩, hd, ha, hb⟩ := T_DrawSameBag (l := l)
    have sa := rsDr_sm ha (by omega)
    have sb := rsDr_sm hb (by omega)
    simp only at sa sb
    rw [hd, Option.bind_some, E_impl_SameBag sa sb, Option.bind_some, E_spec_SameBag sa sb, Option.bind_some]
    have e : ((a ++ b).all fun r => decide (rowMany a r = rowMany b r)) = ((a.all fun r => decide (rowMany a r = rowMany b r)) && decide (a.length = b.length)) := by
      rw [Bool.eq_iff_iff, bag_perm, bag_spec]
    rw [e, bne_self_eq_false, cond_false, E_allRows sa, Option.bind_some, E_allRows sb, Option.bind_some]
    unfold m_laws_FnSameBag_j1 m_laws_FnSameBag_j2
    rw [E_alive, E_impl_SameBag sb sa, Option.bind_some, E_impl_RowsSorted sa, Option.bind_some, E_impl_RowsSorted sb, Option.bind_some, Option.bind_some,
      E_sameRows (by have := (sortR_perm a).length_eq; have := sa.1; omega) (fun r hr => by have := (sa.2 r ((sortR_mem _ _).1 hr)).1; omega), Option.bind_some]
    cases oa : a.all rowOk
    · rfl
    cases ob : b.all rowOk
    · rfl
    have e2 : ((b ++ a).all fun r => decide (rowMany b r = rowMany a r)) = ((a ++ b).all fun r => decide (rowMany a r = rowMany b r)) := by
      rw [Bool.eq_iff_iff, bag_perm, bag_perm]; exact ⟨List.Perm.symm, List.Perm.symm⟩
    have e3 : decide (sortR a = sortR b) = ((a ++ b).all fun r => decide (rowMany a r = rowMany b r)) := by
      rw [Bool.eq_iff_iff, bag_perm, decide_eq_true_eq]
      exact sortR_eq (List.all_eq_true.1 oa) (List.all_eq_true.1 ob)
    rw [← e, e2, e3]
    simp
  · rfl
end Go.Proofs.Ytemfdnnhknepbaa
