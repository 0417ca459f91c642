/- What the mirrors come to, in plain Lean: the law itself at the end. -/
import Derived.Test.YtkgmomocjkmipaaXW3
import Derived.Test.YtkgmomocjkmipaaLd
set_option linter.unusedVariables false
set_option linter.unusedSimpArgs false
set_option linter.unnecessarySimpa false
namespace Go.Proofs.Ytkgmomocjkmipaa
open Go.Proofs Go.Lift
def cmpI (a b : Int) : Int := if a < b then -1 else if b < a then 1 else 0
def orI (l : List Int) : Int := (l.find? (· != 0)).getD 0
theorem E_between (a b c : Int) : m_impl_between a b c = some (decide (b ≤ a) && decide (a ≤ c)) := by
  unfold m_impl_between m_impl_between_j1
  by_cases h : a ≥ b <;> simp [h]
theorem E_l1In (a b c : Int) : m_spec_l1In a b c = some (decide (b ≤ a) && decide (a ≤ c)) := by
  unfold m_spec_l1In m_spec_l1In_j1
  by_cases h : a ≥ b <;> simp [h]
theorem E_CompareI (a b : Int) : m_cmp_Compare_int a b = some (cmpI a b) := by
  unfold m_cmp_Compare_int m_cmp_isNaN_int cmpI
  have e : ∀ x : Int, (x != x) = false := fun x => by simp
  simp only [e, Option.bind_some, cond_false]
  by_cases h : a < b
  · simp [h]
  · by_cases h2 : a > b
    · simp [h, h2]
    · simp [h, h2]
theorem E_Or {l : List Int} (h : l.length ≤ 3000000) : m_cmp_Or_int l = some (orI l) := by
  unfold m_cmp_Or_int
  rw [scanC l (fun n k (_ : Unit) => m_cmp_Or_int_l1 n 0 l (l.length : Int) k) (fun x s k => bif (x != 0) then some x else k s) (fun _ => some 0) (fun n k x s hx => by
    have := lt_of_at hx
    rw [m_cmp_Or_int_l1, dlt this, cond_true, at_of hx, Option.bind_some, ck1 (show k < 1000000000000 by omega), Option.bind_some]) (fun n s => by rw [m_cmp_Or_int_l1, dnlt]; rfl) _ fuel0 ()]
  clear h
  unfold orI
  induction l with
  | nil => rfl
  | cons x l ih =>
    simp only [foldC, List.find?_cons]
    cases hx : (x != 0)
    · simpa using ih
    · rfl
theorem L_slices_Clip_Limpl_Pair_impl_Pair_o {l : List S_impl_Pair} : m_slices_Clip_Limpl_Pair_impl_Pair_o l = some l := rfl
theorem L2_slices_Compact_Limpl_Pair_impl_Pair {q : S_impl_Pair → S_impl_Pair → Bool} {k1 : Int → List S_impl_Pair → Option (List S_impl_Pair)} {orig : List S_impl_Pair} (hN : orig.length ≤ 3000000) (hp : ∀ x y, q x y = decide (x = y)) (off : Nat) : ∀ (d r m w : Nat) (o : List S_impl_Pair) (x0 : S_impl_Pair), r + d = orig.length → off < r → w < r → d < m → o.length = orig.length → (∀ i, r - 1 ≤ i → o[i]? = orig[i]?) → orig[r - 1]? = some x0 →
    m_slices_Compact_Limpl_Pair_impl_Pair_l2 k1 m (w : Int) off (orig.length - off) ((r - off : Nat) : Int) o = some (o.take w ++ goC q x0 (orig.drop r)) := by
  intro d
  induction d with
  | zero =>
    intro r m w o x0 hr hoff hw hm ho hi hx0
    obtain ⟨m, rfl⟩ : ∃ q, m = q + 1 := ⟨m - 1, by omega⟩
    obtain rfl : r = orig.length := by omega
    rw [m_slices_Compact_Limpl_Pair_impl_Pair_l2, decide_eq_false (by omega), cond_false]
    unfold m_slices_Compact_Limpl_Pair_impl_Pair_j2
    rw [rng_of (by omega), Option.bind_some, rng_of (by omega), Option.bind_some, Int.toNat_natCast, leN_of (by simp; omega), Option.bind_some]
    simp [goC, List.take_take]
  | succ d ih =>
    intro r m w o x0 hr hoff hw hm ho hi hx0
    obtain ⟨m, rfl⟩ : ∃ q, m = q + 1 := ⟨m - 1, by omega⟩
    obtain ⟨j, hj⟩ : ∃ j, r - off = j + 1 := ⟨r - off - 1, by omega⟩
    have hlt : r < orig.length := by omega
    have hx : orig[r]? = some orig[r] := List.getElem?_eq_getElem hlt
    have ox : o[r]? = some orig[r] := by rw [hi r (by omega)]; exact hx
    have oy : o[r - 1]? = some x0 := by rw [hi (r - 1) (by omega)]; exact hx0
    have mx := List.mem_of_getElem? hx
    have my := List.mem_of_getElem? hx0
    rw [m_slices_Compact_Limpl_Pair_impl_Pair_l2, hj, decide_eq_true (show (((j + 1 : Nat) : Int) < ((orig.length - off : Nat) : Int)) by omega), cond_true]
    rw [atc_of (show off + (j + 1) = r by omega) (by omega) ox, Option.bind_some, at_off (show off + (j + 1) = r by omega) ox, Option.bind_some, ckdd (by omega), Option.bind_some, atc_of (show off + j = r - 1 by omega) (by omega) oy, Option.bind_some, at_off (show off + j = r - 1 by omega) oy, Option.bind_some, ← hp]
    have e1 : ((j + 1 : Nat) : Int) + 1 = ((r + 1 - off : Nat) : Int) := by omega
    have hd : orig.drop r = orig[r] :: orig.drop (r + 1) := List.drop_eq_getElem_cons hlt
    rw [hd, goC]
    unfold m_slices_Compact_Limpl_Pair_impl_Pair_j1
    cases hq : q orig[r] x0 with
    | false =>
      have ow : o[w]? = some o[w] := List.getElem?_eq_getElem (by omega)
      rw [Bool.not_false, cond_true, Option.bind_some, Option.bind_some, at_of ow, Option.bind_some, Option.bind_some, ck1 (by omega), ck1 (by omega)]
      simp only [Go.Lift.lt, Int.toNat_natCast, Option.bind_some]
      rw [e1, show ((w : Int) + 1) = ((w + 1 : Nat) : Int) by omega, ih (r + 1) m (w + 1) (o.set w orig[r]) orig[r] (by omega) (by omega) (by omega) (by omega) (by simpa using ho) (fun i h => by
        rw [List.getElem?_set_ne (by omega)]; exact hi i (by omega)) (by simpa using hx)]
      rw [if_neg (by simp)]
      congr 1
      have : (o.set w orig[r]).take (w + 1) = o.take w ++ [orig[r]] := by
        rw [List.take_succ_eq_append_getElem (by simp; omega), List.take_set_of_le (by omega)]
        simp
      rw [this]; simp
    | true =>
      rw [Bool.not_true, cond_false, ck1 (by omega), Option.bind_some, e1, ih (r + 1) m w o orig[r] (by omega) (by omega) (by omega) (by omega) ho (fun i h => hi i (by omega)) (by simpa using hx), if_pos rfl]
theorem L_slices_Compact_Limpl_Pair_impl_Pair {l : List S_impl_Pair} {q : S_impl_Pair → S_impl_Pair → Bool} (hN : l.length ≤ 3000000) (hp : ∀ x y, q x y = decide (x = y)) : m_slices_Compact_Limpl_Pair_impl_Pair l = some (compactE q l) := by
  unfold m_slices_Compact_Limpl_Pair_impl_Pair
  by_cases h2 : l.length < 2
  · rw [decide_eq_true (show ((l.length : Int) < 2) by omega), cond_true]
    cases l with
    | nil => rfl
    | cons x l =>
      cases l with
      | nil => rfl
      | cons y l => exact absurd h2 (by simp)
  · rw [decide_eq_false (show ¬ ((l.length : Int) < 2) by omega), cond_false]
    have key : ∀ (d k n : Nat), k + d = l.length → 1 ≤ k → d < n → (∀ i x y, 0 < i → i < k → l[i]? = some x → l[i - 1]? = some y → q x y = false) → m_slices_Compact_Limpl_Pair_impl_Pair_l1 n (k : Int) l = some (compactE q l) := by
      intro d
      induction d with
      | zero =>
        intro k n hk h1 hn hq
        obtain ⟨n, rfl⟩ : ∃ q, n = q + 1 := ⟨n - 1, by omega⟩
        obtain rfl : k = l.length := by omega
        rw [m_slices_Compact_Limpl_Pair_impl_Pair_l1, dnlt, cond_false]
        unfold m_slices_Compact_Limpl_Pair_impl_Pair_j4
        rw [compactE_take l (l.length - 1) (by omega) (fun i x y h0 hi hx hy => hq i x y h0 (by omega) hx hy) l[l.length - 1] (List.getElem?_eq_getElem (by omega)), show l.length - 1 + 1 = l.length by omega]
        simp [goC]
      | succ d ih =>
        intro k n hk h1 hn hq
        obtain ⟨n, rfl⟩ : ∃ q, n = q + 1 := ⟨n - 1, by omega⟩
        obtain ⟨j, rfl⟩ : ∃ j, k = j + 1 := ⟨k - 1, by omega⟩
        have hx : l[j + 1]? = some l[j + 1] := List.getElem?_eq_getElem (by omega)
        have hy : l[j]? = some l[j] := List.getElem?_eq_getElem (by omega)
        rw [m_slices_Compact_Limpl_Pair_impl_Pair_l1, dlt (by omega), cond_true, at_of hx, Option.bind_some, Option.bind_some, ckdd (by omega), Option.bind_some, at_of hy, Option.bind_some, Option.bind_some, ← hp]
        cases hb : q l[j + 1] l[j] with
        | false =>
          rw [cond_false]
          unfold m_slices_Compact_Limpl_Pair_impl_Pair_j3
          rw [ck1 (by omega), Option.bind_some, show (((j + 1 : Nat) : Int) + 1) = ((j + 1 + 1 : Nat) : Int) by omega]
          refine ih (j + 1 + 1) n (by omega) (by omega) (by omega) fun i x y h0 hi ha hc => ?_
          rcases Nat.lt_or_ge i (j + 1) with h3 | h3
          · exact hq i x y h0 h3 ha hc
          · obtain rfl : i = j + 1 := by omega
            rw [hx] at ha; rw [show j + 1 - 1 = j by omega, hy] at hc; cases ha; cases hc; exact hb
        | true =>
          rw [cond_true, rng_of (by omega), Option.bind_some]
          have := L2_slices_Compact_Limpl_Pair_impl_Pair (k1 := m_slices_Compact_Limpl_Pair_impl_Pair_l1 n) hN hp (0 + ((j + 1 : Nat) : Int).toNat) (l.length - (j + 2)) (j + 2) ((((l.length - ((j + 1 : Nat) : Int).toNat : Nat) : Int) - 1).toNat + 1) (j + 1) l l[j + 1] (by omega) (by simp) (by omega) (by simp; omega) rfl (fun _ _ => rfl) hx
          rw [show j + 2 - (0 + ((j + 1 : Nat) : Int).toNat) = 1 by simp] at this
          have e1 : l.length - (0 + ((j + 1 : Nat) : Int).toNat) = l.length - ((j + 1 : Nat) : Int).toNat := by simp
          rw [e1] at this
          refine Eq.trans this ?_
          congr 1
          rw [compactE_take l j (by omega) (fun i x y h0 hi hx hy => hq i x y h0 (by omega) hx hy) l[j] hy]
          congr 1
          rw [List.drop_eq_getElem_cons (show j + 1 < l.length by omega), goC, if_pos hb]
    refine key (l.length - 1) 1 _ (by omega) (by omega) (by omega) fun i x y h0 hi => by omega
theorem L_slices_Equal_Limpl_Pair_impl_Pair {a b : List S_impl_Pair} (ha : a.length ≤ 3000000) : m_slices_Equal_Limpl_Pair_impl_Pair a b = some (decide (a = b)) := by
  unfold m_slices_Equal_Limpl_Pair_impl_Pair
  by_cases hl : a.length = b.length
  · have : ((a.length : Int) != (b.length : Int)) = false := by simp [hl]
    rw [this, cond_false]
    rw [← all2_eq hl]
    exact scan2 (q := fun x y => decide (x = y)) a b hl (fun n k => m_slices_Equal_Limpl_Pair_impl_Pair_l1 n a b (a.length : Int) k) (fun n k x y hx hy => by
      have := lt_of_at hx
      rw [m_slices_Equal_Limpl_Pair_impl_Pair_l1, dlt this, cond_true]
      simp only [at_of hx, at_of hy, ck1 (show k < 1000000000000 by omega), Option.bind_some]
      cases decide (x = y) <;> rfl) (fun n => by rw [m_slices_Equal_Limpl_Pair_impl_Pair_l1, dnlt]; rfl) _ fuel0
  · have : ((a.length : Int) != (b.length : Int)) = true := by simp; omega
    rw [this, cond_true]
    congr 1
    symm
    rw [decide_eq_false_iff_not]
    exact fun h => hl (congrArg _ h)
theorem L_slices_Clone_Limpl_Pair_impl_Pair {l : List S_impl_Pair} (hl : l.length ≤ 3000000) : m_slices_Clone_Limpl_Pair_impl_Pair l = some l := by
  unfold m_slices_Clone_Limpl_Pair_impl_Pair
  cases l with
  | nil => rfl
  | cons x l =>
    simp only [nilM, cond_false]
    rw [app_of (by simp at hl ⊢; omega), Option.bind_some, List.nil_append]
theorem ltE {α β : Type} {x : α} {f : α → β} : lt x f = f x := rfl
theorem bneD {a b : Int} : (a != b) = !decide (a = b) := by by_cases h : a = b <;> simp [h]
def wt_Llaws_Pair (l : (List S_laws_Pair)) : Nat := l.length
theorem wt_Llaws_Pair_len {l : (List S_laws_Pair)} : l.length ≤ wt_Llaws_Pair l := by unfold wt_Llaws_Pair; omega
theorem sz_Llaws_Pair {a : (List S_laws_Pair)} {left : Int} (hB : (B_list B_laws_Pair) a) (h0 : 0 ≤ left) (h1 : left ≤ 1048576) : m_laws_szPairS a left = some (szR left (wt_Llaws_Pair a)) := by
  unfold m_laws_szPairS wt_Llaws_Pair
  rw [ckSz' h0 h1 hB.1]
  exact szE h0
def cv_laws_Pair (v : S_laws_Pair) : S_impl_Pair := ⟨v.From, v.To⟩
theorem to_laws_Pair {a : S_laws_Pair} : m_laws_toPair a = some (cv_laws_Pair a) := by
  unfold m_laws_toPair cv_laws_Pair
  all_goals rfl
def cv_Llaws_Pair (l : (List S_laws_Pair)) : (List S_impl_Pair) := l.map cv_laws_Pair
theorem to_Llaws_Pair {a : (List S_laws_Pair)} (h : wt_Llaws_Pair a ≤ 100000000) : m_laws_toPairS a = some (cv_Llaws_Pair a) := by
  have hl : a.length ≤ 100000000 := by have := wt_Llaws_Pair_len (l := a); omega
  unfold m_laws_toPairS cv_Llaws_Pair
  refine toLoop0 cv_laws_Pair a _ (fun f k o => m_laws_toPairS_l1 f a k o) (fun f k o x hx hk ho => ?_) (fun f o => by rw [m_laws_toPairS_l1, dnlt]; rfl) (by omega)
  have hy := at_some (l := o) (k := k) (by have := lt_of_at hx; omega)
  rw [m_laws_toPairS_l1, dlt (lt_of_at hx), cond_true, at_of hx, Option.bind_some, to_laws_Pair, Option.bind_some, hy, Option.bind_some, Option.bind_some, ltE, ck1 (by omega), Option.bind_some, Int.toNat_natCast]
  rfl
def wt_Limpl_Pair (l : (List S_impl_Pair)) : Nat := l.length
theorem wt_Limpl_Pair_len {l : (List S_impl_Pair)} : l.length ≤ wt_Limpl_Pair l := by unfold wt_Limpl_Pair; omega
theorem eq_impl_Pair {a b : S_impl_Pair} : m_laws_eqPair a b = some (decide (a = b)) := by
  unfold m_laws_eqPair
  rw [bneD]
  by_cases g0 : a.From = b.From
  case neg => rw [decide_eq_false g0, Bool.not_false, cond_true, decide_eq_false (fun e => g0 (by rw [e]))]
  rw [decide_eq_true g0, Bool.not_true, cond_false]
  rw [bneD]
  by_cases g1 : a.To = b.To
  case neg => rw [decide_eq_false g1, Bool.not_false, cond_true, decide_eq_false (fun e => g1 (by rw [e]))]
  rw [decide_eq_true g1, Bool.not_true, cond_false]
  rw [decide_eq_true (show a = b by cases a; cases b; simp only at g0 g1; subst g0 g1; rfl)]
theorem eq_Limpl_Pair {a b : (List S_impl_Pair)} (h : wt_Limpl_Pair a ≤ 100000000) : m_laws_eqPairS a b = some (decide (a = b)) := by
  have hl : a.length ≤ 100000000 := by have := wt_Limpl_Pair_len (l := a); omega
  unfold m_laws_eqPairS
  refine eqLoop a b (fun f k => m_laws_eqPairS_l1 f a b k) (fun f k x y hx hy hk => ?_) (fun f => by rw [m_laws_eqPairS_l1, dnlt]; rfl) (by omega)
  rw [m_laws_eqPairS_l1, dlt (lt_of_at hx), cond_true, at_of hx, Option.bind_some, at_of hy, Option.bind_some, eq_impl_Pair, Option.bind_some, ck1 (by omega), Option.bind_some]
  rfl
abbrev Pr := S_impl_Pair
def pr0 : Pr := ⟨0, 0⟩
def pLt (p q : Pr) : Bool := decide (p.From < q.From) || (decide (p.From = q.From) && decide (p.To < q.To))
theorem pLt_iff {p q : Pr} : pLt p q = true ↔ p.From < q.From ∨ (p.From = q.From ∧ p.To < q.To) := by unfold pLt; simp
theorem pLt_no {p q : Pr} : pLt p q = false ↔ ¬ (p.From < q.From ∨ (p.From = q.From ∧ p.To < q.To)) := by rw [← pLt_iff, Bool.not_eq_true]
theorem pLt_irrefl (p : Pr) : pLt p p = false := by rw [pLt_no]; omega
theorem pLt_trans {p q r : Pr} (h : pLt p q = true) (k : pLt q r = true) : pLt p r = true := by rw [pLt_iff] at *; omega
theorem pLt_tri {p q : Pr} (h : pLt p q = false) (k : pLt q p = false) : p = q := by
  rw [pLt_no] at h k
  obtain ⟨a, b⟩ := p
  obtain ⟨c, d⟩ := q
  simp only at h k
  obtain rfl : a = c := by omega
  obtain rfl : b = d := by omega
  rfl
def pOk (p : Pr) : Bool := (decide (0 ≤ p.From) && decide (p.From ≤ 6)) && (decide (0 ≤ p.To) && decide (p.To ≤ 6))
theorem pOk_iff {p : Pr} : pOk p = true ↔ (0 ≤ p.From ∧ p.From ≤ 6) ∧ (0 ≤ p.To ∧ p.To ≤ 6) := by unfold pOk; simp
/-- In order, each once. -/
def Asc (l : List Pr) : Prop := l.Pairwise fun p q => pLt p q = true
theorem asc_uniq : ∀ {a b : List Pr}, Asc a → Asc b → (∀ x, x ∈ a ↔ x ∈ b) → a = b
  | [], [], _, _, _ => rfl
  | [], y :: b, _, _, h => absurd ((h y).2 (by simp)) (by simp)
  | x :: a, [], _, _, h => absurd ((h x).1 (by simp)) (by simp)
  | x :: a, y :: b, ha, hb, h => by
    have ha' := List.pairwise_cons.1 ha
    have hb' := List.pairwise_cons.1 hb
    have e : x = y := by
      rcases List.mem_cons.1 ((h x).1 (by simp)) with h1 | h1
      · exact h1
      · rcases List.mem_cons.1 ((h y).2 (by simp)) with h2 | h2
        · exact h2.symm
        · have := pLt_trans (hb'.1 x h1) (ha'.1 y h2)
          rw [pLt_irrefl] at this; cases this
    subst e
    congr 1
    refine asc_uniq ha'.2 hb'.2 fun z => ⟨fun hz => ?_, fun hz => ?_⟩
    · rcases List.mem_cons.1 ((h z).1 (by simp [hz])) with h1 | h1
      · subst h1; have := ha'.1 z hz; rw [pLt_irrefl] at this; cases this
      · exact h1
    · rcases List.mem_cons.1 ((h z).2 (by simp [hz])) with h1 | h1
      · subst h1; have := hb'.1 z hz; rw [pLt_irrefl] at this; cases this
      · exact h1
def rowG (a : Nat) : List Pr := (List.range 7).map fun (b : Nat) => (⟨(a : Int), (b : Int)⟩ : Pr)
def grid : List Pr := (List.range 7).flatMap rowG
theorem grid_mem {p : Pr} : p ∈ grid ↔ pOk p = true := by
  unfold grid rowG
  rw [pOk_iff, List.mem_flatMap]
  constructor
  · rintro ⟨a, ha, hp⟩
    obtain ⟨b, hb, rfl⟩ := List.mem_map.1 hp
    have := List.mem_range.1 ha
    have := List.mem_range.1 hb
    exact ⟨⟨by simp only; omega, by simp only; omega⟩, by simp only; omega, by simp only; omega⟩
  · rintro ⟨⟨h1, h2⟩, h3, h4⟩
    refine ⟨p.From.toNat, List.mem_range.2 (by omega), List.mem_map.2 ⟨p.To.toNat, List.mem_range.2 (by omega), ?_⟩⟩
    obtain ⟨a, b⟩ := p
    simp only at *
    rw [Int.toNat_of_nonneg h1, Int.toNat_of_nonneg h3]
theorem grid_asc : Asc grid := by unfold Asc; decide +kernel
theorem grid_len : grid.length = 49 := by decide +kernel
def canon (S : Pr → Bool) : List Pr := grid.filter S
theorem canon_mem {S : Pr → Bool} {p : Pr} : p ∈ canon S ↔ pOk p = true ∧ S p = true := by unfold canon; rw [List.mem_filter, grid_mem]
theorem canon_asc (S : Pr → Bool) : Asc (canon S) := List.Pairwise.filter S grid_asc
theorem canon_len (S : Pr → Bool) : (canon S).length ≤ 49 := by have := List.length_filter_le S grid; rw [grid_len] at this; exact this
theorem canon_ok {S : Pr → Bool} : ∀ p ∈ canon S, pOk p = true := fun p hp => (canon_mem.1 hp).1
theorem asc_canon {l : List Pr} (h : Asc l) (ho : ∀ p ∈ l, pOk p = true) : l = canon fun p => decide (p ∈ l) :=
  asc_uniq h (canon_asc _) fun x => by
    rw [canon_mem, decide_eq_true_eq]
    exact ⟨fun hx => ⟨ho x hx, hx⟩, fun hx => hx.2⟩
theorem canon_congr {S T : Pr → Bool} (h : ∀ p, pOk p = true → S p = T p) : canon S = canon T :=
  asc_uniq (canon_asc _) (canon_asc _) fun x => by
    rw [canon_mem, canon_mem]
    exact ⟨fun hx => ⟨hx.1, by rw [← h x hx.1]; exact hx.2⟩, fun hx => ⟨hx.1, by rw [h x hx.1]; exact hx.2⟩⟩
def nbOk (l : List Pr) (k : Nat) : Bool := pOk (l.getD k pr0) && (decide (k = 0) || pLt (l.getD (k - 1) pr0) (l.getD k pr0))
def psOk (l : List Pr) : Bool := (List.range l.length).all (nbOk l)
theorem getD_get {α : Type} {l : List α} {k : Nat} {d : α} (h : k < l.length) : l.getD k d = l[k] := by rw [List.getD_eq_getElem?_getD, List.getElem?_eq_getElem h]; rfl
theorem psOk_iff {l : List Pr} : psOk l = true ↔ Asc l ∧ ∀ p ∈ l, pOk p = true := by
  unfold psOk
  rw [List.all_eq_true]
  constructor
  · intro h
    have hk : ∀ k (hk : k < l.length), pOk l[k] = true ∧ (∀ h0 : 0 < k, pLt (l[k - 1]'(by omega)) l[k] = true) := by
      intro k hk
      have := h k (List.mem_range.2 hk)
      unfold nbOk at this
      rw [Bool.and_eq_true, getD_get hk] at this
      refine ⟨this.1, fun h0 => ?_⟩
      have h2 := this.2
      rw [decide_eq_false (by omega), Bool.false_or, getD_get (by omega)] at h2
      exact h2
    refine ⟨?_, fun p hp => ?_⟩
    · unfold Asc
      rw [List.pairwise_iff_getElem]
      intro i j hi hj hij
      have key : ∀ d i (hi : i + 1 + d < l.length), pLt (l[i]'(by omega)) (l[i + 1 + d]'(by omega)) = true := by
        intro d
        induction d with
        | zero =>
          intro i hi
          have := (hk (i + 1) (by omega)).2 (by omega)
          exact this
        | succ d ih =>
          intro i hi
          have h1 := ih i (by omega)
          have h2 := (hk (i + 1 + (d + 1)) (by omega)).2 (by omega)
          exact pLt_trans h1 h2
      have := key (j - (i + 1)) i (by omega)
      have e : i + 1 + (j - (i + 1)) = j := by omega
      simp only [e] at this
      exact this
    · obtain ⟨k, hk', rfl⟩ := List.mem_iff_getElem.1 hp
      exact (hk k hk').1
  · rintro ⟨ha, ho⟩ k hk
    have hk := List.mem_range.1 hk
    unfold nbOk
    rw [getD_get hk, ho _ (List.getElem_mem hk), Bool.true_and]
    by_cases h0 : k = 0
    · rw [decide_eq_true h0]; rfl
    · rw [decide_eq_false h0, Bool.false_or, getD_get (by omega)]
      exact (List.pairwise_iff_getElem.1 ha) (k - 1) k (by omega) hk (by omega)
theorem psOk_len {l : List Pr} (h : psOk l = true) : l.length ≤ 49 := by
  obtain ⟨a, b⟩ := psOk_iff.1 h
  rw [asc_canon a b]; exact canon_len _
def ordP (p q : Pr) : Int := orI [cmpI p.From q.From, cmpI p.To q.To]
theorem E_ordP (p q : Pr) : m_impl_Pair_order p q = some (ordP p q) := by
  unfold m_impl_Pair_order ordP
  rw [E_CompareI, Option.bind_some, E_CompareI, Option.bind_some, E_Or (by simp), Option.bind_some]
theorem ordP_lt {p q : Pr} : ordP p q < 0 ↔ pLt p q = true := by
  rw [pLt_iff]
  unfold ordP orI cmpI
  by_cases h1 : p.From < q.From
  · rw [if_pos h1]; simp [h1]
  · rw [if_neg h1]
    by_cases h2 : q.From < p.From
    · rw [if_pos h2]; simp; omega
    · rw [if_neg h2]
      by_cases h3 : p.To < q.To
      · rw [if_pos h3]; simp; omega
      · rw [if_neg h3]
        by_cases h4 : q.To < p.To
        · rw [if_pos h4]; simp; omega
        · rw [if_neg h4]; simp; omega
theorem cf_eq (p q : Pr) : decide (cf_impl_Pair_order p q < 0) = pLt p q := by
  unfold cf_impl_Pair_order
  rw [E_ordP, Option.getD_some, Bool.eq_iff_iff, decide_eq_true_eq, ordP_lt]
theorem E_Pair_ok (p : Pr) : m_impl_Pair_ok p = some (pOk p) := by
  unfold m_impl_Pair_ok m_impl_Pair_ok_j1 pOk
  rw [E_between, Option.bind_some]
  cases (decide (0 ≤ p.From) && decide (p.From ≤ 6)) with
  | false => rfl
  | true => rw [cond_true, E_between, Option.bind_some, Bool.true_and]
theorem at_some' {α : Type} {l : List α} {k : Nat} (h : k < l.length) : at? l (k : Int) = some l[k] := at_of (List.getElem?_eq_getElem h)
theorem E_impl_PairsOk {l : List Pr} (hl : l.length ≤ 3000000) : m_impl_PairsOk l = some (psOk l) := by
  unfold m_impl_PairsOk psOk
  rw [scanK (p := fun k => !nbOk l k) (r0 := false) (J := some true) l.length (fun f k => m_impl_PairsOk_l1 f l l (l.length : Int) k) (fun f k hk => ?_) (fun f => by rw [m_impl_PairsOk_l1, dnlt]; rfl) _ fuel0]
  · have : ((List.range l.length).any fun k => !nbOk l k) = !((List.range l.length).all (nbOk l)) := by
      induction List.range l.length with
      | nil => rfl
      | cons a t ih => rw [List.any_cons, List.all_cons, ih, Bool.not_and]
    rw [this]
    cases (List.range l.length).all (nbOk l) <;> rfl
  · unfold nbOk
    rw [m_impl_PairsOk_l1, dlt hk, cond_true, at_some' hk, Option.bind_some, getD_get hk, show ∀ (x : Pr) (g : Pr → Option Bool), Go.Lift.lt x g = g x from fun _ _ => rfl, E_Pair_ok, Option.bind_some]
    unfold m_impl_PairsOk_j1
    cases hp : pOk l[k] with
    | false => rw [Bool.not_false, cond_true, cond_true, Bool.false_and, Bool.not_false, cond_true]
    | true =>
      rw [Bool.not_true, cond_false, Bool.true_and]
      by_cases h0 : k = 0
      · subst h0
        rw [decide_eq_false (show ¬ ((0 : Nat) : Int) > 0 by omega), cond_false, cond_false, ck1 (by omega), Option.bind_some, decide_eq_true (show (0 : Nat) = 0 from rfl), Bool.true_or, Bool.not_true, cond_false]
        rfl
      · rw [decide_eq_true (show (k : Int) > 0 by omega), cond_true, ckI_of (by omega) (by omega), Option.bind_some, show (k : Int) - 1 = ((k - 1 : Nat) : Int) by omega, at_some' (by omega), Option.bind_some, E_ordP, Option.bind_some, decide_eq_false h0, Bool.false_or, getD_get (by omega), ck1 (by omega), Option.bind_some]
        have e : decide (ordP (l[k - 1]'(by omega)) l[k] ≥ 0) = !pLt (l[k - 1]'(by omega)) l[k] := by
          cases h : pLt (l[k - 1]'(by omega)) l[k] with
          | true => rw [decide_eq_false (by have := ordP_lt.2 h; omega)]; rfl
          | false =>
            rw [decide_eq_true]; rfl
            have : ¬ ordP (l[k - 1]'(by omega)) l[k] < 0 := fun g => by rw [ordP_lt, h] at g; cases g
            omega
        rw [e]
        rfl
theorem E_l26Less (p q : Pr) : m_spec_l26Less p q = some (pLt p q) := by
  unfold m_spec_l26Less m_spec_l26Less_j1 pLt
  by_cases h : p.From < q.From
  · rw [decide_eq_true h]; rfl
  · rw [decide_eq_false h, cond_false, Bool.false_or]
    by_cases h2 : p.From = q.From
    · rw [show (p.From == q.From) = true by simp [h2], decide_eq_true h2]; rfl
    · rw [show (p.From == q.From) = false by simp [h2], decide_eq_false h2]; rfl
theorem E_spec_PairsOk {l : List Pr} (hl : l.length ≤ 3000000) : m_spec_PairsOk l = some (psOk l) := by
  unfold m_spec_PairsOk psOk
  rw [scanK (p := fun k => !nbOk l k) (r0 := false) (J := some true) l.length (fun f k => m_spec_PairsOk_l1 f l k) (fun f k hk => ?_) (fun f => by rw [m_spec_PairsOk_l1, dnlt]; rfl) _ fuel0]
  · have : ((List.range l.length).any fun k => !nbOk l k) = !((List.range l.length).all (nbOk l)) := by
      induction List.range l.length with
      | nil => rfl
      | cons a t ih => rw [List.any_cons, List.all_cons, ih, Bool.not_and]
    rw [this]
    cases (List.range l.length).all (nbOk l) <;> rfl
  · unfold nbOk pOk
    rw [m_spec_PairsOk_l1, dlt hk, cond_true, at_some' hk, Option.bind_some, getD_get hk, E_l1In, Option.bind_some]
    unfold m_spec_PairsOk_j1
    cases (decide (0 ≤ l[k].From) && decide (l[k].From ≤ 6)) with
    | false => rw [Bool.not_false, cond_true, cond_true, Bool.false_and, Bool.false_and, Bool.not_false, cond_true]
    | true =>
      rw [Bool.not_true, cond_false, Bool.true_and, Option.bind_some, E_l1In, Option.bind_some]
      cases (decide (0 ≤ l[k].To) && decide (l[k].To ≤ 6)) with
      | false => rw [Bool.not_false, cond_true, cond_true, Bool.false_and, Bool.not_false, cond_true]
      | true =>
        rw [Bool.not_true, cond_false, Bool.true_and]
        by_cases h0 : k = 0
        · subst h0
          rw [decide_eq_false (show ¬ ((0 : Nat) : Int) > 0 by omega), cond_false, cond_false, ck1 (by omega), Option.bind_some, decide_eq_true (show (0 : Nat) = 0 from rfl), Bool.true_or, Bool.not_true, cond_false]
          rfl
        · rw [decide_eq_true (show (k : Int) > 0 by omega), cond_true, ckI_of (by omega) (by omega), Option.bind_some, show (k : Int) - 1 = ((k - 1 : Nat) : Int) by omega, at_some' (by omega), Option.bind_some, Option.bind_some, E_l26Less, Option.bind_some, decide_eq_false h0, Bool.false_or, getD_get (by omega), ck1 (by omega), Option.bind_some]
          rfl
theorem E_l26Has {l : List Pr} {p : Pr} (hl : l.length ≤ 3000000) : m_spec_l26Has l p = some (decide (p ∈ l)) := by
  unfold m_spec_l26Has
  rw [scanA (p := fun x => decide (x = p)) (r0 := true) (r1 := false) l (fun f k => m_spec_l26Has_l1 f l p k) (fun f k x hx => by
    rw [m_spec_l26Has_l1, dlt (lt_of_at hx), cond_true, at_of hx, Option.bind_some, ck1 (by have := lt_of_at hx; omega), Option.bind_some]) (fun f => by rw [m_spec_l26Has_l1, dnlt]; rfl) _ fuel0]
  have : (l.any fun x => decide (x = p)) = decide (p ∈ l) := by
    rw [Bool.eq_iff_iff, List.any_eq_true, decide_eq_true_eq]
    exact ⟨fun ⟨x, hx, he⟩ => by rw [← of_decide_eq_true he]; exact hx, fun h => ⟨p, h, decide_eq_true rfl⟩⟩
  rw [this]
  cases decide (p ∈ l) <;> rfl
def orIn (a b : List Pr) (p : Pr) : Bool := decide (p ∈ a) || decide (p ∈ b)
theorem With_l2 {a b : List Pr} (ha : a.length ≤ 3000000) (hb : b.length ≤ 3000000) {k1 : List Pr → List Pr → Int → List Pr → Option (List Pr)} {i : Nat} (hi : i < 7) : ∀ (n j f : Nat) (o : List Pr), j + n = 7 → n < f → o.length + n ≤ 1000 → m_spec_l26With_l2 k1 f a b (i : Int) (j : Int) o = k1 a b ((i + 1 : Nat) : Int) (o ++ ((List.range' j n).map fun (q : Nat) => (⟨(i : Int), (q : Int)⟩ : Pr)).filter (orIn a b)) := by
  intro n
  induction n with
  | zero =>
    intro j f o hj hf ho
    obtain ⟨f, rfl⟩ : ∃ q, f = q + 1 := ⟨f - 1, by omega⟩
    obtain rfl : j = 7 := by omega
    rw [m_spec_l26With_l2, show decide (((7 : Nat) : Int) < 7) = false from rfl, cond_false]
    unfold m_spec_l26With_j3
    rw [ckI_of (by omega) (by omega), Option.bind_some]
    simp
  | succ n ih =>
    intro j f o hj hf ho
    obtain ⟨f, rfl⟩ : ∃ q, f = q + 1 := ⟨f - 1, by omega⟩
    have e1 : ∀ o', o'.length + n ≤ 1000 → m_spec_l26With_j2 k1 (m_spec_l26With_l2 k1 f) a b (i : Int) (j : Int) o' = k1 a b ((i + 1 : Nat) : Int) (o' ++ ((List.range' (j + 1) n).map fun (q : Nat) => (⟨(i : Int), (q : Int)⟩ : Pr)).filter (orIn a b)) := fun o' ho' => by
      unfold m_spec_l26With_j2
      rw [ckI_of (by omega) (by omega), Option.bind_some]
      exact ih (j + 1) f o' (by omega) (by omega) ho'
    have e2 : ∀ t : Bool, m_spec_l26With_j1 k1 (m_spec_l26With_l2 k1 f) a b (i : Int) (j : Int) t (⟨(i : Int), (j : Int)⟩ : Pr) o = k1 a b ((i + 1 : Nat) : Int) ((o ++ (bif t then [(⟨(i : Int), (j : Int)⟩ : Pr)] else [])) ++ ((List.range' (j + 1) n).map fun (q : Nat) => (⟨(i : Int), (q : Int)⟩ : Pr)).filter (orIn a b)) := fun t => by
      unfold m_spec_l26With_j1
      cases t with
      | true => rw [cond_true, cond_true, app_of (by simp; omega), Option.bind_some, e1 _ (by simp; omega)]
      | false => rw [cond_false, cond_false, e1 _ (by omega), List.append_nil]
    have e3 : ∀ p : Pr, (bif decide (p ∈ a) then true else decide (p ∈ b)) = orIn a b p := fun p => by unfold orIn; cases decide (p ∈ a) <;> rfl
    have fin : ∀ p : Pr, p = ⟨(i : Int), (j : Int)⟩ → (o ++ (bif orIn a b p then [p] else [])) ++ ((List.range' (j + 1) n).map fun (q : Nat) => (⟨(i : Int), (q : Int)⟩ : Pr)).filter (orIn a b) = o ++ ((List.range' j (n + 1)).map fun (q : Nat) => (⟨(i : Int), (q : Int)⟩ : Pr)).filter (orIn a b) := fun p hp => by
      rw [List.range'_succ, List.map_cons, List.filter_cons, ← hp]
      cases orIn a b p <;> simp
    rw [m_spec_l26With_l2, decide_eq_true (by omega), cond_true, show ∀ (x : Pr) (g : Pr → Option (List Pr)), Go.Lift.lt x g = g x from fun _ _ => rfl, E_l26Has ha, Option.bind_some, ← fin _ rfl, ← e3]
    cases hA : decide ((⟨(i : Int), (j : Int)⟩ : Pr) ∈ a) with
    | true => rw [cond_true, cond_true, e2]
    | false => rw [cond_false, cond_false, E_l26Has hb, Option.bind_some, e2]
theorem With_l1 {a b : List Pr} (ha : a.length ≤ 3000000) (hb : b.length ≤ 3000000) : ∀ (n i f : Nat) (o : List Pr), i + n = 7 → n < f → o.length + 7 * n ≤ 100 → m_spec_l26With_l1 f a b (i : Int) o = some (o ++ ((List.range' i n).flatMap rowG).filter (orIn a b)) := by
  intro n
  induction n with
  | zero =>
    intro i f o hi hf ho
    obtain ⟨f, rfl⟩ : ∃ q, f = q + 1 := ⟨f - 1, by omega⟩
    obtain rfl : i = 7 := by omega
    rw [m_spec_l26With_l1, show decide (((7 : Nat) : Int) < 7) = false from rfl, cond_false]
    unfold m_spec_l26With_j4
    simp
  | succ n ih =>
    intro i f o hi hf ho
    obtain ⟨f, rfl⟩ : ∃ q, f = q + 1 := ⟨f - 1, by omega⟩
    have h2 := With_l2 ha hb (k1 := m_spec_l26With_l1 f) (i := i) (by omega) 7 0 (((7 : Int) - 0).toNat + 1) o (by omega) (by decide) (by omega)
    have hr : (List.range' 0 7).map (fun (q : Nat) => (⟨(i : Int), (q : Int)⟩ : Pr)) = rowG i := by unfold rowG; rw [List.range_eq_range']
    rw [hr] at h2
    have hlen : (rowG i).length = 7 := by unfold rowG; simp
    have hfl := List.length_filter_le (orIn a b) (rowG i)
    rw [m_spec_l26With_l1, decide_eq_true (by omega), cond_true]
    refine Eq.trans h2 ?_
    rw [ih (i + 1) f _ (by omega) (by omega) (by rw [List.length_append]; omega), List.range'_succ, List.flatMap_cons, List.filter_append, List.append_assoc]
theorem E_l26With {a b : List Pr} (ha : a.length ≤ 3000000) (hb : b.length ≤ 3000000) : m_spec_l26With a b = some (canon (orIn a b)) := by
  have := With_l1 ha hb 7 0 (((7 : Int) - 0).toNat + 1) [] (by omega) (by decide) (by decide)
  rw [← List.range_eq_range'] at this
  exact this
def J (a b : List Pr) : List Pr := a.flatMap fun p => (b.filter fun q => p.To == q.From).map fun q => ⟨p.From, q.To⟩
theorem J_mem {a b : List Pr} {r : Pr} : r ∈ J a b ↔ ∃ p ∈ a, ∃ q ∈ b, p.To = q.From ∧ r = ⟨p.From, q.To⟩ := by
  unfold J
  rw [List.mem_flatMap]
  constructor
  · rintro ⟨p, hp, hr⟩
    obtain ⟨q, hq, rfl⟩ := List.mem_map.1 hr
    rw [List.mem_filter] at hq
    exact ⟨p, hp, q, hq.1, by simpa using hq.2, rfl⟩
  · rintro ⟨p, hp, q, hq, h, rfl⟩
    exact ⟨p, hp, List.mem_map.2 ⟨q, List.mem_filter.2 ⟨hq, by simpa using h⟩, rfl⟩⟩
theorem J_ok {a b : List Pr} (ha : ∀ p ∈ a, pOk p = true) (hb : ∀ p ∈ b, pOk p = true) : ∀ r ∈ J a b, pOk r = true := by
  intro r hr
  obtain ⟨p, hp, q, hq, _, rfl⟩ := J_mem.1 hr
  have h1 := pOk_iff.1 (ha p hp)
  have h2 := pOk_iff.1 (hb q hq)
  exact pOk_iff.2 ⟨h1.1, h2.2⟩
theorem row_len (p : Pr) (b : List Pr) : ((b.filter fun q => p.To == q.From).map fun q => (⟨p.From, q.To⟩ : Pr)).length ≤ b.length := by rw [List.length_map]; exact List.length_filter_le _ _
theorem J_len (b : List Pr) : ∀ a : List Pr, (J a b).length ≤ a.length * b.length
  | [] => by unfold J; simp
  | p :: a => by
    have h1 : J (p :: a) b = ((b.filter fun q => p.To == q.From).map fun q => (⟨p.From, q.To⟩ : Pr)) ++ J a b := rfl
    have := row_len p b
    have := J_len b a
    rw [h1, List.length_append, List.length_cons, Nat.succ_mul]
    omega
def addJ (p : Pr) (o : List Pr) (q : Pr) : List Pr := bif p.To == q.From then o ++ [⟨p.From, q.To⟩] else o
theorem foldJ (p : Pr) : ∀ (b o : List Pr), b.foldl (addJ p) o = o ++ (b.filter fun q => p.To == q.From).map fun q => ⟨p.From, q.To⟩
  | [], o => by simp
  | q :: b, o => by
    rw [List.foldl_cons, foldJ p b, List.filter_cons]
    unfold addJ
    cases p.To == q.From <;> simp
theorem impl_J_l2 {k1 : List Pr → List Pr → Int → Int → List Pr → Option (List Pr)} {a b : List Pr} {la i : Int} {p : Pr} {o : List Pr} (hb : b.length ≤ 100) (ho : o.length ≤ 100000) : m_impl_joined_l2 k1 (((b.length : Int) - 0).toNat + 1) b a la i b (b.length : Int) 0 p o = m_impl_joined_j2 k1 b a la i (b.foldl (addJ p) o) := by
  refine (scanF (f := addJ p) (J := fun s => m_impl_joined_j2 k1 b a la i s) (fun k s => s.length ≤ 100000 + k) b (fun n k s => m_impl_joined_l2 k1 n b a la i b (b.length : Int) k p s) (fun n k x s hx hs => ?_) (fun n s _ => by rw [m_impl_joined_l2, dnlt, cond_false]) _ fuel0 o (by simpa using ho)).1
  have hk := lt_of_at hx
  refine ⟨?_, ?_⟩
  · rw [m_impl_joined_l2, dlt hk, cond_true, at_of hx, Option.bind_some, show ∀ (x : Pr) (g : Pr → Option (List Pr)), Go.Lift.lt x g = g x from fun _ _ => rfl]
    unfold m_impl_joined_j1 addJ
    cases p.To == x.From with
    | true => rw [cond_true, app_of (by simp; omega), Option.bind_some, ck1 (by omega), Option.bind_some]; rfl
    | false => rw [cond_false, ck1 (by omega), Option.bind_some]; rfl
  · unfold addJ
    cases p.To == x.From <;> simp <;> omega
theorem fold_J (b : List Pr) : ∀ (a o : List Pr), a.foldl (fun o p => b.foldl (addJ p) o) o = o ++ J a b
  | [], o => by unfold J; simp
  | p :: a, o => by
    rw [List.foldl_cons, fold_J b a, foldJ, List.append_assoc]
    rfl
theorem goC_asc : ∀ (l : List Pr) (p : Pr), (p :: l).Pairwise (fun a b => (!pLt b a) = true) → Asc (p :: goC (fun x y => decide (x = y)) p l) ∧ ∀ x, x ∈ p :: goC (fun x y => decide (x = y)) p l ↔ x ∈ p :: l
  | [], p, _ => ⟨List.pairwise_singleton _ _, fun x => by rw [goC]⟩
  | y :: l, p, h => by
    have h1 := List.pairwise_cons.1 h
    obtain ⟨i1, i2⟩ := goC_asc l y h1.2
    rw [goC]
    by_cases e : y = p
    · subst e
      rw [if_pos (decide_eq_true rfl)]
      refine ⟨i1, fun x => ?_⟩
      rw [i2 x]
      simp
    · rw [if_neg (by simpa using e)]
      have hlt : pLt p y = true := by
        have h2 := h1.1 y (by simp)
        rw [Bool.not_eq_true'] at h2
        cases h3 : pLt p y with
        | true => rfl
        | false => exact absurd (pLt_tri h2 h3) e
      refine ⟨List.pairwise_cons.2 ⟨fun z hz => ?_, i1⟩, fun x => ?_⟩
      · rcases List.mem_cons.1 hz with rfl | hz'
        · exact hlt
        · exact pLt_trans hlt ((List.pairwise_cons.1 i1).1 z hz')
      · rw [List.mem_cons, i2 x, List.mem_cons, List.mem_cons, List.mem_cons]
theorem compact_canon {l : List Pr} (h : l.Pairwise (fun a b => (!pLt b a) = true)) (ho : ∀ p ∈ l, pOk p = true) : compactE (fun x y => decide (x = y)) l = canon fun p => decide (p ∈ l) := by
  cases l with
  | nil => exact (asc_canon (l := []) List.Pairwise.nil (by simp))
  | cons p l =>
    obtain ⟨h1, h2⟩ := goC_asc l p h
    rw [compactE]
    rw [asc_canon h1 (fun x hx => ho x ((h2 x).1 hx))]
    exact canon_congr fun q _ => by rw [decide_eq_decide]; exact h2 q
theorem E_cloneP {l : List Pr} (hl : l.length ≤ 3000000) : m_impl_clone_impl_Pair l = some l := by
  unfold m_impl_clone_impl_Pair
  cases l with
  | nil => rfl
  | cons x l =>
    have : (((x :: l).length : Int) == 0) = false := by simp; omega
    rw [this, cond_false]
    unfold appN?
    rw [if_pos (by first | omega | exact ⟨by simp, by omega⟩ | (simp at *; omega)), Option.bind_some, L_slices_Clip_Limpl_Pair_impl_Pair_o, Option.bind_some]
theorem notT_iff {b : Bool} : (!b) = true ↔ b = false := by cases b <;> simp
theorem E_pairs {l : List Pr} (hl : l.length ≤ 3000000) (ho : ∀ p ∈ l, pOk p = true) : m_impl_pairs l = some (canon fun p => decide (p ∈ l)) := by
  unfold m_impl_pairs m_slices_SortFunc_Limpl_Pair_impl_Pair_by_impl_Pair_order
  have e : (fun x y : Pr => !decide (cf_impl_Pair_order y x < 0)) = fun x y => !pLt y x := by funext x y; rw [cf_eq]
  rw [if_pos (by omega), Option.bind_some, e]
  have hs := List.pairwise_mergeSort (le := fun x y : Pr => !pLt y x) (fun a b c h1 h2 => by
    have h1' := pLt_no.1 (notT_iff.1 h1)
    have h2' := pLt_no.1 (notT_iff.1 h2)
    exact notT_iff.2 (pLt_no.2 (by omega))) (fun a b => by
    cases h1 : pLt b a with
    | false => rfl
    | true =>
      have : pLt a b = false := pLt_no.2 (by have := pLt_iff.1 h1; omega)
      rw [this]; rfl) l
  have hm : ∀ p, p ∈ l.mergeSort (fun x y : Pr => !pLt y x) ↔ p ∈ l := fun p => List.mem_mergeSort
  have hlen := List.length_mergeSort (le := fun x y : Pr => !pLt y x) l
  generalize l.mergeSort (fun x y : Pr => !pLt y x) = s at hs hm hlen
  rw [lenQ_ok hlen, Option.bind_some, L_slices_Compact_Limpl_Pair_impl_Pair (q := fun x y => decide (x = y)) (by omega) (fun _ _ => rfl), Option.bind_some, compact_canon hs (fun p hp => ho p ((hm p).1 hp))]
  have ec : canon (fun p => decide (p ∈ s)) = canon fun p => decide (p ∈ l) := canon_congr fun p _ => by rw [decide_eq_decide]; exact hm p
  rw [ec, E_cloneP (by have := canon_len fun p => decide (p ∈ l); omega), Option.bind_some]
theorem E_joined {a b : List Pr} (ha : a.length ≤ 100) (hb : b.length ≤ 100) (oa : ∀ p ∈ a, pOk p = true) (ob : ∀ p ∈ b, pOk p = true) : m_impl_joined a b = some (canon fun p => decide (p ∈ J a b)) := by
  unfold m_impl_joined
  have h := (scanF (f := fun o p => b.foldl (addJ p) o) (J := fun s => m_impl_joined_j3 s) (fun k s => s.length ≤ 100 * k) a (fun n k s => m_impl_joined_l1 n b a (a.length : Int) k s) (fun n k x s hx hs => ?_) (fun n s _ => by rw [m_impl_joined_l1, dnlt, cond_false]) _ fuel0 [] (by simp)).1
  · refine Eq.trans h ?_
    rw [fold_J, List.nil_append]
    unfold m_impl_joined_j3
    have hj := J_len b a
    have : a.length * b.length ≤ 100 * 100 := Nat.mul_le_mul ha hb
    rw [E_pairs (by omega) (J_ok oa ob), Option.bind_some]
  · have hk := lt_of_at hx
    refine ⟨?_, ?_⟩
    · rw [m_impl_joined_l1, dlt hk, cond_true, at_of hx, Option.bind_some, show ∀ (x : Pr) (g : Pr → Option (List Pr)), Go.Lift.lt x g = g x from fun _ _ => rfl, impl_J_l2 hb (by omega)]
      unfold m_impl_joined_j2
      rw [ck1 (by omega), Option.bind_some]
    · have := row_len x b
      rw [foldJ, List.length_append]
      omega
theorem spec_J_l2 {k1 : List Pr → List Pr → Int → List Pr → Option (List Pr)} {a b : List Pr} {i : Nat} {p : Pr} {o : List Pr} (hp : a[i]? = some p) (hb : b.length ≤ 100) (ho : o.length ≤ 100000) : m_spec_PairsJoined_l2 k1 (((b.length : Int) - 0).toNat + 1) a b (i : Int) 0 o = m_spec_PairsJoined_j3 k1 a b (i : Int) (b.foldl (addJ p) o) := by
  refine (scanF (f := addJ p) (J := fun s => m_spec_PairsJoined_j3 k1 a b (i : Int) s) (fun k s => s.length ≤ 100000 + k) b (fun n k s => m_spec_PairsJoined_l2 k1 n a b (i : Int) k s) (fun n k x s hx hs => ?_) (fun n s _ => by rw [m_spec_PairsJoined_l2, dnlt, cond_false]) _ fuel0 o (by simpa using ho)).1
  have hk := lt_of_at hx
  refine ⟨?_, ?_⟩
  · rw [m_spec_PairsJoined_l2, dlt hk, cond_true, at_of hp, Option.bind_some, at_of hx, Option.bind_some]
    unfold m_spec_PairsJoined_j2 addJ
    cases p.To == x.From with
    | true => rw [cond_true, Option.bind_some, Option.bind_some, app_of (by simp; omega), Option.bind_some, ck1 (by omega), Option.bind_some]; rfl
    | false => rw [cond_false, ck1 (by omega), Option.bind_some]; rfl
  · unfold addJ
    cases p.To == x.From <;> simp <;> omega
theorem orIn_nil {l : List Pr} : orIn [] l = fun p => decide (p ∈ l) := by funext p; unfold orIn; simp
theorem orIn_nil' {l : List Pr} : orIn l [] = fun p => decide (p ∈ l) := by funext p; unfold orIn; simp
theorem E_spec_PairsJoined {a b : List Pr} (ha : a.length ≤ 3000000) (hb : b.length ≤ 3000000) : m_spec_PairsJoined a b = some (if psOk a = true ∧ psOk b = true then canon fun p => decide (p ∈ J a b) else []) := by
  unfold m_spec_PairsJoined m_spec_PairsJoined_j1
  rw [E_spec_PairsOk ha, Option.bind_some]
  cases h1 : psOk a with
  | false => rw [Bool.not_false, cond_true, cond_true, if_neg (fun h => by cases h.1)]
  | true =>
    rw [Bool.not_true, cond_false, E_spec_PairsOk hb, Option.bind_some]
    cases h2 : psOk b with
    | false => rw [Bool.not_false, cond_true, if_neg (fun h => by cases h.2)]
    | true =>
      have l1 := psOk_len h1
      have l2 := psOk_len h2
      rw [Bool.not_true, cond_false, if_pos ⟨rfl, rfl⟩]
      have h := (scanF (f := fun o p => b.foldl (addJ p) o) (J := fun s => m_spec_PairsJoined_j4 s) (fun k s => s.length ≤ 100 * k) a (fun n k s => m_spec_PairsJoined_l1 n a b k s) (fun n k x s hx hs => ?_) (fun n s _ => by rw [m_spec_PairsJoined_l1, dnlt, cond_false]) _ fuel0 [] (by simp)).1
      · refine Eq.trans h ?_
        rw [fold_J, List.nil_append]
        unfold m_spec_PairsJoined_j4
        have hj := J_len b a
        have : a.length * b.length ≤ 100 * 100 := Nat.mul_le_mul (by omega) (by omega)
        rw [E_l26With (by simp) (by omega), Option.bind_some, orIn_nil]
      · have hk := lt_of_at hx
        refine ⟨?_, ?_⟩
        · rw [m_spec_PairsJoined_l1, dlt hk, cond_true, spec_J_l2 hx (by omega) (by omega)]
          unfold m_spec_PairsJoined_j3
          rw [ck1 (by omega), Option.bind_some]
        · have := row_len x b
          rw [foldJ, List.length_append]
          omega
theorem E_ConcatP {a b : List Pr} (ha : a.length ≤ 3000000) (hb : b.length ≤ 3000000) : m_slices_Concat_Limpl_Pair_impl_Pair [a, b] = some (a ++ b) := by
  unfold m_slices_Concat_Limpl_Pair_impl_Pair
  rw [show ((([a, b] : List (List Pr)).length : Int) - 0).toNat + 1 = 2 + 1 from rfl, show (([a, b] : List (List Pr)).length : Int) = 2 from rfl]
  have a0 : at? [a, b] 0 = some a := rfl
  have a1 : at? [a, b] 1 = some b := rfl
  have k1 : ckI (0 + 1) = some 1 := rfl
  have k2 : ckI (1 + 1) = some 2 := rfl
  have d0 : decide ((0 : Int) < 2) = true := rfl
  have d1 : decide ((1 : Int) < 2) = true := rfl
  have d2 : decide ((2 : Int) < 2) = false := rfl
  rw [m_slices_Concat_Limpl_Pair_impl_Pair_l1, d0, cond_true, a0, Option.bind_some, ckI_of (by omega) (by omega), Option.bind_some]
  rw [show decide (0 + (a.length : Int) < 0) = false by rw [decide_eq_false_iff_not]; omega, cond_false, k1, Option.bind_some]
  rw [m_slices_Concat_Limpl_Pair_impl_Pair_l1, d1, cond_true, a1, Option.bind_some, ckI_of (by omega) (by omega), Option.bind_some]
  rw [show decide (0 + (a.length : Int) + (b.length : Int) < 0) = false by rw [decide_eq_false_iff_not]; omega, cond_false, k2, Option.bind_some]
  rw [m_slices_Concat_Limpl_Pair_impl_Pair_l1, d2, cond_false]
  unfold m_slices_Concat_Limpl_Pair_impl_Pair_j1 m_slices_Grow_Limpl_Pair_impl_Pair
  rw [if_pos (by omega), Option.bind_some, show ((([a, b] : List (List Pr)).length : Int) - 0).toNat + 1 = 2 + 1 from rfl, show (([a, b] : List (List Pr)).length : Int) = 2 from rfl]
  rw [m_slices_Concat_Limpl_Pair_impl_Pair_l2, d0, cond_true, a0, Option.bind_some, app_of (by simp; omega), Option.bind_some, k1, Option.bind_some]
  rw [m_slices_Concat_Limpl_Pair_impl_Pair_l2, d1, cond_true, a1, Option.bind_some, app_of (by simp; omega), Option.bind_some, k2, Option.bind_some]
  rw [m_slices_Concat_Limpl_Pair_impl_Pair_l2, d2, cond_false]
  rfl
def Good (l : List Pr) : Prop := Asc l ∧ ∀ p ∈ l, pOk p = true
theorem Good.len {l : List Pr} (h : Good l) : l.length ≤ 49 := psOk_len (psOk_iff.2 h)
theorem good_canon (S : Pr → Bool) : Good (canon S) := ⟨canon_asc S, canon_ok⟩
theorem asc_sub {a b : List Pr} (ha : Asc a) (hb : Asc b) (h : ∀ x ∈ a, x ∈ b) : a.Sublist b := by
  have : a = b.filter fun x => decide (x ∈ a) := asc_uniq ha (List.Pairwise.filter _ hb) fun x => by
    rw [List.mem_filter, decide_eq_true_eq]
    exact ⟨fun hx => ⟨h x hx, hx⟩, fun hx => hx.2⟩
  rw [this]; exact List.filter_sublist
def step (R l : List Pr) : List Pr := canon fun p => decide (p ∈ l) || decide (p ∈ J l R)
theorem step_mem {R l : List Pr} (hR : Good R) (hl : Good l) {p : Pr} : p ∈ step R l ↔ p ∈ l ∨ p ∈ J l R := by
  unfold step
  rw [canon_mem, Bool.or_eq_true, decide_eq_true_eq, decide_eq_true_eq]
  exact ⟨fun h => h.2, fun h => ⟨h.elim (hl.2 p) (J_ok hl.2 hR.2 p), h⟩⟩
theorem step_good (R l : List Pr) : Good (step R l) := good_canon _
theorem step_sub {R l : List Pr} (hR : Good R) (hl : Good l) : l.Sublist (step R l) := asc_sub hl.1 (step_good R l).1 fun x hx => (step_mem hR hl).2 (.inl hx)
def clo (R : List Pr) : Nat → List Pr → List Pr
  | 0, l => l
  | n + 1, l => if (step R l).length = l.length then step R l else clo R n (step R l)
def clos (R : List Pr) : List Pr := clo R 49 R
theorem clo_good {R : List Pr} : ∀ (n : Nat) (l : List Pr), Good l → Good (clo R n l)
  | 0, l, h => h
  | n + 1, l, h => by
    rw [clo]
    split
    · exact step_good R l
    · exact clo_good n _ (step_good R l)
theorem full_step {R l : List Pr} (hR : Good R) (hl : Good l) (h : 49 ≤ l.length) : step R l = l := by
  have h1 := step_sub hR hl
  have h2 := (step_good R l).len
  exact (h1.eq_of_length (by have := h1.length_le; omega)).symm
theorem clo_sub {R : List Pr} (hR : Good R) : ∀ (n : Nat) (l : List Pr), Good l → ∀ x ∈ l, x ∈ clo R n l
  | 0, l, h, x, hx => hx
  | n + 1, l, h, x, hx => by
    have h1 := (step_mem hR h).2 (.inl hx)
    rw [clo]
    split
    · exact h1
    · exact clo_sub hR n _ (step_good R l) x h1
theorem clos_good {R : List Pr} (hR : Good R) : Good (clos R) := clo_good 49 R hR
theorem clos_sub {R : List Pr} (hR : Good R) {x : Pr} (h : x ∈ R) : x ∈ clos R := clo_sub hR 49 R hR x h
theorem step_impl {R l : List Pr} : canon (fun p => decide (p ∈ l ++ canon fun p => decide (p ∈ J l R))) = step R l := canon_congr fun p hp => by
  rw [Bool.eq_iff_iff, decide_eq_true_eq, List.mem_append, canon_mem, Bool.or_eq_true, decide_eq_true_eq, decide_eq_true_eq]
  exact ⟨fun h => h.imp id fun h => h.2, fun h => h.imp id fun h => ⟨hp, h⟩⟩
theorem impl_round {R l : List Pr} (hR : Good R) (hl : Good l) {f : List Pr → Option (List Pr)} : ((m_impl_joined l R).bind fun x => (m_slices_Concat_Limpl_Pair_impl_Pair [l, x]).bind fun y => (m_impl_pairs y).bind f) = f (step R l) := by
  have l1 := hl.len
  have l2 := hR.len
  have l3 := canon_len fun p => decide (p ∈ J l R)
  rw [E_joined (by omega) (by omega) hl.2 hR.2, Option.bind_some, E_ConcatP (by omega) (by omega), Option.bind_some, E_pairs (by rw [List.length_append]; omega) (fun p hp => (List.mem_append.1 hp).elim (hl.2 p) (canon_ok p)), Option.bind_some, step_impl]
theorem beqN {a b : Nat} : ((a : Int) == (b : Int)) = decide (a = b) := by rw [Bool.eq_iff_iff, beq_iff_eq, decide_eq_true_eq]; omega
theorem impl_clo {R : List Pr} (hR : Good R) : ∀ (n : Nat) (l : List Pr) (f : Nat), Good l → 49 - l.length ≤ n → n < f → m_impl_closure_l1 f R l = some (clo R n l) := by
  intro n
  induction n with
  | zero =>
    intro l f hl hn hf
    obtain ⟨f, rfl⟩ : ∃ q, f = q + 1 := ⟨f - 1, by omega⟩
    rw [m_impl_closure_l1, impl_round hR hl, full_step hR hl (by omega), beqN, decide_eq_true rfl, cond_true]
    rfl
  | succ n ih =>
    intro l f hl hn hf
    obtain ⟨f, rfl⟩ : ∃ q, f = q + 1 := ⟨f - 1, by omega⟩
    rw [m_impl_closure_l1, impl_round hR hl, beqN, clo]
    by_cases e : (step R l).length = l.length
    · rw [decide_eq_true e, cond_true, if_pos e]
    · have := (step_sub hR hl).length_le
      rw [decide_eq_false e, cond_false, if_neg e]
      exact ih _ f (step_good R l) (by omega) (by omega)
theorem E_closure {R : List Pr} (hR : Good R) : m_impl_closure R = some (clos R) := by
  unfold m_impl_closure
  have := hR.len
  rw [E_cloneP (by omega), Option.bind_some, impl_clo hR 49 R 1000000000 hR (by omega) (by omega)]
  rfl
theorem step_spec {R l : List Pr} : canon (orIn l (canon fun p => decide (p ∈ J l R))) = step R l := canon_congr fun p hp => by
  unfold orIn
  rw [Bool.eq_iff_iff, Bool.or_eq_true, decide_eq_true_eq, decide_eq_true_eq, canon_mem, Bool.or_eq_true, decide_eq_true_eq, decide_eq_true_eq]
  exact ⟨fun h => h.imp id fun h => h.2, fun h => h.imp id fun h => ⟨hp, h⟩⟩
theorem spec_round {R l : List Pr} (hR : Good R) (hl : Good l) {f : List Pr → Option (List Pr)} : ((m_spec_PairsJoined l R).bind fun x => (m_spec_l26With l x).bind f) = f (step R l) := by
  have l1 := hl.len
  have l2 := hR.len
  have l3 := canon_len fun p => decide (p ∈ J l R)
  rw [E_spec_PairsJoined (by omega) (by omega), if_pos ⟨psOk_iff.2 hl, psOk_iff.2 hR⟩, Option.bind_some, E_l26With (by omega) (by omega), Option.bind_some, step_spec]
theorem spec_clo {R : List Pr} (hR : Good R) : ∀ (n : Nat) (l : List Pr) (f : Nat), Good l → 49 - l.length ≤ n → n + 1 < f → m_spec_ClosureOf_l1 f R true l = some (clo R n l) := by
  have stop : ∀ (f : Nat) (l : List Pr), m_spec_ClosureOf_l1 (f + 1) R false l = some l := fun f l => by rw [m_spec_ClosureOf_l1, cond_false]; rfl
  intro n
  induction n with
  | zero =>
    intro l f hl hn hf
    obtain ⟨f, rfl⟩ : ∃ q, f = q + 2 := ⟨f - 2, by omega⟩
    rw [m_spec_ClosureOf_l1, cond_true, spec_round hR hl, full_step hR hl (by omega), decide_eq_false (by omega), stop]
    rfl
  | succ n ih =>
    intro l f hl hn hf
    obtain ⟨f, rfl⟩ : ∃ q, f = q + 2 := ⟨f - 2, by omega⟩
    have hle := (step_sub hR hl).length_le
    rw [m_spec_ClosureOf_l1, cond_true, spec_round hR hl, clo]
    by_cases e : (step R l).length = l.length
    · rw [decide_eq_false (by omega), stop, if_pos e]
    · rw [decide_eq_true (by omega), if_neg e]
      exact ih _ (f + 1) (step_good R l) (by omega) (by omega)
theorem canon_self {l : List Pr} (h : Good l) : canon (orIn l []) = l := by
  rw [orIn_nil']; exact (asc_canon h.1 h.2).symm
theorem E_spec_ClosureOf {l : List Pr} (hl : l.length ≤ 3000000) : m_spec_ClosureOf l = some (if psOk l = true then clos l else []) := by
  unfold m_spec_ClosureOf
  rw [E_spec_PairsOk hl, Option.bind_some]
  cases h : psOk l with
  | false => rw [Bool.not_false, cond_true, if_neg (by simp)]
  | true =>
    have hg : Good l := psOk_iff.1 h
    rw [Bool.not_true, cond_false, E_l26With hl (by simp), Option.bind_some, canon_self hg, spec_clo hg 49 l 1000000000 hg (by omega) (by omega), if_pos rfl]
    rfl
theorem bneS2 {α : Type} [DecidableEq α] {a : α} : decide (a = a) = true := decide_eq_true rfl
def markL : Int → List Pr → List Pr
  | _, [] => []
  | k, _ :: l => ⟨k, k + 1⟩ :: markL (k + 2) l
theorem markL_len : ∀ (k : Int) (l : List Pr), (markL k l).length = l.length
  | _, [] => rfl
  | k, _ :: l => by rw [markL, List.length_cons, List.length_cons, markL_len]
theorem E_mark {l : List Pr} {k : Int} (hk : 0 ≤ k ∧ k ≤ 1000) (hl : l.length ≤ 3000000) : m_laws_markPairS l k = some (k + 2 * l.length, markL k l) := by
  unfold m_laws_markPairS
  have key : ∀ (n i f : Nat) (d r : List Pr) (c : Int), r.length = n → d.length = i → i + n ≤ 3000000 → n < f → 0 ≤ c → c ≤ 1000 + 2 * i → m_laws_markPairS_l1 f c (i : Int) (d ++ r) = some (c + 2 * r.length, d ++ markL c r) := by
    intro n
    induction n with
    | zero =>
      intro i f d r c hr hd hi hf h0 h1
      obtain ⟨f, rfl⟩ : ∃ q, f = q + 1 := ⟨f - 1, by omega⟩
      obtain rfl : r = [] := List.length_eq_zero_iff.1 hr
      rw [m_laws_markPairS_l1, decide_eq_false (by rw [List.length_append, hd]; simp), cond_false]
      unfold m_laws_markPairS_j1
      simp [markL]
    | succ n ih =>
      intro i f d r c hr hd hi hf h0 h1
      obtain ⟨f, rfl⟩ : ∃ q, f = q + 1 := ⟨f - 1, by omega⟩
      obtain ⟨x, r, rfl⟩ : ∃ x t, r = x :: t := by cases r with | nil => simp at hr | cons x t => exact ⟨x, t, rfl⟩
      have hr' : r.length = n := by simpa using hr
      have hx : (d ++ x :: r)[i]? = some x := by rw [List.getElem?_append_right (by omega), hd]; simp
      have hs : ∀ y : Pr, (d ++ x :: r).set i y = d ++ y :: r := fun y => by rw [List.set_append_right _ _ (by omega), hd]; simp
      have hx2 : ∀ y : Pr, (d ++ y :: r)[i]? = some y := fun y => by rw [List.getElem?_append_right (by omega), hd]; simp
      have hs2 : ∀ y z : Pr, (d ++ y :: r).set i z = d ++ z :: r := fun y z => by rw [List.set_append_right _ _ (by omega), hd]; simp
      rw [m_laws_markPairS_l1, decide_eq_true (by rw [List.length_append, List.length_cons]; omega), cond_true, at_of hx, Option.bind_some, Option.bind_some, show ∀ (x : Pr) (g : Pr → Option (Int × List Pr)), Go.Lift.lt x g = g x from fun _ _ => rfl, ckI_of (by omega) (by omega), Option.bind_some, Int.toNat_natCast, hs, at_of (hx2 _), Option.bind_some, Option.bind_some, show ∀ (x : Pr) (g : Pr → Option (Int × List Pr)), Go.Lift.lt x g = g x from fun _ _ => rfl, ckI_of (by omega) (by omega), Option.bind_some, ck1 (by omega), Option.bind_some, hs2]
      have e1 : d ++ (⟨c, c + 1⟩ : Pr) :: r = (d ++ [⟨c, c + 1⟩]) ++ r := by simp
      have := ih (i + 1) f (d ++ [⟨c, c + 1⟩]) r (c + 2) hr' (by simp [hd]) (by omega) (by omega) (by omega) (by omega)
      rw [← e1, show c + 2 = c + 1 + 1 by omega] at this
      refine Eq.trans this ?_
      rw [markL, List.length_cons, show c + 2 = c + 1 + 1 by omega, List.append_assoc]
      simp only [List.singleton_append, Option.some.injEq, Prod.mk.injEq, and_true]
      omega
  have := key l.length 0 (((l.length : Int) - 0).toNat + 1) [] l k rfl rfl (by omega) fuel0 hk.1 (by omega)
  exact this
theorem E_held {l : List Pr} {k : Int} (hk : 0 ≤ k ∧ k ≤ 1000) (hl : l.length ≤ 3000000) : m_laws_heldPairS (markL k l) k = some (k + 2 * l.length) := by
  unfold m_laws_heldPairS
  have key : ∀ (n i f : Nat) (d r : List Pr) (c : Int), r.length = n → d.length = i → i + n ≤ 3000000 → n < f → 0 ≤ c → c ≤ 1000 + 2 * i → m_laws_heldPairS_l1 f (d ++ markL c r) c (i : Int) = some (c + 2 * r.length) := by
    intro n
    induction n with
    | zero =>
      intro i f d r c hr hd hi hf h0 h1
      obtain ⟨f, rfl⟩ : ∃ q, f = q + 1 := ⟨f - 1, by omega⟩
      obtain rfl : r = [] := List.length_eq_zero_iff.1 hr
      rw [m_laws_heldPairS_l1, decide_eq_false (by rw [List.length_append, hd]; simp [markL]), cond_false]
      unfold m_laws_heldPairS_j1
      simp
    | succ n ih =>
      intro i f d r c hr hd hi hf h0 h1
      obtain ⟨f, rfl⟩ : ∃ q, f = q + 1 := ⟨f - 1, by omega⟩
      obtain ⟨x, r, rfl⟩ : ∃ x t, r = x :: t := by cases r with | nil => simp at hr | cons x t => exact ⟨x, t, rfl⟩
      have hr' : r.length = n := by simpa using hr
      rw [markL]
      have hx : (d ++ (⟨c, c + 1⟩ : Pr) :: markL (c + 2) r)[i]? = some ⟨c, c + 1⟩ := by rw [List.getElem?_append_right (by omega), hd]; simp
      have b1 : ((c : Int) != c) = false := by simp
      have b2 : ((c + 1 : Int) != c + 1) = false := by simp
      rw [m_laws_heldPairS_l1, decide_eq_true (by rw [List.length_append, List.length_cons]; omega), cond_true, at_of hx, Option.bind_some]
      simp only [b1, b2, cond_false, Option.bind_some]
      rw [ckI_of (by omega) (by omega), Option.bind_some]
      simp only [b1, b2, cond_false, Option.bind_some]
      rw [ckI_of (by omega) (by omega), Option.bind_some, ck1 (by omega), Option.bind_some]
      have e1 : d ++ (⟨c, c + 1⟩ : Pr) :: markL (c + 2) r = (d ++ [⟨c, c + 1⟩]) ++ markL (c + 2) r := by simp
      have := ih (i + 1) f (d ++ [⟨c, c + 1⟩]) r (c + 2) hr' (by simp [hd]) (by omega) (by omega) (by omega) (by omega)
      rw [← e1] at this
      rw [show c + 1 + 1 = c + 2 by omega]
      refine Eq.trans this ?_
      rw [List.length_cons]
      congr 1
      omega
  have h := key l.length 0 ((((markL k l).length : Int) - 0).toNat + 1) [] l k rfl rfl (by omega) (by rw [markL_len]; exact fuel0) hk.1 (by omega)
  exact h
theorem sm_pairs {l : List S_laws_Pair} (h : wt_Llaws_Pair l ≤ 1048576) : (cv_Llaws_Pair l).length ≤ 1048576 := by
  have := wt_Llaws_Pair_len (l := l); unfold cv_Llaws_Pair; rw [List.length_map]; omega
theorem wtP {l : List Pr} (h : l.length ≤ 3000000) : wt_Limpl_Pair l ≤ 100000000 := by unfold wt_Limpl_Pair; omega
def isFrom (C : List Pr) (p : Pr) (a : Int) : Bool := decide (a = p.From) || decide ((⟨a, p.From⟩ : Pr) ∈ C)
def isTo (C : List Pr) (p : Pr) (b : Int) : Bool := decide (b = p.To) || decide ((⟨p.To, b⟩ : Pr) ∈ C)
def more (C : List Pr) (p : Pr) : List Pr := canon fun r => decide (r ∈ C) || (isFrom C p r.From && isTo C p r.To)
theorem isFrom_iff {C : List Pr} {p : Pr} {a : Int} : isFrom C p a = true ↔ a = p.From ∨ (⟨a, p.From⟩ : Pr) ∈ C := by unfold isFrom; rw [Bool.or_eq_true, decide_eq_true_eq, decide_eq_true_eq]
theorem isTo_iff {C : List Pr} {p : Pr} {b : Int} : isTo C p b = true ↔ b = p.To ∨ (⟨p.To, b⟩ : Pr) ∈ C := by unfold isTo; rw [Bool.or_eq_true, decide_eq_true_eq, decide_eq_true_eq]
theorem from_ok {C : List Pr} {p : Pr} (hC : Good C) (hp : pOk p = true) {a b : Int} (ha : isFrom C p a = true) (hb : isTo C p b = true) : pOk ⟨a, b⟩ = true := by
  have h0 := pOk_iff.1 hp
  have h1 : 0 ≤ a ∧ a ≤ 6 := by
    rcases isFrom_iff.1 ha with rfl | h
    · exact h0.1
    · exact (pOk_iff.1 (hC.2 _ h)).1
  have h2 : 0 ≤ b ∧ b ≤ 6 := by
    rcases isTo_iff.1 hb with rfl | h
    · exact h0.2
    · exact (pOk_iff.1 (hC.2 _ h)).2
  exact pOk_iff.2 ⟨h1, h2⟩
theorem more_good (C : List Pr) (p : Pr) : Good (more C p) := good_canon _
theorem ltP {β : Type} (x : Pr) (g : Pr → Option β) : Go.Lift.lt x g = g x := rfl
def fromL (C : List Pr) (p : Pr) : List Int := (C.filter fun q => q.To == p.From).map fun q => q.From
def toL (C : List Pr) (p : Pr) : List Int := (C.filter fun q => q.From == p.To).map fun q => q.To
theorem from_mem {C : List Pr} {p : Pr} {a : Int} : a ∈ p.From :: fromL C p ↔ isFrom C p a = true := by
  rw [List.mem_cons, isFrom_iff]
  unfold fromL
  rw [List.mem_map]
  constructor
  · rintro (h | ⟨q, hq, rfl⟩)
    · exact .inl h
    · obtain ⟨h1, h2⟩ := List.mem_filter.1 hq
      have := beq_iff_eq.1 h2
      exact .inr (by rw [← this]; exact h1)
  · rintro (h | h)
    · exact .inl h
    · exact .inr ⟨_, List.mem_filter.2 ⟨h, beq_iff_eq.2 rfl⟩, rfl⟩
theorem to_mem {C : List Pr} {p : Pr} {a : Int} : a ∈ p.To :: toL C p ↔ isTo C p a = true := by
  rw [List.mem_cons, isTo_iff]
  unfold toL
  rw [List.mem_map]
  constructor
  · rintro (h | ⟨q, hq, rfl⟩)
    · exact .inl h
    · obtain ⟨h1, h2⟩ := List.mem_filter.1 hq
      have := beq_iff_eq.1 h2
      exact .inr (by rw [← this]; exact h1)
  · rintro (h | h)
    · exact .inl h
    · exact .inr ⟨_, List.mem_filter.2 ⟨h, beq_iff_eq.2 rfl⟩, rfl⟩
theorem implMore_l1 {C : List Pr} {p : Pr} (hC : C.length ≤ 100) : ∀ (n k f : Nat) (F T : List Int), k + n = C.length → n < f → F.length + n ≤ 1000 → T.length + n ≤ 1000 → m_impl_ClosureMore_l1 f C p C (C.length : Int) (k : Int) F T = m_impl_ClosureMore_j4 C (F ++ fromL (C.drop k) p) (T ++ toL (C.drop k) p) := by
  intro n
  induction n with
  | zero =>
    intro k f F T hk hf hF hT
    obtain ⟨f, rfl⟩ : ∃ q, f = q + 1 := ⟨f - 1, by omega⟩
    obtain rfl : k = C.length := by omega
    rw [m_impl_ClosureMore_l1, dnlt, cond_false, List.drop_length]
    unfold fromL toL
    simp
  | succ n ih =>
    intro k f F T hk hf hF hT
    obtain ⟨f, rfl⟩ : ∃ q, f = q + 1 := ⟨f - 1, by omega⟩
    have hx : C[k]? = some C[k] := List.getElem?_eq_getElem (by omega)
    have ek : ((k : Int) + 1) = ((k + 1 : Nat) : Int) := by omega
    have e3 : ∀ F' T', F'.length + n ≤ 1000 → T'.length + n ≤ 1000 → m_impl_ClosureMore_j3 (m_impl_ClosureMore_l1 f) C p C (C.length : Int) (k : Int) F' T' = m_impl_ClosureMore_j4 C (F' ++ fromL (C.drop (k + 1)) p) (T' ++ toL (C.drop (k + 1)) p) := fun F' T' h1 h2 => by
      unfold m_impl_ClosureMore_j3
      rw [ck1 (by omega), Option.bind_some, ek]
      exact ih (k + 1) f F' T' (by omega) (by omega) h1 h2
    have e2 : ∀ F', F'.length + n ≤ 1000 → m_impl_ClosureMore_j2 (m_impl_ClosureMore_l1 f) C p C (C.length : Int) (k : Int) C[k] F' T = m_impl_ClosureMore_j4 C (F' ++ fromL (C.drop (k + 1)) p) (T ++ toL (C.drop k) p) := fun F' h1 => by
      unfold m_impl_ClosureMore_j2
      have ed : toL (C.drop k) p = (bif C[k].From == p.To then [C[k].To] else []) ++ toL (C.drop (k + 1)) p := by
        rw [List.drop_eq_getElem_cons (by omega)]
        unfold toL
        rw [List.filter_cons]
        cases C[k].From == p.To <;> simp
      rw [ed]
      cases C[k].From == p.To with
      | true => rw [cond_true, cond_true, app_of (by simp; omega), Option.bind_some, e3 _ _ h1 (by simp; omega), List.append_assoc]
      | false => rw [cond_false, cond_false, e3 _ _ h1 (by omega), List.nil_append]
    have ed : fromL (C.drop k) p = (bif C[k].To == p.From then [C[k].From] else []) ++ fromL (C.drop (k + 1)) p := by
      rw [List.drop_eq_getElem_cons (by omega)]
      unfold fromL
      rw [List.filter_cons]
      cases C[k].To == p.From <;> simp
    rw [m_impl_ClosureMore_l1, dlt (by omega), cond_true, at_of hx, Option.bind_some, ltP, ed]
    cases C[k].To == p.From with
    | true => rw [cond_true, cond_true, app_of (by simp; omega), Option.bind_some, e2 _ (by simp; omega), List.append_assoc]
    | false => rw [cond_false, cond_false, e2 _ (by omega), List.nil_append]
theorem implMore_l3 {k2 : Int → Int → List Int → List Int → List Pr → Option (List Pr)} {a lf i : Int} {F T : List Int} (hT : T.length ≤ 1000) : ∀ (n k f : Nat) (o : List Pr), k + n = T.length → n < f → o.length + n ≤ 3000000 → m_impl_ClosureMore_l3 k2 f a lf i (T.length : Int) (k : Int) F T o = m_impl_ClosureMore_j5 k2 lf i F T (o ++ (T.drop k).map fun b => (⟨a, b⟩ : Pr)) := by
  intro n
  induction n with
  | zero =>
    intro k f o hk hf ho
    obtain ⟨f, rfl⟩ : ∃ q, f = q + 1 := ⟨f - 1, by omega⟩
    obtain rfl : k = T.length := by omega
    rw [m_impl_ClosureMore_l3, dnlt, cond_false, List.drop_length]
    simp
  | succ n ih =>
    intro k f o hk hf ho
    obtain ⟨f, rfl⟩ : ∃ q, f = q + 1 := ⟨f - 1, by omega⟩
    have hx : T[k]? = some T[k] := List.getElem?_eq_getElem (by omega)
    have ek : ((k : Int) + 1) = ((k + 1 : Nat) : Int) := by omega
    have ed : T.drop k = T[k] :: T.drop (k + 1) := List.drop_eq_getElem_cons (by omega)
    rw [m_impl_ClosureMore_l3, dlt (by omega), cond_true, at_of hx, Option.bind_some, Option.bind_some, app_of (by simp; omega), Option.bind_some, ck1 (by omega), Option.bind_some, ek, ih (k + 1) f _ (by omega) (by omega) (by simp; omega), ed, List.map_cons, List.append_assoc, List.singleton_append]
def crossL (F T : List Int) : List Pr := F.flatMap fun a => T.map fun b => ⟨a, b⟩
theorem cross_mem {F T : List Int} {r : Pr} : r ∈ crossL F T ↔ r.From ∈ F ∧ r.To ∈ T := by
  unfold crossL
  rw [List.mem_flatMap]
  constructor
  · rintro ⟨a, ha, h⟩
    obtain ⟨b, hb, rfl⟩ := List.mem_map.1 h
    exact ⟨ha, hb⟩
  · rintro ⟨ha, hb⟩
    exact ⟨_, ha, List.mem_map.2 ⟨_, hb, rfl⟩⟩
theorem implMore_l2 {F T : List Int} (hF : F.length ≤ 1000) (hT : T.length ≤ 1000) : ∀ (n k f : Nat) (o : List Pr), k + n = F.length → n < f → o.length + 1000 * n ≤ 2000000 → m_impl_ClosureMore_l2 f (F.length : Int) (k : Int) F T o = m_impl_ClosureMore_j6 (o ++ crossL (F.drop k) T) := by
  intro n
  induction n with
  | zero =>
    intro k f o hk hf ho
    obtain ⟨f, rfl⟩ : ∃ q, f = q + 1 := ⟨f - 1, by omega⟩
    obtain rfl : k = F.length := by omega
    rw [m_impl_ClosureMore_l2, dnlt, cond_false, List.drop_length]
    unfold crossL
    simp
  | succ n ih =>
    intro k f o hk hf ho
    obtain ⟨f, rfl⟩ : ∃ q, f = q + 1 := ⟨f - 1, by omega⟩
    have hx : F[k]? = some F[k] := List.getElem?_eq_getElem (by omega)
    have ek : ((k : Int) + 1) = ((k + 1 : Nat) : Int) := by omega
    have h3 := implMore_l3 (k2 := m_impl_ClosureMore_l2 f) (a := F[k]) (lf := (F.length : Int)) (i := (k : Int)) (F := F) hT T.length 0 _ o (Nat.zero_add _) fuel0 (by omega)
    rw [m_impl_ClosureMore_l2, dlt (by omega), cond_true, at_of hx, Option.bind_some, Option.bind_some]
    refine Eq.trans h3 ?_
    unfold m_impl_ClosureMore_j5
    rw [ck1 (by omega), Option.bind_some, ek, List.drop_zero, ih (k + 1) f _ (by omega) (by omega) (by rw [List.length_append, List.length_map]; omega), List.drop_eq_getElem_cons (by omega : k < F.length)]
    unfold crossL
    rw [List.flatMap_cons, List.append_assoc]
theorem cross_len (T : List Int) : ∀ F : List Int, (crossL F T).length = F.length * T.length
  | [] => by unfold crossL; simp
  | a :: F => by
    have ih := cross_len T F
    unfold crossL at ih ⊢
    rw [List.flatMap_cons, List.length_append, List.length_map, ih, List.length_cons, Nat.succ_mul, Nat.add_comm]
theorem impl_more {C : List Pr} {p : Pr} (hC : Good C) (hp : pOk p = true) : m_impl_ClosureMore_l1 (((C.length : Int) - 0).toNat + 1) C p C (C.length : Int) 0 [p.From] [p.To] = some (more C p) := by
  have l1 := hC.len
  have lF : (p.From :: fromL C p).length ≤ 50 := by unfold fromL; have := List.length_filter_le (fun q : Pr => q.To == p.From) C; rw [List.length_cons, List.length_map]; omega
  have lT : (p.To :: toL C p).length ≤ 50 := by unfold toL; have := List.length_filter_le (fun q : Pr => q.From == p.To) C; rw [List.length_cons, List.length_map]; omega
  have h1 := implMore_l1 (C := C) (p := p) (by omega) C.length 0 _ [p.From] [p.To] (Nat.zero_add _) fuel0 (by simp; omega) (by simp; omega)
  refine Eq.trans h1 ?_
  rw [List.drop_zero, List.singleton_append, List.singleton_append]
  unfold m_impl_ClosureMore_j4
  rw [L_slices_Clone_Limpl_Pair_impl_Pair (by omega), Option.bind_some]
  have h2 := implMore_l2 (F := p.From :: fromL C p) (T := p.To :: toL C p) (by omega) (by omega) _ 0 _ C (Nat.zero_add _) fuel0 (by omega)
  refine Eq.trans h2 ?_
  have l2 : (p.From :: fromL C p).length * (p.To :: toL C p).length ≤ 50 * 50 := Nat.mul_le_mul lF lT
  have hmem : ∀ r, r ∈ C ++ crossL (p.From :: fromL C p) (p.To :: toL C p) ↔ r ∈ C ∨ (isFrom C p r.From = true ∧ isTo C p r.To = true) := fun r => by rw [List.mem_append, cross_mem, from_mem, to_mem]
  unfold m_impl_ClosureMore_j6
  rw [List.drop_zero, E_pairs (by rw [List.length_append, cross_len]; omega) (fun r hr => ((hmem r).1 hr).elim (hC.2 r) (fun h => from_ok hC hp h.1 h.2)), Option.bind_some]
  congr 1
  refine canon_congr fun r _ => ?_
  rw [Bool.eq_iff_iff, decide_eq_true_eq, hmem, Bool.or_eq_true, decide_eq_true_eq, Bool.and_eq_true]
def moreR (l : List Pr) (p : Pr) : List Pr := if psOk l = true ∧ pOk p = true ∧ clos l = l then more l p else []
theorem moreR_len {l : List Pr} {p : Pr} : (moreR l p).length ≤ 49 := by
  unfold moreR; split
  · exact (more_good _ _).len
  · simp
theorem E_impl_ClosureMore {l : List Pr} {p : Pr} (hl : l.length ≤ 3000000) : m_impl_ClosureMore l p = some (moreR l p) := by
  unfold m_impl_ClosureMore m_impl_ClosureMore_j1 moreR
  rw [E_impl_PairsOk hl, Option.bind_some]
  cases h : psOk l with
  | false => rw [Bool.not_false, cond_true, cond_true, if_neg (by simp)]
  | true =>
    have hg : Good l := psOk_iff.1 h
    rw [Bool.not_true, cond_false, E_Pair_ok, Option.bind_some]
    cases hp : pOk p with
    | false => rw [Bool.not_false, cond_true, cond_true, if_neg (by simp)]
    | true =>
      have := (clos_good hg).len
      rw [Bool.not_true, cond_false, E_closure hg, Option.bind_some, L_slices_Equal_Limpl_Pair_impl_Pair (by omega), Option.bind_some]
      by_cases e : clos l = l
      · rw [decide_eq_true e, Bool.not_true, cond_false, if_pos ⟨rfl, rfl, e⟩]
        exact impl_more hg hp
      · rw [decide_eq_false e, Bool.not_false, cond_true, if_neg (fun h => e h.2.2)]
def ft (C : List Pr) (p : Pr) (r : Pr) : Bool := isFrom C p r.From && isTo C p r.To
theorem specMore_l2 {k1 : List Pr → Pr → Int → List Pr → Option (List Pr)} {C : List Pr} {p : Pr} (hC : C.length ≤ 3000000) {i : Nat} (hi : i < 7) : ∀ (n j f : Nat) (o : List Pr), j + n = 7 → n < f → o.length + n ≤ 1000 → m_spec_ClosureMore_l2 k1 f C p (i : Int) (j : Int) o = k1 C p ((i + 1 : Nat) : Int) (o ++ ((List.range' j n).map fun (q : Nat) => (⟨(i : Int), (q : Int)⟩ : Pr)).filter (ft C p)) := by
  intro n
  induction n with
  | zero =>
    intro j f o hj hf ho
    obtain ⟨f, rfl⟩ : ∃ q, f = q + 1 := ⟨f - 1, by omega⟩
    obtain rfl : j = 7 := by omega
    rw [m_spec_ClosureMore_l2, show decide (((7 : Nat) : Int) < 7) = false from rfl, cond_false]
    unfold m_spec_ClosureMore_j6
    rw [ckI_of (by omega) (by omega), Option.bind_some]
    simp
  | succ n ih =>
    intro j f o hj hf ho
    obtain ⟨f, rfl⟩ : ∃ q, f = q + 1 := ⟨f - 1, by omega⟩
    have e5 : ∀ o', o'.length + n ≤ 1000 → m_spec_ClosureMore_j5 k1 (m_spec_ClosureMore_l2 k1 f) C p (i : Int) (j : Int) o' = k1 C p ((i + 1 : Nat) : Int) (o' ++ ((List.range' (j + 1) n).map fun (q : Nat) => (⟨(i : Int), (q : Int)⟩ : Pr)).filter (ft C p)) := fun o' ho' => by
      unfold m_spec_ClosureMore_j5
      rw [ckI_of (by omega) (by omega), Option.bind_some]
      exact ih (j + 1) f o' (by omega) (by omega) ho'
    have e4 : ∀ t : Bool, m_spec_ClosureMore_j4 k1 (m_spec_ClosureMore_l2 k1 f) C p (i : Int) (j : Int) t o = k1 C p ((i + 1 : Nat) : Int) ((o ++ (bif t then [(⟨(i : Int), (j : Int)⟩ : Pr)] else [])) ++ ((List.range' (j + 1) n).map fun (q : Nat) => (⟨(i : Int), (q : Int)⟩ : Pr)).filter (ft C p)) := fun t => by
      unfold m_spec_ClosureMore_j4
      cases t with
      | true => rw [cond_true, cond_true, app_of (by simp; omega), Option.bind_some, e5 _ (by simp; omega)]
      | false => rw [cond_false, cond_false, e5 _ (by omega), List.append_nil]
    have e3 : ∀ s t : Bool, m_spec_ClosureMore_j3 k1 (m_spec_ClosureMore_l2 k1 f) C p (i : Int) (j : Int) s t o = k1 C p ((i + 1 : Nat) : Int) ((o ++ (bif s && t then [(⟨(i : Int), (j : Int)⟩ : Pr)] else [])) ++ ((List.range' (j + 1) n).map fun (q : Nat) => (⟨(i : Int), (q : Int)⟩ : Pr)).filter (ft C p)) := fun s t => by
      unfold m_spec_ClosureMore_j3
      cases s with
      | true => rw [cond_true, Bool.true_and, e4]
      | false => rw [cond_false, Bool.false_and, e4]
    have e2 : ∀ s : Bool, m_spec_ClosureMore_j2 k1 (m_spec_ClosureMore_l2 k1 f) C p (i : Int) (j : Int) s o = k1 C p ((i + 1 : Nat) : Int) ((o ++ (bif s && isTo C p (j : Int) then [(⟨(i : Int), (j : Int)⟩ : Pr)] else [])) ++ ((List.range' (j + 1) n).map fun (q : Nat) => (⟨(i : Int), (q : Int)⟩ : Pr)).filter (ft C p)) := fun s => by
      unfold m_spec_ClosureMore_j2 isTo
      by_cases e : (j : Int) = p.To
      · rw [beq_iff_eq.2 e, cond_true, e3, decide_eq_true e, Bool.true_or]
      · rw [beq_eq_false_iff_ne.2 e, cond_false, E_l26Has hC, Option.bind_some, e3, decide_eq_false e, Bool.false_or]
    have fin : (o ++ (bif isFrom C p (i : Int) && isTo C p (j : Int) then [(⟨(i : Int), (j : Int)⟩ : Pr)] else [])) ++ ((List.range' (j + 1) n).map fun (q : Nat) => (⟨(i : Int), (q : Int)⟩ : Pr)).filter (ft C p) = o ++ ((List.range' j (n + 1)).map fun (q : Nat) => (⟨(i : Int), (q : Int)⟩ : Pr)).filter (ft C p) := by
      rw [List.range'_succ, List.map_cons, List.filter_cons, show ft C p ⟨(i : Int), (j : Int)⟩ = (isFrom C p (i : Int) && isTo C p (j : Int)) from rfl]
      cases isFrom C p (i : Int) && isTo C p (j : Int) <;> simp
    rw [m_spec_ClosureMore_l2, decide_eq_true (by omega), cond_true, ← fin]
    conv => rhs; unfold isFrom
    by_cases e : (i : Int) = p.From
    · rw [beq_iff_eq.2 e, cond_true, e2, decide_eq_true e, Bool.true_or]
    · rw [beq_eq_false_iff_ne.2 e, cond_false, E_l26Has hC, Option.bind_some, e2, decide_eq_false e, Bool.false_or]
theorem specMore_l1 {C : List Pr} {p : Pr} (hC : C.length ≤ 3000000) : ∀ (n i f : Nat) (o : List Pr), i + n = 7 → n < f → o.length + 7 * n ≤ 100 → m_spec_ClosureMore_l1 f C p (i : Int) o = m_spec_ClosureMore_j7 C (o ++ ((List.range' i n).flatMap rowG).filter (ft C p)) := by
  intro n
  induction n with
  | zero =>
    intro i f o hi hf ho
    obtain ⟨f, rfl⟩ : ∃ q, f = q + 1 := ⟨f - 1, by omega⟩
    obtain rfl : i = 7 := by omega
    rw [m_spec_ClosureMore_l1, show decide (((7 : Nat) : Int) < 7) = false from rfl, cond_false]
    simp
  | succ n ih =>
    intro i f o hi hf ho
    obtain ⟨f, rfl⟩ : ∃ q, f = q + 1 := ⟨f - 1, by omega⟩
    have h2 := specMore_l2 (p := p) hC (k1 := m_spec_ClosureMore_l1 f) (i := i) (by omega) 7 0 (((7 : Int) - 0).toNat + 1) o (by omega) (by decide) (by omega)
    have hr : (List.range' 0 7).map (fun (q : Nat) => (⟨(i : Int), (q : Int)⟩ : Pr)) = rowG i := by unfold rowG; rw [List.range_eq_range']
    rw [hr] at h2
    have hlen : (rowG i).length = 7 := by unfold rowG; simp
    have hfl := List.length_filter_le (ft C p) (rowG i)
    rw [m_spec_ClosureMore_l1, decide_eq_true (by omega), cond_true]
    refine Eq.trans h2 ?_
    rw [ih (i + 1) f _ (by omega) (by omega) (by rw [List.length_append]; omega), List.range'_succ, List.flatMap_cons, List.filter_append, List.append_assoc]
theorem spec_more {C : List Pr} {p : Pr} (hC : C.length ≤ 3000000) : m_spec_ClosureMore_l1 (((7 : Int) - 0).toNat + 1) C p 0 [] = some (more C p) := by
  have := specMore_l1 (p := p) hC 7 0 (((7 : Int) - 0).toNat + 1) [] (by omega) (by decide) (by decide)
  rw [← List.range_eq_range'] at this
  refine Eq.trans this ?_
  have hl := canon_len (ft C p)
  unfold m_spec_ClosureMore_j7
  rw [show ([] : List Pr) ++ ((List.range 7).flatMap rowG).filter (ft C p) = canon (ft C p) from rfl, E_l26With hC (by omega), Option.bind_some]
  congr 1
  refine canon_congr fun r hr => ?_
  unfold orIn
  rw [Bool.eq_iff_iff, Bool.or_eq_true, Bool.or_eq_true, decide_eq_true_eq, decide_eq_true_eq, canon_mem]
  exact ⟨fun h => h.imp id fun h => h.2, fun h => h.imp id fun h => ⟨hr, h⟩⟩
theorem bneI {a b : Int} : (a != b) = !decide (a = b) := by by_cases h : a = b <;> simp [h]
theorem andF {P Q : Prop} [Decidable P] [Decidable Q] (h : ¬ (P ∧ Q)) : (decide P && decide Q) = false := by rw [← Bool.not_eq_true, Bool.and_eq_true, decide_eq_true_eq, decide_eq_true_eq]; exact h
theorem E_spec_ClosureMore {l : List Pr} {p : Pr} (hl : l.length ≤ 3000000) : m_spec_ClosureMore l p = some (moreR l p) := by
  unfold m_spec_ClosureMore m_spec_ClosureMore_j1 moreR
  rw [E_spec_PairsOk hl, Option.bind_some]
  cases h : psOk l with
  | false => rw [Bool.not_false, cond_true, cond_true, if_neg (by simp)]
  | true =>
    have hg : Good l := psOk_iff.1 h
    rw [Bool.not_true, cond_false, E_spec_ClosureOf hl, if_pos h, Option.bind_some]
    by_cases e : clos l = l
    · rw [e, show ((l.length : Int) != (l.length : Int)) = false from bne_self_eq_false _, cond_false, E_l1In, Option.bind_some]
      by_cases h1 : 0 ≤ p.From ∧ p.From ≤ 6
      · rw [decide_eq_true h1.1, decide_eq_true h1.2, Bool.true_and, Bool.not_true, cond_false, E_l1In, Option.bind_some]
        by_cases h2 : 0 ≤ p.To ∧ p.To ≤ 6
        · rw [decide_eq_true h2.1, decide_eq_true h2.2, Bool.true_and, Bool.not_true, cond_false, if_pos ⟨rfl, pOk_iff.2 ⟨h1, h2⟩, rfl⟩]
          exact spec_more hl
        · rw [andF h2, Bool.not_false, cond_true, if_neg (fun h => h2 (pOk_iff.1 h.2.1).2)]
      · rw [andF h1, Bool.not_false, cond_true, cond_true, if_neg (fun h => h1 (pOk_iff.1 h.2.1).1)]
    · have hs : l.Sublist (clos l) := asc_sub hg.1 (clos_good hg).1 fun x hx => clos_sub hg hx
      have hne : ¬ ((clos l).length : Int) = (l.length : Int) := fun h => e (hs.eq_of_length (by omega)).symm
      rw [bneI, decide_eq_false hne, Bool.not_false, cond_true, cond_true, if_neg (fun h => e h.2.2)]
theorem pure_FnExactClosureMore (a0 : List S_laws_Pair) (a1 : S_laws_Pair) (b0 : B_list B_laws_Pair a0) (b1 : B_laws_Pair a1) : m_laws_FnExactClosureMore a0 a1 = some true := by
  unfold m_laws_FnExactClosureMore
  rw [sz_Llaws_Pair b0 (by decide) (by decide), Option.bind_some]
  by_cases h0 : (wt_Llaws_Pair a0 : Int) ≤ 1048576
  case neg => rw [szR_lt' h0, cond_true]
  have hsm := sm_pairs (l := a0) (by omega)
  have hto := to_Llaws_Pair (a := a0) (by omega)
  have hto1 := to_laws_Pair (a := a1)
  rw [szR_lt h0, cond_false, hto, Option.bind_some, hto1, Option.bind_some]
  generalize cv_Llaws_Pair a0 = R at hsm hto
  generalize cv_laws_Pair a1 = p at hto1
  have hC := moreR_len (l := R) (p := p)
  have eC := E_impl_ClosureMore (l := R) (p := p) (by omega)
  rw [E_spec_ClosureMore (by omega), Option.bind_some, Option.bind_some, Option.bind_some, eC, Option.bind_some]
  generalize moreR R p = C at hC eC
  have hm : 0 ≤ (1 : Int) + 2 * (R.length : Int) := by omega
  rw [eq_Limpl_Pair (wtP (by omega)), Option.bind_some, bneS2, Bool.not_true, cond_false, Option.bind_some, eq_Limpl_Pair (wtP (by omega)), Option.bind_some, bneS2, Bool.not_true, cond_false, E_mark (by omega) (by omega), Option.bind_some, lenQ_ok (markL_len 1 R), Option.bind_some, decide_eq_false (by simp only; omega), cond_false, Option.bind_some, Bool.not_true]
  unfold m_laws_FnExactClosureMore_j1
  rw [cond_false, E_mark (by omega) (by omega), Option.bind_some, lenQ_ok (markL_len 1 C), Option.bind_some, E_held (by omega) (by omega), Option.bind_some, decide_eq_false (by omega), cond_false]
  simp only [bne_self_eq_false, cond_false]
  rw [hto, Option.bind_some, hto1, Option.bind_some, eC, Option.bind_some, eq_Limpl_Pair (wtP (by omega)), Option.bind_some, bneS2, Bool.not_true, cond_false, Option.bind_some, decide_eq_false (by omega), cond_false, bne_self_eq_false, cond_false]
end Go.Proofs.Ytkgmomocjkmipaa
