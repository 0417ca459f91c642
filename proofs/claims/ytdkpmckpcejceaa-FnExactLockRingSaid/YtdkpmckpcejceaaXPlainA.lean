/- What the mirrors come to, in plain Lean: the law itself at the end. -/
import Derived.Test.YtdkpmckpcejceaaXW3
import Derived.Test.YtdkpmckpcejceaaLd
set_option linter.unusedVariables false
set_option linter.unusedSimpArgs false
set_option linter.unnecessarySimpa false
namespace Go.Proofs.Ytdkpmckpcejceaa
open Go.Proofs Go.Lift
abbrev V := S_impl_Value
abbrev Row := List V
abbrev Rows := List Row
theorem E_between (a b c : Int) : m_impl_between a b c = some (decide (b ≤ a) && decide (a ≤ c)) := by
  unfold m_impl_between m_impl_between_j1
  by_cases h : a ≥ b <;> simp [h]
theorem E_l1In (a b c : Int) : m_spec_l1In a b c = some (decide (b ≤ a) && decide (a ≤ c)) := by
  unfold m_spec_l1In m_spec_l1In_j1
  by_cases h : a ≥ b <;> simp [h]
theorem cut_of {α : Type} {l : List α} {lo hi : Nat} (h : lo ≤ hi) (h2 : hi ≤ l.length) : cut? l (lo : Int) (hi : Int) = some ((l.take hi).drop lo) := by
  unfold cut?; rw [if_pos (by omega)]; simp
abbrev Rd := S_spec_l20Rd
def Rd.ok (o : Rd) : Prop := 0 ≤ o.p ∧ o.p ≤ 1000000000
structure TO {α : Type} (p : α → α → Int) : Prop where
  eq0 : ∀ a b, p a b = 0 ↔ a = b
  anti : ∀ a b, p a b < 0 ↔ 0 < p b a
  trans : ∀ a b c, p a b < 0 → p b c < 0 → p a c < 0
theorem TO.le_trans {α : Type} {p : α → α → Int} (h : TO p) {a b c : α} (h1 : p a b ≤ 0) (h2 : p b c ≤ 0) : p a c ≤ 0 := by
  rcases Int.lt_or_eq_of_le h1 with h1 | h1
  · rcases Int.lt_or_eq_of_le h2 with h2 | h2
    · exact Int.le_of_lt (h.trans _ _ _ h1 h2)
    · rw [← (h.eq0 _ _).1 h2]; omega
  · rw [(h.eq0 _ _).1 h1]; exact h2
theorem TO.le_antisymm {α : Type} {p : α → α → Int} (h : TO p) {a b : α} (h1 : p a b ≤ 0) (h2 : p b a ≤ 0) : a = b := by
  refine (h.eq0 _ _).1 ?_; have := h.anti a b; omega
theorem TO.total {α : Type} {p : α → α → Int} (h : TO p) (a b : α) : 0 < p a b ↔ p b a < 0 := (h.anti b a).symm
theorem L_slices_IndexFunc_Limpl_Ask_impl_Ask {l : List S_impl_Ask} {p : S_impl_Ask → Option Bool} {q : S_impl_Ask → Bool} (hl : l.length ≤ 900000000) (hp : ∀ v ∈ l, p v = some (q v)) : m_slices_IndexFunc_Limpl_Ask_impl_Ask l p = some (idxI q l) := by
  unfold m_slices_IndexFunc_Limpl_Ask_impl_Ask
  exact scanI (q := q) (g := fun i => some i) l (fun n k => m_slices_IndexFunc_Limpl_Ask_impl_Ask_l1 p n l (l.length : Int) k) (fun n k x hx => by
    have := lt_of_at hx; rw [m_slices_IndexFunc_Limpl_Ask_impl_Ask_l1, dlt this, cond_true]; simp only [at_of hx, Option.bind_some, hp x (List.mem_of_getElem? hx), ck1 (show k < 1000000000000 by omega)]) (fun n => by rw [m_slices_IndexFunc_Limpl_Ask_impl_Ask_l1, dnlt]; rfl) _ fuel0
theorem L_slices_ContainsFunc_Limpl_Ask_impl_Ask {l : List S_impl_Ask} {p : S_impl_Ask → Option Bool} {q : S_impl_Ask → Bool} (hl : l.length ≤ 900000000) (hp : ∀ v ∈ l, p v = some (q v)) : m_slices_ContainsFunc_Limpl_Ask_impl_Ask l p = some (l.any q) := by
  unfold m_slices_ContainsFunc_Limpl_Ask_impl_Ask; rw [L_slices_IndexFunc_Limpl_Ask_impl_Ask hl hp, Option.bind_some, (idxI_ge q l).2.2]
theorem L2_slices_Compact_Lint_int {q : Int → Int → Bool} {k1 : Int → List Int → Option (List Int)} {orig : List Int} (hN : orig.length ≤ 900000000) (hp : ∀ x y, q x y = decide (x = y)) (off : Nat) : ∀ (d r m w : Nat) (o : List Int) (x0 : Int), r + d = orig.length → off < r → w < r → d < m → o.length = orig.length → (∀ i, r - 1 ≤ i → o[i]? = orig[i]?) → orig[r - 1]? = some x0 →
    m_slices_Compact_Lint_int_l2 k1 m (w : Int) off (orig.length - off) ((r - off : Nat) : Int) o = some (o.take w ++ goC q x0 (orig.drop r)) := by
  intro d
  induction d with
  | zero =>
    intro r m w o x0 hr hoff hw hm ho hi hx0; obtain ⟨m, rfl⟩ : ∃ q, m = q + 1 := ⟨m - 1, by omega⟩; obtain rfl : r = orig.length := by omega
    rw [m_slices_Compact_Lint_int_l2, decide_eq_false (by omega), cond_false]; unfold m_slices_Compact_Lint_int_j2; rw [rng_of (by omega), Option.bind_some, rng_of (by omega), Option.bind_some, Int.toNat_natCast, leN_of (by simp; omega), Option.bind_some]; simp [goC, List.take_take]
  | succ d ih =>
    intro r m w o x0 hr hoff hw hm ho hi hx0; obtain ⟨m, rfl⟩ : ∃ q, m = q + 1 := ⟨m - 1, by omega⟩; obtain ⟨j, hj⟩ : ∃ j, r - off = j + 1 := ⟨r - off - 1, by omega⟩; have hlt : r < orig.length := by omega
    have hx : orig[r]? = some orig[r] := List.getElem?_eq_getElem hlt; have ox : o[r]? = some orig[r] := by rw [hi r (by omega)]; exact hx
    have oy : o[r - 1]? = some x0 := by rw [hi (r - 1) (by omega)]; exact hx0
    have mx := List.mem_of_getElem? hx; have my := List.mem_of_getElem? hx0; rw [m_slices_Compact_Lint_int_l2, hj, decide_eq_true (show (((j + 1 : Nat) : Int) < ((orig.length - off : Nat) : Int)) by omega), cond_true]; rw [atc_of (show off + (j + 1) = r by omega) (by omega) ox, Option.bind_some, at_off (show off + (j + 1) = r by omega) ox, Option.bind_some, ckdd (by omega), Option.bind_some, atc_of (show off + j = r - 1 by omega) (by omega) oy, Option.bind_some, at_off (show off + j = r - 1 by omega) oy, Option.bind_some, neB, ← hp]; have e1 : ((j + 1 : Nat) : Int) + 1 = ((r + 1 - off : Nat) : Int) := by omega
    have hd : orig.drop r = orig[r] :: orig.drop (r + 1) := List.drop_eq_getElem_cons hlt; rw [hd, goC]; unfold m_slices_Compact_Lint_int_j1; cases hq : q orig[r] x0 with
    | false =>
      have ow : o[w]? = some o[w] := List.getElem?_eq_getElem (by omega); rw [Bool.not_false, cond_true, Option.bind_some, Option.bind_some, at_of ow, Option.bind_some, Option.bind_some, ck1 (by omega), ck1 (by omega)]; simp only [Go.Lift.lt, Int.toNat_natCast, Option.bind_some]
      rw [e1, show ((w : Int) + 1) = ((w + 1 : Nat) : Int) by omega, ih (r + 1) m (w + 1) (o.set w orig[r]) orig[r] (by omega) (by omega) (by omega) (by omega) (by simpa using ho) (fun i h => by
        rw [List.getElem?_set_ne (by omega)]; exact hi i (by omega)) (by simpa using hx)]
      rw [if_neg (by simp)]
      congr 1
      have : (o.set w orig[r]).take (w + 1) = o.take w ++ [orig[r]] := by
        rw [List.take_succ_eq_append_getElem (by simp; omega), List.take_set_of_le (by omega)]; simp
      rw [this]; simp
    | true =>
      rw [Bool.not_true, cond_false, ck1 (by omega), Option.bind_some, e1, ih (r + 1) m w o orig[r] (by omega) (by omega) (by omega) (by omega) ho (fun i h => hi i (by omega)) (by simpa using hx), if_pos rfl]
theorem L_slices_Compact_Lint_int {l : List Int} {q : Int → Int → Bool} (hN : l.length ≤ 900000000) (hp : ∀ x y, q x y = decide (x = y)) : m_slices_Compact_Lint_int l = some (compactE q l) := by
  unfold m_slices_Compact_Lint_int
  by_cases h2 : l.length < 2
  · rw [decide_eq_true (show ((l.length : Int) < 2) by omega), cond_true]
    cases l with
    | nil => rfl
    | cons x l =>
      cases l with
      | nil => rfl
      | cons y l => exact absurd h2 (by simp)
  · rw [decide_eq_false (show ¬ ((l.length : Int) < 2) by omega), cond_false]
    have key : ∀ (d k n : Nat), k + d = l.length → 1 ≤ k → d < n → (∀ i x y, 0 < i → i < k → l[i]? = some x → l[i - 1]? = some y → q x y = false) → m_slices_Compact_Lint_int_l1 n (k : Int) l = some (compactE q l) := by
      intro d
      induction d with
      | zero =>
        intro k n hk h1 hn hq; obtain ⟨n, rfl⟩ : ∃ q, n = q + 1 := ⟨n - 1, by omega⟩; obtain rfl : k = l.length := by omega
        rw [m_slices_Compact_Lint_int_l1, dnlt, cond_false]; unfold m_slices_Compact_Lint_int_j4; rw [compactE_take l (l.length - 1) (by omega) (fun i x y h0 hi hx hy => hq i x y h0 (by omega) hx hy) l[l.length - 1] (List.getElem?_eq_getElem (by omega)), show l.length - 1 + 1 = l.length by omega]; simp [goC]
      | succ d ih =>
        intro k n hk h1 hn hq; obtain ⟨n, rfl⟩ : ∃ q, n = q + 1 := ⟨n - 1, by omega⟩; obtain ⟨j, rfl⟩ : ∃ j, k = j + 1 := ⟨k - 1, by omega⟩; have hx : l[j + 1]? = some l[j + 1] := List.getElem?_eq_getElem (by omega); have hy : l[j]? = some l[j] := List.getElem?_eq_getElem (by omega); rw [m_slices_Compact_Lint_int_l1, dlt (by omega), cond_true, at_of hx, Option.bind_some, Option.bind_some, ckdd (by omega), Option.bind_some, at_of hy, Option.bind_some, Option.bind_some, show ∀ a b : Int, (a == b) = decide (a = b) from fun _ _ => rfl, ← hp]; cases hb : q l[j + 1] l[j] with
        | false =>
          rw [cond_false]; unfold m_slices_Compact_Lint_int_j3; rw [ck1 (by omega), Option.bind_some, show (((j + 1 : Nat) : Int) + 1) = ((j + 1 + 1 : Nat) : Int) by omega]; refine ih (j + 1 + 1) n (by omega) (by omega) (by omega) fun i x y h0 hi ha hc => ?_; rcases Nat.lt_or_ge i (j + 1) with h3 | h3
          · exact hq i x y h0 h3 ha hc
          · obtain rfl : i = j + 1 := by omega
            rw [hx] at ha; rw [show j + 1 - 1 = j by omega, hy] at hc; cases ha; cases hc; exact hb
        | true =>
          rw [cond_true, rng_of (by omega), Option.bind_some]; have := L2_slices_Compact_Lint_int (k1 := m_slices_Compact_Lint_int_l1 n) hN hp (0 + ((j + 1 : Nat) : Int).toNat) (l.length - (j + 2)) (j + 2) ((((l.length - ((j + 1 : Nat) : Int).toNat : Nat) : Int) - 1).toNat + 1) (j + 1) l l[j + 1] (by omega) (by simp) (by omega) (by simp; omega) rfl (fun _ _ => rfl) hx; rw [show j + 2 - (0 + ((j + 1 : Nat) : Int).toNat) = 1 by simp] at this; have e1 : l.length - (0 + ((j + 1 : Nat) : Int).toNat) = l.length - ((j + 1 : Nat) : Int).toNat := by simp
          rw [e1] at this; refine Eq.trans this ?_
          congr 1
          rw [compactE_take l j (by omega) (fun i x y h0 hi hx hy => hq i x y h0 (by omega) hx hy) l[j] hy]
          congr 1
          rw [List.drop_eq_getElem_cons (show j + 1 < l.length by omega), goC, if_pos hb]
    refine key (l.length - 1) 1 _ (by omega) (by omega) (by omega) fun i x y h0 hi => by omega
theorem ltE {α β : Type} {x : α} {f : α → β} : lt x f = f x := rfl
theorem bneD {a b : Int} : (a != b) = !decide (a = b) := by by_cases h : a = b <;> simp [h]
def wt_Llaws_Ask (l : (List S_laws_Ask)) : Nat := l.length
theorem wt_Llaws_Ask_len {l : (List S_laws_Ask)} : l.length ≤ wt_Llaws_Ask l := by unfold wt_Llaws_Ask; omega
theorem sz_Llaws_Ask {a : (List S_laws_Ask)} {left : Int} (hB : (B_list B_laws_Ask) a) (h0 : 0 ≤ left) (h1 : left ≤ 1048576) : m_laws_szAskS a left = some (szR left (wt_Llaws_Ask a)) := by
  unfold m_laws_szAskS wt_Llaws_Ask; rw [ckSz' h0 h1 hB.1]; exact szE h0
def wt_laws_Locks (v : S_laws_Locks) : Nat := wt_Llaws_Ask v.Held + (wt_Llaws_Ask v.Queue)
theorem sz_laws_Locks {a : S_laws_Locks} {left : Int} (hB : B_laws_Locks a) (h0 : 0 ≤ left) (h1 : left ≤ 1048576) : m_laws_szLocks a left = some (szR left (wt_laws_Locks a)) := by
  unfold m_laws_szLocks wt_laws_Locks; unfold B_laws_Locks at hB; rw [sz_Llaws_Ask hB.1 h0 h1, Option.bind_some]; refine szC (k := fun z => _) h0 (fun e0 => ?_); rw [sz_Llaws_Ask hB.2 (szR_0 e0) (szR_le h1), Option.bind_some]; exact szE (szR_0 e0)
def cv_laws_Ask (v : S_laws_Ask) : S_impl_Ask := ⟨v.Who, v.Key, v.Kind⟩
theorem to_laws_Ask {a : S_laws_Ask} : m_laws_toAsk a = some (cv_laws_Ask a) := by
  unfold m_laws_toAsk cv_laws_Ask
  all_goals rfl
def cv_Llaws_Ask (l : (List S_laws_Ask)) : (List S_impl_Ask) := l.map cv_laws_Ask
theorem to_Llaws_Ask {a : (List S_laws_Ask)} (h : wt_Llaws_Ask a ≤ 100000000000) : m_laws_toAskS a = some (cv_Llaws_Ask a) := by
  have hl : a.length ≤ 100000000000 := by have := wt_Llaws_Ask_len (l := a); omega
  unfold m_laws_toAskS cv_Llaws_Ask; refine toLoop0 cv_laws_Ask a _ (fun f k o => m_laws_toAskS_l1 f a k o) (fun f k o x hx hk ho => ?_) (fun f o => by rw [m_laws_toAskS_l1, dnlt]; rfl) (by omega); have hy := at_some (l := o) (k := k) (by have := lt_of_at hx; omega); rw [m_laws_toAskS_l1, dlt (lt_of_at hx), cond_true, at_of hx, Option.bind_some, to_laws_Ask, Option.bind_some, hy, Option.bind_some, Option.bind_some]
  try rw [ltE]
  rw [ck1 (by omega), Option.bind_some, Int.toNat_natCast]; rfl
def wt_Limpl_Ask (l : (List S_impl_Ask)) : Nat := l.length
theorem wt_Limpl_Ask_len {l : (List S_impl_Ask)} : l.length ≤ wt_Limpl_Ask l := by unfold wt_Limpl_Ask; omega
theorem wc_Llaws_Ask {l : (List S_laws_Ask)} : wt_Limpl_Ask (cv_Llaws_Ask l) = wt_Llaws_Ask l := by
  unfold wt_Limpl_Ask cv_Llaws_Ask wt_Llaws_Ask; rw [List.length_map]
def cv_laws_Locks (v : S_laws_Locks) : S_impl_Locks := ⟨cv_Llaws_Ask v.Held, cv_Llaws_Ask v.Queue⟩
theorem to_laws_Locks {a : S_laws_Locks} (h : wt_laws_Locks a ≤ 100000000000) : m_laws_toLocks a = some (cv_laws_Locks a) := by
  unfold wt_laws_Locks at h; unfold m_laws_toLocks cv_laws_Locks
  try simp only [ltE]
  rw [to_Llaws_Ask (by omega), Option.bind_some]
  try simp only [ltE]
  rw [to_Llaws_Ask (by omega), Option.bind_some]
  all_goals rfl
def wt_impl_Locks (v : S_impl_Locks) : Nat := wt_Limpl_Ask v.Held + (wt_Limpl_Ask v.Queue)
theorem wc_laws_Locks {v : S_laws_Locks} : wt_impl_Locks (cv_laws_Locks v) = wt_laws_Locks v := by
  unfold wt_impl_Locks cv_laws_Locks wt_laws_Locks; simp only [wc_Llaws_Ask]
def wt_Lint (l : (List Int)) : Nat := l.length
theorem wt_Lint_len {l : (List Int)} : l.length ≤ wt_Lint l := by unfold wt_Lint; omega
theorem eq_Lint {a b : (List Int)} (h : wt_Lint a ≤ 100000000000) : m_laws_eqIntS a b = some (decide (a = b)) := by
  have hl : a.length ≤ 100000000000 := by have := wt_Lint_len (l := a); omega
  unfold m_laws_eqIntS; refine eqLoop a b (fun f k => m_laws_eqIntS_l1 f a b k) (fun f k x y hx hy hk => ?_) (fun f => by rw [m_laws_eqIntS_l1, dnlt]; rfl) (by omega); rw [m_laws_eqIntS_l1, dlt (lt_of_at hx), cond_true, at_of hx, Option.bind_some, at_of hy, Option.bind_some, bneD, ck1 (by omega), Option.bind_some]; rfl
theorem eq_impl_Ask {a b : S_impl_Ask} : m_laws_eqAsk a b = some (decide (a = b)) := by
  unfold m_laws_eqAsk; rw [bneD]
  by_cases g0 : a.Who = b.Who
  case neg => rw [decide_eq_false g0, Bool.not_false, cond_true, decide_eq_false (fun e => g0 (by rw [e]))]
  rw [decide_eq_true g0, Bool.not_true, cond_false]; rw [bneD]
  by_cases g1 : a.Key = b.Key
  case neg => rw [decide_eq_false g1, Bool.not_false, cond_true, decide_eq_false (fun e => g1 (by rw [e]))]
  rw [decide_eq_true g1, Bool.not_true, cond_false]; rw [bneD]
  by_cases g2 : a.Kind = b.Kind
  case neg => rw [decide_eq_false g2, Bool.not_false, cond_true, decide_eq_false (fun e => g2 (by rw [e]))]
  rw [decide_eq_true g2, Bool.not_true, cond_false]; rw [decide_eq_true (show a = b by cases a; cases b; simp only at g0 g1 g2; subst g0 g1 g2; rfl)]
theorem eq_Limpl_Ask {a b : (List S_impl_Ask)} (h : wt_Limpl_Ask a ≤ 100000000000) : m_laws_eqAskS a b = some (decide (a = b)) := by
  have hl : a.length ≤ 100000000000 := by have := wt_Limpl_Ask_len (l := a); omega
  unfold m_laws_eqAskS; refine eqLoop a b (fun f k => m_laws_eqAskS_l1 f a b k) (fun f k x y hx hy hk => ?_) (fun f => by rw [m_laws_eqAskS_l1, dnlt]; rfl) (by omega); rw [m_laws_eqAskS_l1, dlt (lt_of_at hx), cond_true, at_of hx, Option.bind_some, at_of hy, Option.bind_some, eq_impl_Ask, Option.bind_some, ck1 (by omega), Option.bind_some]; rfl
theorem eq_impl_Locks {a b : S_impl_Locks} (h : wt_impl_Locks a ≤ 100000000000) : m_laws_eqLocks a b = some (decide (a = b)) := by
  unfold wt_impl_Locks at h; unfold m_laws_eqLocks; rw [eq_Limpl_Ask (by omega), Option.bind_some]
  by_cases g0 : a.Held = b.Held
  case neg => rw [decide_eq_false g0, Bool.not_false, cond_true, decide_eq_false (fun e => g0 (by rw [e]))]
  rw [decide_eq_true g0, Bool.not_true, cond_false]; rw [eq_Limpl_Ask (by omega), Option.bind_some]
  by_cases g1 : a.Queue = b.Queue
  case neg => rw [decide_eq_false g1, Bool.not_false, cond_true, decide_eq_false (fun e => g1 (by rw [e]))]
  rw [decide_eq_true g1, Bool.not_true, cond_false]; rw [decide_eq_true (show a = b by cases a; cases b; simp only at g0 g1; subst g0 g1; rfl)]
def total (left : List Rows) : Nat := left.flatten.length
theorem scanFind {α R : Type} {p : α → Bool} {F : Option α → Option R} (xs : List α) (L : Nat → Int → Option R)
    (hs : ∀ n (k : Nat) x, xs[k]? = some x → L (n + 1) (k : Int) = bif p x then F (some x) else L n ((k : Int) + 1)) (he : ∀ n, L (n + 1) (xs.length : Int) = F none)
    (n : Nat) (hn : xs.length < n) : L n 0 = F (xs.find? p) := by
  have := scanC xs (fun n k (_ : Unit) => L n k) (fun x s k => bif p x then F (some x) else k s) (fun _ => F none) (fun n k x s hx => hs n k x hx) (fun n s => he n) n hn (); rw [this]
  have key : ∀ l : List α, foldC (S := Unit) (fun x s k => bif p x then F (some x) else k s) (fun _ => F none) l () = F (l.find? p) := by
    intro l
    induction l with
    | nil => rfl
    | cons x l ih =>
      rw [foldC, List.find?_cons]; cases p x with
      | true => rw [cond_true]
      | false => rw [cond_false]; exact ih
  exact key xs
def markM {α : Type} (mk : Int → α → α) (w : α → Int) : Int → List α → List α
  | _, [] => []
  | c, x :: r => mk c x :: markM mk w (c + w x) r
def endM {α : Type} (w : α → Int) : Int → List α → Int
  | c, [] => c
  | c, x :: r => endM w (c + w x) r
theorem markM_len {α : Type} {mk : Int → α → α} {w : α → Int} : ∀ (c : Int) (l : List α), (markM mk w c l).length = l.length
  | _, [] => rfl
  | c, x :: l => by rw [markM, List.length_cons, List.length_cons, markM_len]
theorem endM_ge {α : Type} {w : α → Int} (hw : ∀ x, 0 ≤ w x) : ∀ (c : Int) (l : List α), c ≤ endM w c l
  | c, [] => Int.le_refl _
  | c, x :: l => by
    have := endM_ge hw (c + w x) l; have := hw x; rw [endM]; omega
theorem markLoop {α : Type} {mk : Int → α → α} {w : α → Int} {B : Int} {ok : α → Prop} (hw : ∀ x, 0 ≤ w x) (L : Nat → Int → Int → List α → Option (Int × List α))
    (hs : ∀ (f : Nat) (d : List α) (x : α) (r : List α) (c : Int), d.length < 1000000000000 → 0 ≤ c → c + w x ≤ B → ok x → L (f + 1) c (d.length : Int) (d ++ x :: r) = L f (c + w x) ((d.length + 1 : Nat) : Int) (d ++ mk c x :: r))
    (he : ∀ (f : Nat) (c : Int) (o : List α), L (f + 1) c (o.length : Int) o = some (c, o)) :
    ∀ (r d : List α) (c : Int) (f : Nat), r.length < f → (∀ x ∈ r, ok x) → 0 ≤ c → endM w c r ≤ B → d.length + r.length ≤ 900000000000 → L f c (d.length : Int) (d ++ r) = some (endM w c r, d ++ markM mk w c r)
  | [], d, c, f, hf, _, _, _, _ => by
    obtain ⟨f, rfl⟩ : ∃ q, f = q + 1 := ⟨f - 1, by omega⟩; rw [List.append_nil, he]; simp [markM, endM]
  | x :: r, d, c, f, hf, hok, hc, hB, hl => by
    obtain ⟨f, rfl⟩ : ∃ q, f = q + 1 := ⟨f - 1, by omega⟩; rw [endM] at hB ⊢; have h1 := endM_ge hw (c + w x) r; have h2 := hw x; rw [List.length_cons] at hf hl; rw [hs f d x r c (by omega) hc (by omega) (hok x (by simp))]; have ih := markLoop hw L hs he r (d ++ [mk c x]) (c + w x) f (by omega) (fun y hy => hok y (by simp [hy])) (by omega) hB (by rw [List.length_append, List.length_singleton]; omega); rw [List.append_assoc, List.singleton_append, List.length_append, List.length_singleton] at ih; rw [ih, markM, List.append_assoc, List.singleton_append]
theorem set_at {α : Type} {d r : List α} {x y : α} : (d ++ x :: r).set d.length y = d ++ y :: r := by rw [List.set_append_right _ _ (Nat.le_refl _)]; simp
theorem at_at {α : Type} {d r : List α} {x : α} : at? (d ++ x :: r) (d.length : Int) = some x := at_of (by simp)
theorem lt_at {α : Type} {d r : List α} {x : α} : decide ((d.length : Int) < ((d ++ x :: r).length : Int)) = true := decide_eq_true (by rw [List.length_append, List.length_cons]; omega)
def mkI (c : Int) (_ : Int) : Int := c
def wI (_ : Int) : Int := 1
theorem endI (c : Int) : ∀ l : List Int, endM wI c l = c + l.length
  | [] => by simp [endM]
  | x :: l => by rw [endM, endI (c + wI x) l, List.length_cons]; unfold wI; push_cast; omega
theorem E_markI {l : List Int} {k : Int} (hk : 0 ≤ k) (hB : k + l.length ≤ 1000000000000) (hl : l.length ≤ 900000000000) : m_laws_markIntS l k = some (k + l.length, markM mkI wI k l) := by
  unfold m_laws_markIntS
  have := markLoop (mk := mkI) (w := wI) (B := 1000000000000) (ok := fun _ => True) (fun _ => by unfold wI; decide) (fun f c i o => m_laws_markIntS_l1 f c i o) (fun f d x r c hd hc hB _ => by
    have hB' : c + 1 ≤ 1000000000000 := hB; rw [m_laws_markIntS_l1, lt_at, cond_true, at_at, Option.bind_some, Option.bind_some, ltE, ckI_of (by omega) (by omega), Option.bind_some, ckI_of (by omega) (by omega), Option.bind_some, Int.toNat_natCast, set_at]; unfold mkI wI; rw [show ((d.length : Int) + 1) = ((d.length + 1 : Nat) : Int) by omega]) (fun f c o => by rw [m_laws_markIntS_l1, dnlt]; rfl) l [] k _ fuel0 (fun _ _ => trivial) hk (by rw [endI]; exact hB) (by simp only [List.length_nil]; omega)
  rw [endI] at this; exact this
abbrev Ak := S_impl_Ask
abbrev Lk := S_impl_Locks
def akB (a : Ak) : Bool := (decide (0 ≤ a.Who) && decide (a.Who ≤ 3)) && ((decide (0 ≤ a.Key) && decide (a.Key ≤ 4)) && (decide (1 ≤ a.Kind) && decide (a.Kind ≤ 2)))
def agB (a b : Ak) : Bool := decide (a.Key = b.Key) && (decide (a.Who ≠ b.Who) && (decide (a.Kind = 2) || decide (b.Kind = 2)))
def cvB (a b : Ak) : Bool := decide (a.Key = b.Key) && (decide (a.Who = b.Who) && decide (a.Kind ≥ b.Kind))
def swk (w k : Int) (b : Ak) : Bool := decide (b.Who = w) && decide (b.Key = k)
def hdA (a b : Ak) : Bool := decide (b.Key = a.Key) && decide (b.Who ≠ a.Who)
def rdB (held ahead : List Ak) (a : Ak) : Bool := !(ahead.any (hdA a)) && !(held.any fun b => agB b a)
def heldG (l : List Ak) (w k : Int) : Int := match l.find? (swk w k) with | some b => b.Kind | none => 0
theorem eqD (a b : Int) : (a == b) = decide (a = b) := rfl
theorem neD (a b : Int) : (a != b) = decide (a ≠ b) := by by_cases h : a = b <;> simp [h]
theorem agB_sym (a b : Ak) : agB a b = agB b a := by
  unfold agB; rw [Bool.eq_iff_iff]; simp only [Bool.and_eq_true, Bool.or_eq_true, decide_eq_true_eq]; constructor <;> (rintro ⟨h1, h2, h3⟩; exact ⟨h1.symm, fun e => h2 e.symm, h3.symm⟩)
theorem agB_self (a : Ak) : agB a a = false := by unfold agB; simp
theorem E_against (a b : Ak) : m_impl_Ask_against a b = some (agB a b) := by
  unfold m_impl_Ask_against m_impl_Ask_against_j1 agB; rw [eqD, neD, eqD, eqD]; cases decide (a.Key = b.Key) <;> cases decide (a.Who ≠ b.Who) <;> cases decide (a.Kind = 2) <;> rfl
theorem E_against_s (a b : Ak) : m_spec_l17Against a b = some (agB a b) := by
  unfold m_spec_l17Against m_spec_l17Against_j1 agB; rw [eqD, neD, eqD, eqD]; cases decide (a.Key = b.Key) <;> cases decide (a.Who ≠ b.Who) <;> cases decide (a.Kind = 2) <;> rfl
theorem E_covers (a b : Ak) : m_impl_Ask_covers a b = some (cvB a b) := by
  unfold m_impl_Ask_covers m_impl_Ask_covers_j1 cvB; rw [eqD, eqD]; cases decide (a.Key = b.Key) <;> cases decide (a.Who = b.Who) <;> rfl
theorem E_Ask_ok (a : Ak) : m_impl_Ask_ok a = some (akB a) := by
  unfold m_impl_Ask_ok m_impl_Ask_ok_j1 m_impl_keyOk akB; simp only [E_between, Option.bind_some]; cases (decide (0 ≤ a.Who) && decide (a.Who ≤ 3)) <;> cases (decide (0 ≤ a.Key) && decide (a.Key ≤ 4)) <;> rfl
theorem E_l17Ask (a : Ak) : m_spec_l17Ask a = some (akB a) := by
  unfold m_spec_l17Ask m_spec_l17Ask_j1 akB; simp only [E_l1In, Option.bind_some]; cases (decide (0 ≤ a.Who) && decide (a.Who ≤ 3)) <;> cases (decide (0 ≤ a.Key) && decide (a.Key ≤ 4)) <;> rfl
theorem E_ContainsM {l : List Ak} {p : Ak → Option Bool} {q : Ak → Bool} (hl : l.length ≤ 900000000) (hp : ∀ v ∈ l, p v = some (q v)) : m_slices_ContainsFunc_Limpl_Ask_impl_Ask_m l p = some (l.any q) := by
  unfold m_slices_ContainsFunc_Limpl_Ask_impl_Ask_m m_slices_IndexFunc_Limpl_Ask_impl_Ask_m
  rw [scanI (q := q) (g := fun i => some i) l (fun n k => m_slices_IndexFunc_Limpl_Ask_impl_Ask_m_l1 p n l (l.length : Int) k) (fun n k x hx => by
    have := lt_of_at hx; rw [m_slices_IndexFunc_Limpl_Ask_impl_Ask_m_l1, dlt this, cond_true, at_of hx, Option.bind_some, hp x (List.mem_of_getElem? hx), Option.bind_some, ck1 (by omega), Option.bind_some]) (fun n => by rw [m_slices_IndexFunc_Limpl_Ask_impl_Ask_m_l1, dnlt]; rfl) _ fuel0, Option.bind_some]
  rw [(idxI_ge q l).2.2]
theorem E_free {l : Lk} {a : Ak} {ahead : List Ak} (h1 : l.Held.length ≤ 900000000) (h2 : ahead.length ≤ 900000000) : m_impl_Locks_free l a ahead = some (rdB l.Held ahead a) := by
  unfold m_impl_Locks_free m_impl_Locks_free_j1 rdB
  rw [E_ContainsM (q := fun b => agB b a) h1 (fun b _ => by rw [E_against, agB_sym]), Option.bind_some, L_slices_ContainsFunc_Limpl_Ask_impl_Ask (q := hdA a) h2 (fun b _ => by
    unfold m_impl_Locks_free_1 m_impl_Locks_free_1_j1 hdA; rw [eqD, neD]; cases decide (b.Key = a.Key) <;> rfl), Option.bind_some]
  cases (l.Held.any fun b => agB b a) <;> cases (ahead.any (hdA a)) <;> rfl
theorem E_blocked {l : List Ak} {a : Ak} (h : l.length ≤ 900000000) : m_spec_l17Blocked l a = some (l.any fun b => agB b a) := by
  unfold m_spec_l17Blocked
  have e := scanA (p := fun b => agB b a) (r0 := true) (r1 := false) l (fun n k => m_spec_l17Blocked_l1 n l a k) (fun n k x hx => by
    have := lt_of_at hx; rw [m_spec_l17Blocked_l1, dlt this, cond_true, at_of hx, Option.bind_some, E_against_s, Option.bind_some, ck1 (by omega), Option.bind_some]) (fun n => by rw [m_spec_l17Blocked_l1, dnlt]; rfl) _ fuel0
  rw [e]; cases (l.any fun b => agB b a) <;> rfl
theorem E_ready {held ahead : List Ak} {a : Ak} (h1 : held.length ≤ 900000000) (h2 : ahead.length ≤ 900000000) : m_spec_l17Ready held ahead a = some (rdB held ahead a) := by
  unfold m_spec_l17Ready rdB
  have e := scanA (p := hdA a) (r0 := false) (r1 := !(held.any fun b => agB b a)) ahead (fun n k => m_spec_l17Ready_l1 n held ahead a k) (fun n k x hx => by
    have := lt_of_at hx; rw [m_spec_l17Ready_l1, dlt this, cond_true, at_of hx, Option.bind_some, Option.bind_some, eqD, neD]; unfold m_spec_l17Ready_j1 hdA; rw [ck1 (by omega), Option.bind_some]; cases decide (x.Key = a.Key) <;> rfl) (fun n => by
    rw [m_spec_l17Ready_l1, dnlt, cond_false]; unfold m_spec_l17Ready_j2; rw [E_blocked h1]; rfl) _ fuel0
  rw [e]; cases (ahead.any (hdA a)) <;> rfl
theorem E_heldG {l : List Ak} {w k : Int} (h : l.length ≤ 900000000) : m_spec_l17Held l w k = some (heldG l w k) := by
  unfold m_spec_l17Held
  have e := scanFind (p := swk w k) (F := fun o => some (match o with | some b => b.Kind | none => 0)) l (fun n j => m_spec_l17Held_l1 n l w k j) (fun n j x hx => by
    have := lt_of_at hx; rw [m_spec_l17Held_l1, dlt this, cond_true, at_of hx, Option.bind_some, Option.bind_some]; unfold m_spec_l17Held_j1 swk; rw [ck1 (by omega), Option.bind_some, at_of hx, Option.bind_some, eqD, eqD]; cases decide (x.Who = w) <;> rfl) (fun n => by rw [m_spec_l17Held_l1, dnlt]; rfl) _ fuel0
  rw [e]; rfl
theorem scanP {α R : Type} {P : Nat → α → Bool} {r0 e : Option R} (xs : List α) (L : Nat → Int → Option R) (hs : ∀ n (k : Nat) x, xs[k]? = some x → L (n + 1) (k : Int) = bif P k x then r0 else L n ((k : Int) + 1)) (he : ∀ n, L (n + 1) (xs.length : Int) = e) (n : Nat) (hn : xs.length < n) :
    ((∀ k x, xs[k]? = some x → P k x = false) → L n 0 = e) ∧ (¬(∀ k x, xs[k]? = some x → P k x = false) → L n 0 = r0) := by
  have key : ∀ (d k n : Nat), k + d = xs.length → d < n → ((∀ j x, k ≤ j → xs[j]? = some x → P j x = false) → L n (k : Int) = e) ∧ (¬(∀ j x, k ≤ j → xs[j]? = some x → P j x = false) → L n (k : Int) = r0) := by
    intro d
    induction d with
    | zero =>
      intro k n hk hn; obtain ⟨m, rfl⟩ : ∃ m, n = m + 1 := ⟨n - 1, by omega⟩; obtain rfl : k = xs.length := by omega
      refine ⟨fun _ => he m, fun h => absurd (fun j x hj hx => ?_) h⟩; rw [List.getElem?_eq_none hj] at hx; cases hx
    | succ d ih =>
      intro k n hk hn; obtain ⟨m, rfl⟩ : ∃ m, n = m + 1 := ⟨n - 1, by omega⟩; have hx : xs[k]? = some xs[k] := List.getElem?_eq_getElem (by omega); rw [hs m k _ hx]; cases hp : P k xs[k] with
      | true =>
        refine ⟨fun h => ?_, fun _ => rfl⟩; rw [h k _ (Nat.le_refl _) hx] at hp; cases hp
      | false =>
        obtain ⟨i1, i2⟩ := ih (k + 1) m (by omega) (by omega); rw [cond_false, show ((k : Int) + 1) = ((k + 1 : Nat) : Int) by omega]; refine ⟨fun h => i1 fun j x hj hjx => h j x (by omega) hjx, fun h => i2 fun h2 => h fun j x hj hjx => ?_⟩; rcases Nat.eq_or_lt_of_le hj with rfl | hj
        · rw [hx] at hjx; cases hjx; exact hp
        · exact h2 j x hj hjx
  obtain ⟨k1, k2⟩ := key xs.length 0 n (by omega) hn; exact ⟨fun h => k1 fun k x _ hx => h k x hx, fun h => k2 fun h2 => h fun k x hx => h2 k x (Nat.zero_le _) hx⟩
theorem cut_take {l : List Ak} {k : Nat} (h : k < l.length) : cut? l 0 (k : Int) = some (l.take k) := by
  have := cut_of (lo := 0) (hi := k) (l := l) (by omega) (by omega); simpa using this
def PHI (H : List Ak) (k : Nat) (x : Ak) : Bool := !(akB x) || (H.take k).any fun b => (decide (b.Who = x.Who) && decide (b.Key = x.Key)) || agB b x
def PHS (H : List Ak) (k : Nat) (x : Ak) : Bool := !(akB x) || (decide (heldG (H.take k) x.Who x.Key > 0) || H.any fun b => agB b x)
def PQI (H Q : List Ak) (k : Nat) (x : Ak) : Bool := !(akB x) || ((Q.take k).any (fun b => decide (b.Who = x.Who)) || (H.any (fun b => cvB b x) || rdB H (Q.take k) x))
def PQS (H Q : List Ak) (k : Nat) (x : Ak) : Bool := (!(akB x) || (decide (heldG H x.Who x.Key ≥ x.Kind) || rdB H (Q.take k) x)) || (Q.take k).any fun b => decide (b.Who = x.Who)
theorem E_impl_LocksOk {l : Lk} (h1 : l.Held.length ≤ 1100000) (h2 : l.Queue.length ≤ 1100000) : ∃ b, m_impl_LocksOk l = some b ∧ (b = true ↔ ((∀ k x, l.Held[k]? = some x → PHI l.Held k x = false) ∧ ∀ k x, l.Queue[k]? = some x → PQI l.Held l.Queue k x = false)) := by
  unfold m_impl_LocksOk
  have e2 := scanP (P := PQI l.Held l.Queue) (r0 := some false) (e := some true) l.Queue (fun n k => m_impl_LocksOk_l2 n l l.Queue (l.Queue.length : Int) k) (fun n k x hx => by
    have hlt := lt_of_at hx
    rw [m_impl_LocksOk_l2, dlt hlt, cond_true, at_of hx, Option.bind_some, ltE, E_Ask_ok, Option.bind_some, cut_take hlt, Option.bind_some, L_slices_ContainsFunc_Limpl_Ask_impl_Ask (p := fun b0_ => m_impl_LocksOk_2 b0_ x) (q := fun b => decide (b.Who = x.Who)) (by simp; omega) (fun b _ => rfl), Option.bind_some,
      L_slices_ContainsFunc_Limpl_Ask_impl_Ask (q := fun b => cvB b x) (by omega) (fun b _ => by unfold m_impl_LocksOk_3; rw [E_covers]; rfl), Option.bind_some, Option.bind_some, E_free (by omega) (by simp; omega), Option.bind_some]
    unfold m_impl_LocksOk_j3 PQI; rw [ck1 (by omega), Option.bind_some]; cases akB x <;> cases ((l.Queue.take k).any fun b => decide (b.Who = x.Who)) <;> cases (l.Held.any fun b => cvB b x) <;> rfl) (fun n => by rw [m_impl_LocksOk_l2, dnlt]; rfl) _ fuel0
  have e1 := scanP (P := PHI l.Held) (r0 := some false) (e := m_impl_LocksOk_j2 l) l.Held (fun n k => m_impl_LocksOk_l1 n l l.Held (l.Held.length : Int) k) (fun n k x hx => by
    have hlt := lt_of_at hx
    rw [m_impl_LocksOk_l1, dlt hlt, cond_true, at_of hx, Option.bind_some, ltE, E_Ask_ok, Option.bind_some, cut_take hlt, Option.bind_some, L_slices_ContainsFunc_Limpl_Ask_impl_Ask (q := fun b => (decide (b.Who = x.Who) && decide (b.Key = x.Key)) || agB b x) (by simp; omega) (fun b _ => by
      unfold m_impl_LocksOk_1 m_impl_LocksOk_1_j1; rw [E_against, Option.bind_some, eqD, eqD]; cases decide (b.Who = x.Who) <;> cases decide (b.Key = x.Key) <;> rfl), Option.bind_some]
    unfold m_impl_LocksOk_j1 PHI; rw [ck1 (by omega), Option.bind_some]; cases akB x <;> rfl) (fun n => by rw [m_impl_LocksOk_l1, dnlt]; rfl) _ fuel0
  by_cases hA : ∀ k x, l.Held[k]? = some x → PHI l.Held k x = false
  · have e1' := e1.1 hA
    unfold m_impl_LocksOk_j2 at e1'
    by_cases hB : ∀ k x, l.Queue[k]? = some x → PQI l.Held l.Queue k x = false
    · exact ⟨true, e1'.trans (e2.1 hB), ⟨fun _ => ⟨hA, hB⟩, fun _ => rfl⟩⟩
    · exact ⟨false, e1'.trans (e2.2 hB), ⟨fun h => (by cases h), fun h => absurd h.2 hB⟩⟩
  · exact ⟨false, e1.2 hA, ⟨fun h => (by cases h), fun h => absurd h.1 hA⟩⟩
theorem E_spec_LocksOk {l : Lk} (h1 : l.Held.length ≤ 1100000) (h2 : l.Queue.length ≤ 1100000) : ∃ b, m_spec_LocksOk l = some b ∧ (b = true ↔ ((∀ k x, l.Held[k]? = some x → PHS l.Held k x = false) ∧ ∀ k x, l.Queue[k]? = some x → PQS l.Held l.Queue k x = false)) := by
  unfold m_spec_LocksOk
  have e2 := scanP (P := PQS l.Held l.Queue) (r0 := some false) (e := some true) l.Queue (fun n k => m_spec_LocksOk_l2 n l k) (fun n k x hx => by
    have hlt := lt_of_at hx
    have hin : ∀ m, m_spec_LocksOk_l3 (m_spec_LocksOk_l2 m) (((k : Int) - 0).toNat + 1) l (k : Int) 0 x = bif ((l.Queue.take k).any fun b => decide (b.Who = x.Who)) then some false else m_spec_LocksOk_l2 m l ((k : Int) + 1) := by
      intro m; have hlk : (l.Queue.take k).length = k := by simp; omega
      have e := scanC (l.Queue.take k) (fun n j (_ : Unit) => m_spec_LocksOk_l3 (m_spec_LocksOk_l2 m) n l (k : Int) j x) (fun b s c => bif decide (b.Who = x.Who) then some false else c s) (fun _ => m_spec_LocksOk_l2 m l ((k : Int) + 1)) (fun n j b s hj => by
        have hjl := lt_of_at hj; rw [List.getElem?_take, if_pos (by omega)] at hj; rw [m_spec_LocksOk_l3, dlt (by omega), cond_true, at_of hj, Option.bind_some, eqD, ck1 (by omega), Option.bind_some]) (fun n s => by
        rw [hlk, m_spec_LocksOk_l3, dnlt, cond_false]; unfold m_spec_LocksOk_j4; rw [ck1 (by omega), Option.bind_some]) (((k : Int) - 0).toNat + 1) (by omega) ()
      rw [e]; generalize l.Queue.take k = T
      induction T with
      | nil => rfl
      | cons b T ih =>
        rw [List.any_cons]; show (bif decide (b.Who = x.Who) then some false else _) = _; cases decide (b.Who = x.Who) with
        | true => rfl
        | false => exact ih
    rw [m_spec_LocksOk_l2, dlt hlt, cond_true, at_of hx, Option.bind_some, ltE, E_l17Ask, Option.bind_some, E_heldG (by omega), Option.bind_some, cut_take hlt, Option.bind_some, E_ready (by omega) (by simp; omega), Option.bind_some]; unfold m_spec_LocksOk_j3 PQS; rw [hin]; cases akB x <;> cases decide (heldG l.Held x.Who x.Key ≥ x.Kind) <;> cases rdB l.Held (l.Queue.take k) x <;> rfl) (fun n => by rw [m_spec_LocksOk_l2, dnlt]; rfl) _ fuel0
  have e1 := scanP (P := PHS l.Held) (r0 := some false) (e := m_spec_LocksOk_j2 l) l.Held (fun n k => m_spec_LocksOk_l1 n l k) (fun n k x hx => by
    have hlt := lt_of_at hx; rw [m_spec_LocksOk_l1, dlt hlt, cond_true, at_of hx, Option.bind_some, E_l17Ask, Option.bind_some, cut_take hlt, Option.bind_some, Option.bind_some, Option.bind_some, E_heldG (by simp; omega), Option.bind_some, Option.bind_some, E_blocked (by omega), Option.bind_some]; unfold m_spec_LocksOk_j1 PHS; rw [ck1 (by omega), Option.bind_some]; cases akB x <;> cases decide (heldG (l.Held.take k) x.Who x.Key > 0) <;> rfl) (fun n => by rw [m_spec_LocksOk_l1, dnlt]; rfl) _ fuel0
  by_cases hA : ∀ k x, l.Held[k]? = some x → PHS l.Held k x = false
  · have e1' := e1.1 hA
    unfold m_spec_LocksOk_j2 at e1'
    by_cases hB : ∀ k x, l.Queue[k]? = some x → PQS l.Held l.Queue k x = false
    · exact ⟨true, e1'.trans (e2.1 hB), ⟨fun _ => ⟨hA, hB⟩, fun _ => rfl⟩⟩
    · exact ⟨false, e1'.trans (e2.2 hB), ⟨fun h => (by cases h), fun h => absurd h.2 hB⟩⟩
  · exact ⟨false, e1.2 hA, ⟨fun h => (by cases h), fun h => absurd h.1 hA⟩⟩
theorem mem_take_at {α : Type} {l : List α} {j k : Nat} {b : α} (h : l[j]? = some b) (hj : j < k) : b ∈ l.take k :=
  List.mem_of_getElem? (i := j) (by rw [List.getElem?_take, if_pos hj]; exact h)
theorem PHI_ok {H : List Ak} {k : Nat} {x : Ak} (h : PHI H k x = false) : akB x = true ∧ ∀ b ∈ H.take k, ¬(b.Who = x.Who ∧ b.Key = x.Key) ∧ agB b x = false := by
  unfold PHI at h; rw [Bool.or_eq_false_iff] at h; refine ⟨by simpa using h.1, fun b hb => ?_⟩; have := List.any_eq_false.1 h.2 b hb; simp only [Bool.or_eq_true, Bool.and_eq_true, decide_eq_true_eq, not_or] at this; exact ⟨this.1, by simpa using this.2⟩
theorem PHI_mk {H : List Ak} {k : Nat} {x : Ak} (h1 : akB x = true) (h2 : ∀ b ∈ H.take k, ¬(b.Who = x.Who ∧ b.Key = x.Key) ∧ agB b x = false) : PHI H k x = false := by
  unfold PHI; rw [h1, Bool.not_true, Bool.false_or, List.any_eq_false]; intro b hb; simp only [Bool.or_eq_true, Bool.and_eq_true, decide_eq_true_eq, not_or]; exact ⟨(h2 b hb).1, by rw [(h2 b hb).2]; simp⟩
theorem akB_k {a : Ak} (h : akB a = true) : (0 ≤ a.Who ∧ a.Who ≤ 3) ∧ 1 ≤ a.Kind := by
  unfold akB at h; simp only [Bool.and_eq_true, decide_eq_true_eq] at h; omega
theorem heldG_pos {T : List Ak} {w k : Int} (hT : ∀ b ∈ T, akB b = true) : heldG T w k > 0 ↔ ∃ b ∈ T, b.Who = w ∧ b.Key = k := by
  unfold heldG; cases hf : T.find? (swk w k) with
  | none =>
    have := List.find?_eq_none.1 hf; constructor
    · intro h; simp at h
    · rintro ⟨b, hb, h1, h2⟩
      exact absurd (by unfold swk; rw [decide_eq_true h1, decide_eq_true h2]; rfl) (this b hb)
  | some b =>
    have h1 := List.find?_some hf; have h2 := List.mem_of_find?_eq_some hf; unfold swk at h1; simp only [Bool.and_eq_true, decide_eq_true_eq] at h1; have := (akB_k (hT b h2)).2; exact ⟨fun _ => ⟨b, h2, h1.1, h1.2⟩, fun _ => by show b.Kind > 0; omega⟩
def HI (H : List Ak) : Prop := ∀ k x, H[k]? = some x → PHI H k x = false
theorem HI_ak {H : List Ak} (h : HI H) : ∀ b ∈ H, akB b = true := fun b hb => by
  obtain ⟨k, hk⟩ := List.getElem?_of_mem hb; exact (PHI_ok (h k b hk)).1
theorem HI_HS {H : List Ak} : HI H ↔ ∀ k x, H[k]? = some x → PHS H k x = false := by
  constructor
  · intro h k x hx
    obtain ⟨h1, h2⟩ := PHI_ok (h k x hx); have hb := heldG_pos (T := H.take k) (w := x.Who) (k := x.Key) fun b hb => HI_ak h b (List.mem_of_mem_take hb); unfold PHS; rw [h1, Bool.not_true, Bool.false_or, Bool.or_eq_false_iff, decide_eq_false_iff_not, List.any_eq_false]; refine ⟨fun hp => ?_, fun b hbm hag => ?_⟩
    · obtain ⟨b, hb1, hb2⟩ := hb.1 hp
      exact (h2 b hb1).1 hb2
    · obtain ⟨j, hj⟩ := List.getElem?_of_mem hbm
      rcases Nat.lt_trichotomy j k with hl | rfl | hl
      · rw [(h2 b (mem_take_at hj hl)).2] at hag; cases hag
      · rw [hx] at hj; cases hj; rw [agB_self] at hag; cases hag
      · have := (PHI_ok (h j b hj)).2 x (mem_take_at hx hl)
        rw [agB_sym, this.2] at hag; cases hag
  · intro h k x hx
    have hak : ∀ j y, H[j]? = some y → akB y = true := fun j y hy => by
      have := h j y hy; unfold PHS at this; rw [Bool.or_eq_false_iff] at this; simpa using this.1
    have hs := h k x hx; unfold PHS at hs; rw [Bool.or_eq_false_iff, Bool.or_eq_false_iff, decide_eq_false_iff_not, List.any_eq_false] at hs; refine PHI_mk (hak k x hx) fun b hb => ⟨fun e => hs.2.1 ?_, ?_⟩
    · refine (heldG_pos fun b hb => ?_).2 ⟨b, hb, e⟩
      obtain ⟨j, hj⟩ := List.getElem?_of_mem (List.mem_of_mem_take hb); exact hak j b hj
    · simpa using hs.2.2 b (List.mem_of_mem_take hb)
theorem HI_uniq {H : List Ak} (h : HI H) {b c : Ak} (hb : b ∈ H) (hc : c ∈ H) (e1 : b.Who = c.Who) (e2 : b.Key = c.Key) : b = c := by
  obtain ⟨i, hi⟩ := List.getElem?_of_mem hb; obtain ⟨j, hj⟩ := List.getElem?_of_mem hc; rcases Nat.lt_trichotomy i j with hl | rfl | hl
  · exact absurd ⟨e1, e2⟩ ((PHI_ok (h j c hj)).2 b (mem_take_at hi hl)).1
  · rw [hi] at hj; exact Option.some.inj hj
  · exact absurd ⟨e1.symm, e2.symm⟩ ((PHI_ok (h i b hi)).2 c (mem_take_at hj hl)).1
theorem cov_held {H : List Ak} (h : HI H) {x : Ak} (hx : akB x = true) : (H.any fun b => cvB b x) = decide (heldG H x.Who x.Key ≥ x.Kind) := by
  have hk := (akB_k hx).2; rw [Bool.eq_iff_iff, decide_eq_true_eq, List.any_eq_true]; unfold heldG; cases hf : H.find? (swk x.Who x.Key) with
  | none =>
    have := List.find?_eq_none.1 hf; constructor
    · rintro ⟨b, hb, hc⟩
      unfold cvB at hc; simp only [Bool.and_eq_true, decide_eq_true_eq] at hc; exact absurd (by unfold swk; rw [decide_eq_true hc.2.1, decide_eq_true hc.1]; rfl) (this b hb)
    · intro h0
      have h0' : (0 : Int) ≥ x.Kind := h0; omega
  | some b =>
    have h1 := List.find?_some hf; have h2 := List.mem_of_find?_eq_some hf; unfold swk at h1; simp only [Bool.and_eq_true, decide_eq_true_eq] at h1; constructor
    · rintro ⟨c, hc, hcv⟩
      unfold cvB at hcv; simp only [Bool.and_eq_true, decide_eq_true_eq] at hcv; have : c = b := HI_uniq h hc h2 (by rw [hcv.2.1, h1.1]) (by rw [hcv.1, h1.2]); subst this; exact hcv.2.2
    · intro h0
      refine ⟨b, h2, ?_⟩; unfold cvB; rw [decide_eq_true h1.2, decide_eq_true h1.1, decide_eq_true h0]; rfl
def LkOk (l : Lk) : Prop := HI l.Held ∧ ∀ k x, l.Queue[k]? = some x → PQI l.Held l.Queue k x = false
theorem ok_same {l : Lk} : LkOk l ↔ ((∀ k x, l.Held[k]? = some x → PHS l.Held k x = false) ∧ ∀ k x, l.Queue[k]? = some x → PQS l.Held l.Queue k x = false) := by
  unfold LkOk; rw [← HI_HS]; refine and_congr_right fun h => ?_
  have key : ∀ k x, PQI l.Held l.Queue k x = PQS l.Held l.Queue k x := by
    intro k x; unfold PQI PQS; cases hx : akB x with
    | false => rfl
    | true =>
      rw [cov_held h hx]; cases ((l.Queue.take k).any fun b => decide (b.Who = x.Who)) <;> cases decide (heldG l.Held x.Who x.Key ≥ x.Kind) <;> cases rdB l.Held (l.Queue.take k) x <;> rfl
  constructor
  · intro hq k x hx; rw [← key]; exact hq k x hx
  · intro hq k x hx; rw [key]; exact hq k x hx
theorem Q_ak {l : Lk} (h : LkOk l) : ∀ b ∈ l.Queue, akB b = true := fun b hb => by
  obtain ⟨k, hk⟩ := List.getElem?_of_mem hb; have := h.2 k b hk; unfold PQI at this; rw [Bool.or_eq_false_iff] at this; simpa using this.1
theorem strict_eq : ∀ {a b : List Int}, a.Pairwise (· < ·) → b.Pairwise (· < ·) → (∀ x, x ∈ a ↔ x ∈ b) → a = b
  | [], [], _, _, _ => rfl
  | [], y :: b, _, _, h => by have := (h y).2 (by simp); simp at this
  | x :: a, [], _, _, h => by have := (h x).1 (by simp); simp at this
  | x :: a, y :: b, ha, hb, h => by
    obtain ⟨a1, a2⟩ := List.pairwise_cons.1 ha; obtain ⟨b1, b2⟩ := List.pairwise_cons.1 hb
    have hxy : x = y := by
      rcases List.mem_cons.1 ((h x).1 (by simp)) with e | hx
      · exact e
      · rcases List.mem_cons.1 ((h y).2 (by simp)) with e | hy
        · exact e.symm
        · have := b1 x hx; have := a1 y hy; omega
    subst hxy
    congr 1
    refine strict_eq a2 b2 fun z => ?_; have hz := h z; rw [List.mem_cons, List.mem_cons] at hz; constructor
    · intro hm
      have := a1 z hm; exact (hz.1 (.inr hm)).resolve_left (by omega)
    · intro hm
      have := b1 z hm; exact (hz.2 (.inr hm)).resolve_left (by omega)
def eqI (x y : Int) : Bool := decide (x = y)
theorem goC_strict : ∀ (l : List Int) (p : Int), (p :: l).Pairwise (· ≤ ·) → (p :: goC eqI p l).Pairwise (· < ·) ∧ ∀ x, x ∈ p :: goC eqI p l ↔ x ∈ p :: l
  | [], p, _ => ⟨by simp [goC], by simp [goC]⟩
  | y :: l, p, h => by
    obtain ⟨h1, h2⟩ := List.pairwise_cons.1 h; have hpy := h1 y (by simp); rw [goC]
    by_cases e : y = p
    · subst e
      rw [if_pos (show eqI y y = true from decide_eq_true rfl)]; obtain ⟨i1, i2⟩ := goC_strict l y h2; exact ⟨i1, fun x => by rw [i2 x]; simp⟩
    · rw [if_neg (by unfold eqI; simpa using e)]
      obtain ⟨i1, i2⟩ := goC_strict l y h2; refine ⟨List.pairwise_cons.2 ⟨fun z hz => ?_, i1⟩, fun x => by rw [List.mem_cons, i2 x, List.mem_cons (a := x) (b := p)]⟩; rcases List.mem_cons.1 hz with rfl | hz'
      · omega
      · have := (List.pairwise_cons.1 i1).1 z hz'; omega
theorem sortC {W : List Int} : (compactE eqI (W.mergeSort fun x y => decide (x ≤ y))).Pairwise (· < ·) ∧ ∀ x, x ∈ compactE eqI (W.mergeSort fun x y => decide (x ≤ y)) ↔ x ∈ W := by
  have hs : (W.mergeSort fun x y => decide (x ≤ y)).Pairwise (· ≤ ·) := by
    have := List.pairwise_mergeSort (le := fun x y : Int => decide (x ≤ y)) (fun a b c h1 h2 => by simp at *; omega) (fun a b => by simp; omega) W; exact this.imp fun h => by simpa using h
  have hp := List.mergeSort_perm W (fun x y => decide (x ≤ y)); generalize (W.mergeSort fun x y => decide (x ≤ y)) = S at hs hp; cases S with
  | nil => exact ⟨List.Pairwise.nil, fun x => hp.mem_iff⟩
  | cons y l =>
    obtain ⟨i1, i2⟩ := goC_strict l y hs; exact ⟨i1, fun x => (i2 x).trans hp.mem_iff⟩
theorem idxI_at9 {α : Type} {q : α → Bool} : ∀ {l : List α}, 0 ≤ idxI q l → ∃ x, l[(idxI q l).toNat]? = some x ∧ q x = true ∧ ∀ y ∈ l.take (idxI q l).toNat, q y = false
  | [], h => by simp [idxI] at h
  | x :: l, h => by
    cases hq : q x with
    | true => rw [idxI_pos hq]; exact ⟨x, rfl, hq, by simp⟩
    | false =>
      rw [idxI_neg hq] at h ⊢
      by_cases h0 : idxI q l < 0
      · rw [if_pos h0] at h; omega
      · rw [if_neg h0] at h ⊢
        obtain ⟨y, h1, h2, h3⟩ := idxI_at9 (q := q) (l := l) (by omega); have e : (idxI q l + 1).toNat = (idxI q l).toNat + 1 := by omega
        refine ⟨y, by rw [e]; simpa using h1, h2, fun z hz => ?_⟩; rw [e, List.take_succ_cons] at hz; rcases List.mem_cons.1 hz with rfl | hz
        · exact hq
        · exact h3 z hz
theorem E_clone_int {l : List Int} (h : l.length ≤ 900000000) : m_impl_clone_int l = some l := by
  unfold m_impl_clone_int appN?; cases l with
  | nil => rfl
  | cons x l =>
    have e : (((x :: l).length : Int) == 0) = false := by simp; omega
    rw [e, cond_false, if_pos ⟨by simp, by omega⟩, Option.bind_some]; rfl
def whoIs (who : Int) (b : Ak) : Bool := decide (b.Who = who)
def fH (a : Ak) (b : Ak) : Option Int := if agB b a = true then some b.Who else none
def fQ (a : Ak) (who : Int) (b : Ak) : Option Int := if b.Key = a.Key ∧ b.Who ≠ who then some b.Who else none
def wList (l : Lk) (who : Int) (n : Nat) (a : Ak) : List Int := l.Held.filterMap (fH a) ++ (l.Queue.take n).filterMap (fQ a who)
theorem foldl_fm {α β : Type} {g : α → Option β} : ∀ (xs : List α) (s : List β), xs.foldl (fun o x => o ++ (g x).toList) s = s ++ xs.filterMap g
  | [], s => by simp
  | x :: xs, s => by rw [List.foldl_cons, foldl_fm xs, List.filterMap_cons]; cases g x <;> simp
theorem E_waitsFor {l : Lk} {who : Int} {n : Nat} {a : Ak} (h1 : l.Held.length ≤ 1100000) (h2 : l.Queue.length ≤ 1100000) (hi : idxI (whoIs who) l.Queue = n) (ha : l.Queue[n]? = some a) : m_impl_Locks_waitsFor l who = some (compactE eqI ((wList l who n a).mergeSort fun x y => decide (x ≤ y))) := by
  unfold m_impl_Locks_waitsFor; rw [L_slices_IndexFunc_Limpl_Ask_impl_Ask (p := fun b0_ => m_impl_Locks_waitsFor_1 b0_ who) (q := whoIs who) (by omega) (fun b _ => rfl), Option.bind_some, hi, decide_eq_false (by omega), cond_false, at_of ha, Option.bind_some, ltE]; have hlt := lt_of_at ha
  have e1 := scanMF (f := fH a) (J := fun o => m_impl_Locks_waitsFor_j2 l who n a o) l.Held (fun m k o => m_impl_Locks_waitsFor_l1 m l who n l.Held (l.Held.length : Int) k a o) (fun m k b o hx ho => by
    have hk := lt_of_at hx; rw [m_impl_Locks_waitsFor_l1, dlt hk, cond_true, at_of hx, Option.bind_some, ltE, E_against, Option.bind_some]; unfold m_impl_Locks_waitsFor_j1 fH; rw [ck1 (by omega), Option.bind_some, app_of (by simp; omega), Option.bind_some, Option.bind_some]; cases agB b a with
    | true => rfl
    | false => rw [cond_false, if_neg (by simp), Option.toList_none, List.append_nil]) (fun m o ho => by rw [m_impl_Locks_waitsFor_l1, dnlt, cond_false]) _ fuel0
  rw [e1]; have hl1 : (l.Held.filterMap (fH a)).length ≤ l.Held.length := List.length_filterMap_le _ _; unfold m_impl_Locks_waitsFor_j2; rw [cut_take hlt, Option.bind_some]; have hlT : (l.Queue.take n).length ≤ 1100000 := by simp; omega
  have e2 := scanF (f := fun o x => o ++ (fQ a who x).toList) (J := fun o => m_impl_Locks_waitsFor_j5 o) (fun k o => o.length ≤ 1100000 + k) (l.Queue.take n) (fun m k o => m_impl_Locks_waitsFor_l2 m who (l.Queue.take n) ((l.Queue.take n).length : Int) k a o) (fun m k b o hx ho => by
    have hk := lt_of_at hx; rw [m_impl_Locks_waitsFor_l2, dlt hk, cond_true, at_of hx, Option.bind_some, ltE, eqD, neD]; unfold m_impl_Locks_waitsFor_j3 m_impl_Locks_waitsFor_j4 fQ; rw [ck1 (by omega), Option.bind_some, app_of (by simp; omega), Option.bind_some, Option.bind_some]
    by_cases c1 : b.Key = a.Key
    · by_cases c2 : b.Who ≠ who
      · rw [decide_eq_true c1, decide_eq_true c2, if_pos ⟨c1, c2⟩]
        exact ⟨rfl, by simp; omega⟩
      · rw [decide_eq_true c1, decide_eq_false c2, if_neg (fun h => c2 h.2), Option.toList_none, List.append_nil]
        exact ⟨rfl, by omega⟩
    · rw [decide_eq_false c1, if_neg (fun h => c1 h.1), Option.toList_none, List.append_nil]
      exact ⟨rfl, by omega⟩) (fun m o ho => by rw [m_impl_Locks_waitsFor_l2, dnlt, cond_false]) _ fuel0 (l.Held.filterMap (fH a)) (by omega)
  rw [e2.1, foldl_fm]
  have hlen : (l.Held.filterMap (fH a) ++ (l.Queue.take n).filterMap (fQ a who)).length ≤ 2200000 := by
    have := List.length_filterMap_le (fQ a who) (l.Queue.take n); rw [List.length_append]; omega
  show m_impl_Locks_waitsFor_j5 (wList l who n a) = _; have hlen' : (wList l who n a).length ≤ 2200000 := hlen; generalize wList l who n a = W at hlen' ⊢; unfold m_impl_Locks_waitsFor_j5 m_slices_Sort_Lint_int; have hm : (W.mergeSort fun x y => decide (x ≤ y)).length = W.length := List.length_mergeSort W; rw [if_pos (by omega), Option.bind_some, lenQ_ok hm, Option.bind_some, L_slices_Compact_Lint_int (q := eqI) (by omega) (fun _ _ => rfl), Option.bind_some]; have hc := (compactE_sub (q := eqI) (W.mergeSort fun x y => decide (x ≤ y))).length_le; rw [E_clone_int (by omega)]; rfl
def cT (l : Lk) (n : Nat) (a : Ak) (t : Int) : Bool := (l.Held.any fun b => decide (b.Who = t) && agB b a) || (l.Queue.take n).any fun b => decide (b.Who = t) && decide (b.Key = a.Key)
theorem E_l17Waits {l : Lk} {who : Int} (h2 : l.Queue.length ≤ 1100000) : m_spec_l17Waits l who = some (idxI (whoIs who) l.Queue) := by
  unfold m_spec_l17Waits
  exact scanI (q := whoIs who) (g := fun i => some i) l.Queue (fun n k => m_spec_l17Waits_l1 n who l k) (fun n k x hx => by
    have := lt_of_at hx; rw [m_spec_l17Waits_l1, dlt this, cond_true, at_of hx, Option.bind_some, eqD, ck1 (by omega), Option.bind_some]; rfl) (fun n => by rw [m_spec_l17Waits_l1, dnlt]; rfl) _ fuel0
theorem foldl_or {α : Type} {p : α → Bool} : ∀ (l : List α) (b : Bool), l.foldl (fun s x => s || p x) b = (b || l.any p)
  | [], b => by simp
  | x :: l, b => by rw [List.foldl_cons, foldl_or l, List.any_cons, Bool.or_assoc]
theorem E_lw_step {l : Lk} {n : Nat} {a : Ak} {k1 : Lk → Int → Int → List Int → Option (List Int)} {t : Nat} {o : List Int} (ht : t < 4) (ho : o.length ≤ t) (h1 : l.Held.length ≤ 1100000) (h2 : l.Queue.length ≤ 1100000) (ha : l.Queue[n]? = some a) :
    m_spec_LockWaits_j1 k1 l n t true o = k1 l n ((t : Int) + 1) (o ++ (if cT l n a t = true then [(t : Int)] else [])) := by
  unfold m_spec_LockWaits_j1; rw [cond_true]; have hlt := lt_of_at ha
  have e1 := scanF (f := fun (s : Bool) b => s || (decide (b.Who = (t : Int)) && agB b a)) (J := fun s => m_spec_LockWaits_j3 k1 l n t s o) (fun _ _ => True) l.Held (fun m k s => m_spec_LockWaits_l2 k1 m l n t s k o) (fun m k b s hx _ => by
    have hk := lt_of_at hx; refine ⟨?_, trivial⟩; rw [m_spec_LockWaits_l2, dlt hk, cond_true]; unfold m_spec_LockWaits_j2; cases s with
    | true => rw [cond_true, ck1 (by omega), Option.bind_some, Bool.true_or]
    | false =>
      rw [cond_false, at_of hx, Option.bind_some, Option.bind_some, at_of ha, Option.bind_some, E_against_s, Option.bind_some, ck1 (by omega), Option.bind_some, Option.bind_some, Bool.false_or, eqD]; cases decide (b.Who = (t : Int)) <;> rfl) (fun m s _ => by rw [m_spec_LockWaits_l2, dnlt, cond_false]) _ fuel0 false trivial
  rw [e1.1, foldl_or, Bool.false_or]; unfold m_spec_LockWaits_j3; have hlk : (l.Queue.take n).length = n := by simp; omega
  have e2 := scanF (f := fun (s : Bool) b => s || (decide (b.Who = (t : Int)) && decide (b.Key = a.Key))) (J := fun s => m_spec_LockWaits_j5 k1 l n t s o) (fun _ _ => True) (l.Queue.take n) (fun m k s => m_spec_LockWaits_l3 k1 m l n t s k o) (fun m k b s hx _ => by
    have hk := lt_of_at hx; have hx' := hx; rw [List.getElem?_take, if_pos (by omega)] at hx'; refine ⟨?_, trivial⟩; rw [m_spec_LockWaits_l3, dlt (by omega), cond_true]; unfold m_spec_LockWaits_j4; cases s with
    | true => rw [cond_true, ck1 (by omega), Option.bind_some, Bool.true_or]
    | false =>
      rw [cond_false, at_of hx', Option.bind_some, Option.bind_some, at_of ha, Option.bind_some, ck1 (by omega), Option.bind_some, Option.bind_some, Bool.false_or, eqD, eqD]; cases decide (b.Who = (t : Int)) <;> rfl) (fun m s _ => by rw [hlk, m_spec_LockWaits_l3, dnlt, cond_false]) (((n : Int) - 0).toNat + 1) (by omega) (l.Held.any fun b => decide (b.Who = (t : Int)) && agB b a) trivial
  rw [e2.1, foldl_or]; unfold m_spec_LockWaits_j5 m_spec_LockWaits_j6; rw [app_of (by simp; omega), Option.bind_some, ck1 (by omega), Option.bind_some, Option.bind_some]; show (bif cT l n a t then _ else _) = _; cases cT l n a t with
  | true => rw [cond_true, if_pos rfl]
  | false => rw [cond_false, if_neg (by simp), List.append_nil]
theorem E_lw_loop {l : Lk} {n : Nat} {a : Ak} (h1 : l.Held.length ≤ 1100000) (h2 : l.Queue.length ≤ 1100000) (ha : l.Queue[n]? = some a) : ∀ (d t m : Nat) (o : List Int), t + d = 4 → d < m → o.length ≤ t → m_spec_LockWaits_l1 m l n t o = some (o ++ ((List.range' t d).filter fun t : Nat => cT l n a t).map fun t : Nat => (t : Int))
  | 0, t, m, o, ht, hm, ho => by
    obtain ⟨q, rfl⟩ : ∃ q, m = q + 1 := ⟨m - 1, by omega⟩; obtain rfl : t = 4 := by omega
    rw [m_spec_LockWaits_l1, show decide (((4 : Nat) : Int) < 4) = false from rfl, cond_false]; unfold m_spec_LockWaits_j1 m_spec_LockWaits_j7; simp
  | d + 1, t, m, o, ht, hm, ho => by
    obtain ⟨q, rfl⟩ : ∃ q, m = q + 1 := ⟨m - 1, by omega⟩; rw [m_spec_LockWaits_l1, decide_eq_true (show (t : Int) < 4 by omega), cond_true, decide_eq_true (show (n : Int) ≥ 0 by omega), E_lw_step (by omega) ho h1 h2 ha, show ((t : Int) + 1) = ((t + 1 : Nat) : Int) by omega]; rw [E_lw_loop h1 h2 ha d (t + 1) q _ (by omega) (by omega) (by split <;> simp <;> omega), List.range'_succ, List.filter_cons]; cases cT l n a (t : Int) <;> simp
theorem E_spec_lw {l : Lk} {n : Nat} {a : Ak} (h1 : l.Held.length ≤ 1100000) (h2 : l.Queue.length ≤ 1100000) (ha : l.Queue[n]? = some a) : m_spec_LockWaits_l1 1000000000 l n 0 [] = some (((List.range' 0 4).filter fun t : Nat => cT l n a t).map fun t : Nat => (t : Int)) := by
  have := E_lw_loop h1 h2 ha 4 0 1000000000 [] (by omega) (by omega) (by simp); simpa using this
theorem mem_w {l : Lk} {who : Int} {n : Nat} {a : Ak} (hok : LkOk l) (hn : ∀ b ∈ l.Queue.take n, b.Who ≠ who) (x : Int) : x ∈ wList l who n a ↔ x ∈ ((List.range' 0 4).filter fun t : Nat => cT l n a t).map fun t : Nat => (t : Int) := by
  have hq := Q_ak hok; have hh := HI_ak hok.1; unfold wList; rw [List.mem_append, List.mem_filterMap, List.mem_filterMap, List.mem_map]; constructor
  · intro h
    have hx : (0 ≤ x ∧ x ≤ 3) ∧ cT l n a x = true := by
      unfold cT; rw [Bool.or_eq_true, List.any_eq_true, List.any_eq_true]; rcases h with ⟨b, hb, he⟩ | ⟨b, hb, he⟩
      · unfold fH at he
        split at he
        · rename_i hag
          cases he; exact ⟨(akB_k (hh b hb)).1, .inl ⟨b, hb, by rw [hag, decide_eq_true rfl]; rfl⟩⟩
        · cases he
      · unfold fQ at he
        split at he
        · rename_i hk
          cases he; exact ⟨(akB_k (hq b (List.mem_of_mem_take hb))).1, .inr ⟨b, hb, by rw [decide_eq_true hk.1, decide_eq_true rfl]; rfl⟩⟩
        · cases he
    refine ⟨x.toNat, List.mem_filter.2 ⟨by rw [List.mem_range'_1]; omega, ?_⟩, by omega⟩; rw [show ((x.toNat : Nat) : Int) = x by omega]; exact hx.2
  · rintro ⟨t, ht, rfl⟩
    have hc := (List.mem_filter.1 ht).2; unfold cT at hc; rw [Bool.or_eq_true, List.any_eq_true, List.any_eq_true] at hc; rcases hc with ⟨b, hb, he⟩ | ⟨b, hb, he⟩
    · rw [Bool.and_eq_true, decide_eq_true_eq] at he
      exact .inl ⟨b, hb, by unfold fH; rw [if_pos he.2, he.1]⟩
    · rw [Bool.and_eq_true, decide_eq_true_eq, decide_eq_true_eq] at he
      exact .inr ⟨b, hb, by unfold fQ; rw [if_pos ⟨he.2, hn b hb⟩, he.1]⟩
theorem cT_len (l : Lk) (n : Nat) (a : Ak) : (((List.range' 0 4).filter fun t : Nat => cT l n a t).map fun t : Nat => (t : Int)).length ≤ 4 := by
  rw [List.length_map]; have := List.length_filter_le (fun t : Nat => cT l n a t) (List.range' 0 4); simp at this ⊢; exact this
def mkA (c : Int) (_ : Ak) : Ak := ⟨c, c + 1, c + 2⟩
def wA (_ : Ak) : Int := 3
theorem endA (c : Int) : ∀ l : List Ak, endM wA c l = c + 3 * l.length
  | [] => by simp [endM]
  | x :: l => by rw [endM, endA (c + wA x) l, List.length_cons]; unfold wA; push_cast; omega
theorem E_markA {l : List Ak} {k : Int} (hk : 0 ≤ k) (hB : k + 3 * l.length ≤ 1000000000000) : m_laws_markAskS l k = some (k + 3 * l.length, markM mkA wA k l) := by
  unfold m_laws_markAskS
  have := markLoop (mk := mkA) (w := wA) (B := 1000000000000) (ok := fun _ => True) (fun _ => by unfold wA; decide) (fun f c i o => m_laws_markAskS_l1 f c i o) (fun f d x r c hd hc hB _ => by
    have hB' : c + 3 ≤ 1000000000000 := hB; rw [m_laws_markAskS_l1, lt_at, cond_true, at_at, Option.bind_some, Option.bind_some, ltE, ckI_of (by omega) (by omega), Option.bind_some, Int.toNat_natCast, set_at, at_at, Option.bind_some, Option.bind_some, ltE, ckI_of (by omega) (by omega), Option.bind_some, set_at, at_at, Option.bind_some, Option.bind_some, ltE, ckI_of (by omega) (by omega), Option.bind_some, ckI_of (by omega) (by omega), Option.bind_some, set_at]; unfold mkA wA; rw [show c + 1 + 1 = c + 2 by omega, show c + 2 + 1 = c + 3 by omega, show ((d.length : Int) + 1) = ((d.length + 1 : Nat) : Int) by omega]) (fun f c o => by rw [m_laws_markAskS_l1, dnlt]; rfl) l [] k _ fuel0 (fun _ _ => trivial) hk (by rw [endA]; exact hB) (by simp only [List.length_nil]; omega)
  rw [endA] at this; exact this
theorem E_heldI {l : List Int} {k : Int} (hk : 0 ≤ k) (hB : k + l.length ≤ 1000000000000) (hl : l.length ≤ 900000000) : m_laws_heldIntS (markM mkI wI k l) k = some (k + l.length) := by
  unfold m_laws_heldIntS
  have key : ∀ (l d : List Int) (c : Int) (n : Nat), l.length < n → 0 ≤ c → c + l.length ≤ 1000000000000 → d.length + l.length ≤ 900000000 → m_laws_heldIntS_l1 n (d ++ markM mkI wI c l) c (d.length : Int) = some (c + l.length) := by
    intro l
    induction l with
    | nil =>
      intro d c n hn h0 h1 h2; obtain ⟨m, rfl⟩ : ∃ m, n = m + 1 := ⟨n - 1, by simp at hn; omega⟩; rw [show d ++ markM mkI wI c [] = d by simp [markM], m_laws_heldIntS_l1, dnlt, cond_false]; simp [m_laws_heldIntS_j1]
    | cons x l ih =>
      intro d c n hn h0 h1 h2; rw [List.length_cons] at hn h1 h2; obtain ⟨m, rfl⟩ : ∃ m, n = m + 1 := ⟨n - 1, by omega⟩; rw [show markM mkI wI c (x :: l) = c :: markM mkI wI (c + 1) l from rfl, m_laws_heldIntS_l1, lt_at, cond_true, at_at, Option.bind_some, bne_self_eq_false, cond_false, ckI_of (by omega) (by omega), Option.bind_some, ckI_of (by omega) (by omega), Option.bind_some]; have := ih (d ++ [c]) (c + 1) m (by omega) (by omega) (by omega) (by rw [List.length_append, List.length_singleton]; omega); rw [List.append_assoc, List.singleton_append, List.length_append, List.length_singleton] at this; rw [show ((d.length : Int) + 1) = ((d.length + 1 : Nat) : Int) by omega, this, List.length_cons]
      congr 1; push_cast; omega
  have := key l [] k ((((markM mkI wI k l).length : Int) - 0).toNat + 1) (by rw [markM_len]; omega) hk hB (by simp; omega); simpa using this
theorem to_s {a : S_laws_Locks} (h : wt_laws_Locks a ≤ 100000000000) : m_laws_toLocks_s a = some (cv_laws_Locks a) := by
  have h1 := to_laws_Locks h; unfold m_laws_toLocks at h1; unfold m_laws_toLocks_s; cases e1 : m_laws_toAskS a.Held with
  | none => rw [e1] at h1; cases h1
  | some x =>
    cases e2 : m_laws_toAskS a.Queue with
    | none => rw [e1, e2] at h1; cases h1
    | some y =>
      rw [e1, e2] at h1; exact h1
inductive Leads (W : Int → List Int) (who : Int) : Int → Prop
  | one {x : Int} : x ∈ W who → Leads W who x
  | more {y x : Int} : Leads W who y → x ∈ W y → Leads W who x
def stp (S : List Bool) (e : Int × Int) : List Bool := S.set e.2.toNat (S.getD e.2.toNat false || S.getD e.1.toNat false)
def rnd (Ed : List (Int × Int)) (S : List Bool) : List Bool := Ed.foldl stp S
def ClosedE (Ed : List (Int × Int)) (S : List Bool) : Prop := ∀ e ∈ Ed, S.getD e.1.toNat false = true → S.getD e.2.toNat false = true
theorem set_self {S : List Bool} {i : Nat} {b : Bool} (h : S.getD i false = b) : S.set i b = S := by
  apply List.ext_getElem?
  intro j; rw [List.getElem?_set]
  split
  · rename_i e; subst e
    split
    · rename_i hl
      rw [List.getD_eq_getElem?_getD, List.getElem?_eq_getElem hl] at h; rw [List.getElem?_eq_getElem hl]; simpa using h.symm
    · rename_i hl
      rw [List.getElem?_eq_none (by omega)]
  · rfl
theorem cnt_set : ∀ {S : List Bool} {i : Nat}, i < S.length → S.getD i false = false → (S.set i true).count true = S.count true + 1
  | [], i, h, _ => by simp at h
  | b :: S, 0, _, h => by
    have : b = false := by simpa using h
    subst this; simp
  | b :: S, i + 1, h, h2 => by
    have := cnt_set (S := S) (i := i) (by simpa using h) (by simpa using h2); rw [List.set_cons_succ, List.count_cons, List.count_cons, this]; omega
theorem stp_len (S : List Bool) (e : Int × Int) : (stp S e).length = S.length := by unfold stp; simp
theorem rnd_len : ∀ (Ed : List (Int × Int)) (S : List Bool), (rnd Ed S).length = S.length
  | [], S => rfl
  | e :: Ed, S => by
    show (rnd Ed (stp S e)).length = _; rw [rnd_len Ed, stp_len]
theorem stp_or {S : List Bool} {e : Int × Int} (h : e.2.toNat < S.length) : (stp S e = S ∧ (S.getD e.1.toNat false = true → S.getD e.2.toNat false = true)) ∨ (stp S e).count true = S.count true + 1 := by
  unfold stp; cases h2 : S.getD e.2.toNat false with
  | true => exact .inl ⟨by rw [Bool.true_or]; exact set_self h2, fun _ => rfl⟩
  | false =>
    cases h1 : S.getD e.1.toNat false with
    | false => exact .inl ⟨by rw [Bool.false_or]; exact set_self h2, fun h => by cases h⟩
    | true => exact .inr (by rw [Bool.false_or]; exact cnt_set h h2)
theorem rnd_or : ∀ {Ed : List (Int × Int)} {S : List Bool}, (∀ e ∈ Ed, e.2.toNat < S.length) → (rnd Ed S = S ∧ ClosedE Ed S) ∨ S.count true + 1 ≤ (rnd Ed S).count true
  | [], S, _ => .inl ⟨rfl, fun e he => by cases he⟩
  | e :: Ed, S, h => by
    have h1 := stp_or (S := S) (h e (by simp)); have ih := rnd_or (Ed := Ed) (S := stp S e) (fun x hx => by rw [stp_len]; exact h x (by simp [hx])); show (rnd Ed (stp S e) = S ∧ _) ∨ _ ≤ (rnd Ed (stp S e)).count true; rcases h1 with ⟨h1, h2⟩ | h1
    · rw [h1] at ih ⊢
      rcases ih with ⟨i1, i2⟩ | ih
      · refine .inl ⟨i1, fun x hx => ?_⟩
        rcases List.mem_cons.1 hx with rfl | hx
        · exact h2
        · exact i2 x hx
      · exact .inr ih
    · right
      rcases ih with ⟨i1, i2⟩ | ih
      · rw [i1]; omega
      · omega
theorem stp_true {S : List Bool} {e : Int × Int} {i : Nat} (h : S.getD i false = true) : (stp S e).getD i false = true := by
  unfold stp; rw [List.getD_eq_getElem?_getD] at h ⊢
  have hl : i < S.length := by
    rcases Nat.lt_or_ge i S.length with h1 | h1
    · exact h1
    · rw [List.getElem?_eq_none h1] at h; cases h
  rw [List.getElem?_set]
  split
  · rename_i e1; subst e1
    rw [if_pos hl, List.getD_eq_getElem?_getD, Option.getD_some, h, Bool.true_or]
  · exact h
theorem rnd_true : ∀ {Ed : List (Int × Int)} {S : List Bool} {i : Nat}, S.getD i false = true → (rnd Ed S).getD i false = true
  | [], _, _, h => h
  | e :: Ed, S, i, h => rnd_true (Ed := Ed) (stp_true h)
def Sound (P : Int → Prop) (S : List Bool) : Prop := ∀ i : Nat, S.getD i false = true → P i
theorem stp_sound {P : Int → Prop} {S : List Bool} {e : Int × Int} (h0 : 0 ≤ e.1 ∧ 0 ≤ e.2) (he : P e.1 → P e.2) (h : Sound P S) : Sound P (stp S e) := by
  intro i hi; unfold stp at hi; rw [List.getD_eq_getElem?_getD, List.getElem?_set] at hi
  split at hi
  · rename_i e1
    split at hi
    · rw [Option.getD_some, Bool.or_eq_true] at hi
      have ei : (i : Int) = e.2 := by omega
      rcases hi with hi | hi
      · rw [ei]; have := h _ hi; rwa [Int.toNat_of_nonneg h0.2] at this
      · rw [ei]; have := h _ hi; rw [Int.toNat_of_nonneg h0.1] at this; exact he this
    · cases hi
  · rw [← List.getD_eq_getElem?_getD] at hi
    exact h i hi
theorem rnd_sound {P : Int → Prop} : ∀ {Ed : List (Int × Int)} {S : List Bool}, (∀ e ∈ Ed, (0 ≤ e.1 ∧ 0 ≤ e.2) ∧ (P e.1 → P e.2)) → Sound P S → Sound P (rnd Ed S)
  | [], _, _, h => h
  | e :: Ed, S, he, h => rnd_sound (Ed := Ed) (fun x hx => he x (by simp [hx])) (stp_sound (he e (by simp)).1 (he e (by simp)).2 h)
theorem all_true {S : List Bool} (h : S.length ≤ S.count true) (i : Nat) (hi : i < S.length) : S.getD i false = true := by
  have h1 : S.count true = S.length := Nat.le_antisymm List.count_le_length h; have := List.count_eq_length.1 h1 S[i] (List.getElem_mem hi); rw [List.getD_eq_getElem?_getD, List.getElem?_eq_getElem hi]; exact this.symm
theorem rounds {Ed : List (Int × Int)} {S : List Bool} (hl : S.length = 4) (he : ∀ e ∈ Ed, e.2.toNat < 4) : ClosedE Ed (rnd Ed (rnd Ed (rnd Ed (rnd Ed S)))) := by
  have step : ∀ {S : List Bool} (r : Nat), S.length = 4 → (ClosedE Ed S ∨ r ≤ S.count true) → (ClosedE Ed (rnd Ed S) ∨ r + 1 ≤ (rnd Ed S).count true) := by
    intro S r hl h; rcases rnd_or (Ed := Ed) (S := S) (fun e h => by rw [hl]; exact he e h) with ⟨h1, h2⟩ | h1
    · rw [h1]; exact .inl h2
    · rcases h with h | h
      · have : rnd Ed S = S := by
          have : ∀ (E2 : List (Int × Int)), ClosedE E2 S → rnd E2 S = S := by
            intro E2
            induction E2 with
            | nil => intro _; rfl
            | cons e E2 ih =>
              intro hc
              have e1 : stp S e = S := by
                unfold stp
                apply set_self
                have := hc e (by simp); cases h1 : S.getD e.1.toNat false with
                | false => rw [Bool.or_false]
                | true => rw [this h1]; rfl
              show rnd E2 (stp S e) = S; rw [e1]; exact ih fun x hx => hc x (by simp [hx])
          exact this Ed h
        rw [this]; exact .inl h
      · exact .inr (by omega)
  have l1 := rnd_len Ed S; have l2 := rnd_len Ed (rnd Ed S); have l3 := rnd_len Ed (rnd Ed (rnd Ed S)); have l4 := rnd_len Ed (rnd Ed (rnd Ed (rnd Ed S))); have := step 3 (by omega) (step 2 (by omega) (step 1 (by omega) (step 0 hl (.inr (Nat.zero_le _))))); rcases this with h | h
  · exact h
  · intro e hm _
    exact all_true (by omega) _ (by have := he e hm; omega)
theorem rounds_leads {W : Int → List Int} {who : Int} {Ed : List (Int × Int)} {S : List Bool} (hl : S.length = 4) (hEd : ∀ a b, (a, b) ∈ Ed ↔ (0 ≤ a ∧ a ≤ 3) ∧ b ∈ W a) (hW : ∀ a, ∀ b ∈ W a, 0 ≤ b ∧ b ≤ 3)
    (hS : ∀ i : Nat, S.getD i false = true ↔ (i : Int) ∈ W who) (x : Nat) : (rnd Ed (rnd Ed (rnd Ed (rnd Ed S)))).getD x false = true ↔ Leads W who x := by
  have he : ∀ e ∈ Ed, e.2.toNat < 4 := fun e h => by
    have := hW e.1 e.2 ((hEd e.1 e.2).1 h).2; omega
  constructor
  · have hs : ∀ e ∈ Ed, (0 ≤ e.1 ∧ 0 ≤ e.2) ∧ (Leads W who e.1 → Leads W who e.2) := fun e h => by
      have h1 := (hEd e.1 e.2).1 h; have h2 := hW e.1 e.2 h1.2; exact ⟨⟨h1.1.1, h2.1⟩, fun hL => .more hL h1.2⟩
    have h0 : Sound (Leads W who) S := fun i hi => .one ((hS i).1 hi); exact rnd_sound hs (rnd_sound hs (rnd_sound hs (rnd_sound hs h0))) x
  · have hc := rounds hl he
    have key : ∀ y : Int, Leads W who y → (rnd Ed (rnd Ed (rnd Ed (rnd Ed S)))).getD y.toNat false = true := by
      intro y hy
      induction hy with
      | one h =>
        rename_i z; have := hW _ _ h; refine rnd_true (rnd_true (rnd_true (rnd_true ((hS _).2 ?_)))); rw [Int.toNat_of_nonneg this.1]; exact h
      | @more a b h1 h2 ih =>
        have ha : 0 ≤ a ∧ a ≤ 3 := by
          cases h1 with
          | one h => exact hW _ _ h
          | more _ h => exact hW _ _ h
        exact hc (a, b) ((hEd a b).2 ⟨ha, h2⟩) ih
    intro h; have := key x h; simpa using this
theorem lw_mem {l : Lk} {who : Int} {r : List Int} (h1 : l.Held.length ≤ 1100000) (h2 : l.Queue.length ≤ 1100000) (h : m_spec_LockWaits l who = some r) : ∀ x ∈ r, 0 ≤ x ∧ x ≤ 3 := by
  unfold m_spec_LockWaits at h; obtain ⟨b1, e1, i1⟩ := E_spec_LocksOk (l := l) h1 h2; rw [e1, Option.bind_some] at h; cases b1 with
  | false =>
    rw [Bool.not_false, cond_true] at h; cases h; simp
  | true =>
    rw [Bool.not_true, cond_false, E_l17Waits h2, Option.bind_some] at h
    by_cases hi : 0 ≤ idxI (whoIs who) l.Queue
    · obtain ⟨a, ha, _, _⟩ := idxI_at9 hi
      have hs := E_spec_lw h1 h2 ha; rw [Int.toNat_of_nonneg hi] at hs; rw [hs] at h; cases h; intro x hx; obtain ⟨t, ht, rfl⟩ := List.mem_map.1 hx; have := (List.mem_filter.1 ht).1; rw [List.mem_range'_1] at this; omega
    · rw [show (1000000000 : Nat) = 999999999 + 1 from rfl, m_spec_LockWaits_l1, show decide ((0 : Int) < 4) = true from rfl, cond_true, decide_eq_false hi] at h
      cases h; simp
theorem lw_core {l : Lk} {who : Int} (h1 : l.Held.length ≤ 1100000) (h2 : l.Queue.length ≤ 1100000) (hok : LkOk l) : ∃ r, m_spec_LockWaits l who = some r ∧ m_impl_Locks_waitsFor l who = some r ∧ r.length ≤ 4 := by
  unfold m_spec_LockWaits; obtain ⟨b1, e1, i1⟩ := E_spec_LocksOk (l := l) h1 h2; rw [e1, Option.bind_some]; rw [i1.2 (ok_same.1 hok), Bool.not_true, cond_false, E_l17Waits h2, Option.bind_some]
  by_cases hi : 0 ≤ idxI (whoIs who) l.Queue
  · obtain ⟨a, ha, _, hb⟩ := idxI_at9 hi
    have hs := E_spec_lw h1 h2 ha; rw [Int.toNat_of_nonneg hi] at hs; refine ⟨_, hs, ?_, cT_len _ _ _⟩; rw [E_waitsFor h1 h2 (Int.toNat_of_nonneg hi).symm ha]; obtain ⟨s1, s2⟩ := sortC (W := wList l who (idxI (whoIs who) l.Queue).toNat a)
    congr 1
    refine strict_eq s1 ?_ fun x => (s2 x).trans (mem_w hok (fun b hbm => ?_) x)
    · rw [List.pairwise_map]
      have hr : (List.range' 0 4).Pairwise fun a b : Nat => (a : Int) < b := by decide
      exact hr.filter _
    · have := hb b hbm
      unfold whoIs at this; simpa using this
  · refine ⟨[], ?_, ?_, by simp⟩
    · rw [show (1000000000 : Nat) = 999999999 + 1 from rfl, m_spec_LockWaits_l1, show decide ((0 : Int) < 4) = true from rfl, cond_true, decide_eq_false hi]
      rfl
    · unfold m_impl_Locks_waitsFor
      rw [L_slices_IndexFunc_Limpl_Ask_impl_Ask (p := fun b0_ => m_impl_Locks_waitsFor_1 b0_ who) (q := whoIs who) (by omega) (fun b _ => rfl), Option.bind_some, decide_eq_true (by omega)]; rfl
theorem lw_not {l : Lk} {who : Int} (h1 : l.Held.length ≤ 1100000) (h2 : l.Queue.length ≤ 1100000) (hok : ¬ LkOk l) : m_spec_LockWaits l who = some [] := by
  unfold m_spec_LockWaits; obtain ⟨b1, e1, i1⟩ := E_spec_LocksOk (l := l) h1 h2; have f1 : b1 = false := by cases b1 with | false => rfl | true => exact absurd (ok_same.2 (i1.1 rfl)) hok
  rw [e1, f1]; rfl
structure WF (l : Lk) (W : Int → List Int) : Prop where
  spec : ∀ who, m_spec_LockWaits l who = some (W who)
  len : ∀ who, (W who).length ≤ 4
  rg : ∀ who, ∀ x ∈ W who, 0 ≤ x ∧ x ≤ 3
theorem wf_ex {l : Lk} (h1 : l.Held.length ≤ 1100000) (h2 : l.Queue.length ≤ 1100000) : ∃ W, WF l W ∧ (LkOk l → ∀ who, m_impl_Locks_waitsFor l who = some (W who)) ∧ (¬ LkOk l → ∀ who, W who = []) := by
  by_cases hok : LkOk l
  · have key : ∀ who, ∃ r, m_spec_LockWaits l who = some r ∧ m_impl_Locks_waitsFor l who = some r ∧ r.length ≤ 4 := fun who => lw_core h1 h2 hok
    exact ⟨fun who => Classical.choose (key who), ⟨fun who => (Classical.choose_spec (key who)).1, fun who => (Classical.choose_spec (key who)).2.2, fun who => lw_mem h1 h2 (Classical.choose_spec (key who)).1⟩, fun _ who => (Classical.choose_spec (key who)).2.1, fun h => absurd hok h⟩
  · exact ⟨fun _ => [], ⟨fun who => lw_not h1 h2 hok, fun _ => by simp, fun _ x hx => by cases hx⟩, fun h => absurd h hok, fun _ _ => rfl⟩
def four : List Int := [0, 1, 2, 3]
theorem four_at {k : Nat} {x : Int} (h : four[k]? = some x) : x = (k : Int) ∧ k < 4 := by
  unfold four at h
  match k, h with
  | 0, h => cases h; exact ⟨rfl, by omega⟩
  | 1, h => cases h; exact ⟨rfl, by omega⟩
  | 2, h => cases h; exact ⟨rfl, by omega⟩
  | 3, h => cases h; exact ⟨rfl, by omega⟩
  | n + 4, h => simp at h
def edges (W : Int → List Int) : List (Int × Int) := four.flatMap fun m => (W m).map fun x => (m, x)
theorem edges_mem {W : Int → List Int} (a b : Int) : (a, b) ∈ edges W ↔ (0 ≤ a ∧ a ≤ 3) ∧ b ∈ W a := by
  unfold edges; rw [List.mem_flatMap]; constructor
  · rintro ⟨m, hm, hx⟩
    obtain ⟨x, hx, he⟩ := List.mem_map.1 hx; cases he; refine ⟨?_, hx⟩; unfold four at hm; simp at hm; omega
  · rintro ⟨h, hb⟩
    exact ⟨a, by unfold four; simp; omega, List.mem_map.2 ⟨b, hb, rfl⟩⟩
theorem at_get {S : List Bool} {x : Int} (h0 : 0 ≤ x) (h1 : x.toNat < S.length) : at? S x = some (S.getD x.toNat false) := by
  unfold at?; rw [if_pos h0, List.getD_eq_getElem?_getD, List.getElem?_eq_getElem h1]; rfl
theorem rnd_map (m : Int) : ∀ (xs : List Int) (S : List Bool), xs.foldl (fun S x => stp S (m, x)) S = rnd (xs.map fun x => (m, x)) S
  | [], _ => rfl
  | x :: xs, S => rnd_map m xs _
theorem rnd_append (a b : List (Int × Int)) (S : List Bool) : rnd (a ++ b) S = rnd b (rnd a S) := List.foldl_append
theorem rnd_flat (W : Int → List Int) : ∀ (ms : List Int) (S : List Bool), ms.foldl (fun S m => rnd ((W m).map fun x => (m, x)) S) S = rnd (ms.flatMap fun m => (W m).map fun x => (m, x)) S
  | [], _ => rfl
  | m :: ms, S => by
    rw [List.foldl_cons, rnd_flat W ms, List.flatMap_cons, rnd_append]
theorem ring5 {l : Lk} {k1 : Lk → Int → List Int → Option (List Int)} {k3 : Lk → Int → Int → List Int → List Bool → Option (List Int)} {k4 : Lk → Int → Int → Int → List Int → List Bool → Option (List Int)} {t4 t8 m : Int} {o : List Int} {xs : List Int} {S : List Bool} (hm : 0 ≤ m ∧ m ≤ 3) (hx : xs.length ≤ 4) (hr : ∀ x ∈ xs, 0 ≤ x ∧ x ≤ 3) (hS : S.length = 4) :
    m_spec_LockRing_l5 k1 k3 k4 (((xs.length : Int) - (0 : Int)).toNat + 1) l t4 t8 m xs (xs.length : Int) (0 : Int) o S = m_spec_LockRing_j3 k1 k3 k4 l t4 t8 m o (rnd (xs.map fun x => (m, x)) S) ∧ (rnd (xs.map fun x => (m, x)) S).length = 4 := by
  have := scanF (f := fun S x => stp S (m, x)) (J := fun S => m_spec_LockRing_j3 k1 k3 k4 l t4 t8 m o S) (fun _ S => S.length = 4) xs (fun n k S => m_spec_LockRing_l5 k1 k3 k4 n l t4 t8 m xs (xs.length : Int) k o S) (fun n k x S hx0 hS => by
    have hlt : k < xs.length := by
      rcases Nat.lt_or_ge k xs.length with h | h
      · exact h
      · rw [List.getElem?_eq_none h] at hx0; cases hx0
    have hx1 := hr x (List.mem_of_getElem? hx0); have a1 : at? S x = some (S.getD x.toNat false) := at_get hx1.1 (by omega); have a2 : at? S m = some (S.getD m.toNat false) := at_get hm.1 (by omega); refine ⟨?_, by rw [stp_len]; exact hS⟩; have e1 : stp S (m, x) = S.set x.toNat (S.getD x.toNat false || S.getD m.toNat false) := rfl; rw [m_spec_LockRing_l5, dlt hlt, cond_true, at_of hx0, Option.bind_some, a1, Option.bind_some, Option.bind_some, e1]; cases hb : S.getD x.toNat false with
    | true =>
      rw [cond_true, Option.bind_some, Option.bind_some, ltE, m_spec_LockRing_j2, ck1 (by omega), Option.bind_some, Bool.true_or]
    | false =>
      rw [cond_false, a2, Option.bind_some, Option.bind_some, Option.bind_some, Option.bind_some, ltE, m_spec_LockRing_j2, ck1 (by omega), Option.bind_some, Bool.false_or]) (fun n S hS => by rw [m_spec_LockRing_l5, dnlt, cond_false]) (((xs.length : Int) - (0 : Int)).toNat + 1) (by omega) S hS
  rw [rnd_map] at this; exact this
theorem ring4 {l : Lk} {W : Int → List Int} (hW : WF l W) {k1 : Lk → Int → List Int → Option (List Int)} {k3 : Lk → Int → Int → List Int → List Bool → Option (List Int)} {t4 t8 : Int} {o : List Int} {S : List Bool} (hS : S.length = 4) :
    m_spec_LockRing_l4 k1 k3 (((4 : Int) - (0 : Int)).toNat + 1) l t4 t8 (0 : Int) o S = m_spec_LockRing_j4 k1 k3 l t4 t8 o (rnd (edges W) S) ∧ (rnd (edges W) S).length = 4 := by
  have := scanF (f := fun S m => rnd ((W m).map fun x => (m, x)) S) (J := fun S => m_spec_LockRing_j4 k1 k3 l t4 t8 o S) (fun _ S => S.length = 4) four (fun n k S => m_spec_LockRing_l4 k1 k3 n l t4 t8 k o S) (fun n k x S hx0 hS => by
    obtain ⟨rfl, hk⟩ := four_at hx0; rw [m_spec_LockRing_l4, decide_eq_true (by omega), cond_true, hW.spec, Option.bind_some]; obtain ⟨e1, e2⟩ := ring5 (l := l) (k1 := k1) (k3 := k3) (k4 := m_spec_LockRing_l4 k1 k3 n) (t4 := t4) (t8 := t8) (o := o) (m := (k : Int)) (xs := W k) (S := S) (by omega) (hW.len _) (hW.rg _) hS; exact ⟨by rw [e1, m_spec_LockRing_j3, ck1 (by omega), Option.bind_some], e2⟩) (fun n S hS => by
    rw [show (four.length : Int) = 4 from rfl, m_spec_LockRing_l4, show decide ((4 : Int) < 4) = false from rfl, cond_false]) (((4 : Int) - (0 : Int)).toNat + 1) (by decide) S hS
  rw [rnd_flat] at this; exact this
theorem ring3 {l : Lk} {W : Int → List Int} (hW : WF l W) {k1 : Lk → Int → List Int → Option (List Int)} {t4 : Int} {o : List Int} {S : List Bool} (hS : S.length = 4) :
    m_spec_LockRing_l3 k1 (((4 : Int) - (0 : Int)).toNat + 1) l t4 (0 : Int) o S = m_spec_LockRing_j5 k1 l t4 o (rnd (edges W) (rnd (edges W) (rnd (edges W) (rnd (edges W) S)))) := by
  have := scanF (f := fun S (_ : Int) => rnd (edges W) S) (J := fun S => m_spec_LockRing_j5 k1 l t4 o S) (fun _ S => S.length = 4) four (fun n k S => m_spec_LockRing_l3 k1 n l t4 k o S) (fun n k x S hx0 hS => by
    obtain ⟨rfl, hk⟩ := four_at hx0; rw [m_spec_LockRing_l3, decide_eq_true (by omega), cond_true]; obtain ⟨e1, e2⟩ := ring4 hW (k1 := k1) (k3 := m_spec_LockRing_l3 k1 n) (t4 := t4) (t8 := (k : Int)) (o := o) hS; exact ⟨by rw [e1, m_spec_LockRing_j4, ck1 (by omega), Option.bind_some], e2⟩) (fun n S hS => by
    rw [show (four.length : Int) = 4 from rfl, m_spec_LockRing_l3, show decide ((4 : Int) < 4) = false from rfl, cond_false]) (((4 : Int) - (0 : Int)).toNat + 1) (by decide) S hS
  exact this.1
def first (xs : List Int) (S : List Bool) : List Bool := xs.foldl (fun S x => S.set x.toNat true) S
theorem first_len : ∀ (xs : List Int) (S : List Bool), (first xs S).length = S.length
  | [], _ => rfl
  | x :: xs, S => by show (first xs (S.set x.toNat true)).length = _; rw [first_len xs]; simp
theorem first_get : ∀ {xs : List Int} {S : List Bool}, (∀ x ∈ xs, 0 ≤ x ∧ x.toNat < S.length) → ∀ i : Nat, (first xs S).getD i false = true ↔ S.getD i false = true ∨ (i : Int) ∈ xs
  | [], S, _, i => by simp [first]
  | x :: xs, S, h, i => by
    show (first xs (S.set x.toNat true)).getD i false = true ↔ _; rw [first_get (xs := xs) (fun y hy => by rw [List.length_set]; exact h y (by simp [hy]))]; have hx := h x (by simp); rw [List.mem_cons]
    have : (S.set x.toNat true).getD i false = true ↔ S.getD i false = true ∨ (i : Int) = x := by
      rw [List.getD_eq_getElem?_getD, List.getD_eq_getElem?_getD, List.getElem?_set]
      split
      · rename_i e; subst e
        rw [if_pos hx.2]; simp; omega
      · rename_i e
        constructor
        · exact .inl
        · rintro (h | h)
          · exact h
          · exact absurd (by omega) e
    rw [this, or_assoc]
theorem ring2 {l : Lk} {W : Int → List Int} (hW : WF l W) {k1 : Lk → Int → List Int → Option (List Int)} {t4 : Int} {o : List Int} {S : List Bool} (hS : S.length = 4) (who : Int) :
    m_spec_LockRing_l2 k1 ((((W who).length : Int) - (0 : Int)).toNat + 1) l t4 (W who) ((W who).length : Int) (0 : Int) o S = m_spec_LockRing_j1 k1 l t4 o (first (W who) S) := by
  have := scanF (f := fun (S : List Bool) (x : Int) => S.set x.toNat true) (J := fun S => m_spec_LockRing_j1 k1 l t4 o S) (fun _ S => S.length = 4) (W who) (fun n k S => m_spec_LockRing_l2 k1 n l t4 (W who) ((W who).length : Int) k o S) (fun n k x S hx0 hS => by
    have hlt : k < (W who).length := by
      rcases Nat.lt_or_ge k (W who).length with h | h
      · exact h
      · rw [List.getElem?_eq_none h] at hx0; cases hx0
    have hl := hW.len who; have hx1 := hW.rg who x (List.mem_of_getElem? hx0); have a1 : at? S x = some (S.getD x.toNat false) := at_get hx1.1 (by omega); refine ⟨?_, by simp [hS]⟩; rw [m_spec_LockRing_l2, dlt hlt, cond_true, at_of hx0, Option.bind_some, a1, Option.bind_some, Option.bind_some, ltE, ck1 (by omega), Option.bind_some]) (fun n S hS => by rw [m_spec_LockRing_l2, dnlt, cond_false]) ((((W who).length : Int) - (0 : Int)).toNat + 1) (by omega) S hS
  exact this.1
def backB (W : Int → List Int) (who : Int) : Bool := (rnd (edges W) (rnd (edges W) (rnd (edges W) (rnd (edges W) (first (W who) [false, false, false, false]))))).getD who.toNat false
theorem backB_iff {l : Lk} {W : Int → List Int} (hW : WF l W) {who : Int} (h : 0 ≤ who ∧ who ≤ 3) : backB W who = true ↔ Leads W who who := by
  have := rounds_leads (W := W) (who := who) (Ed := edges W) (S := first (W who) [false, false, false, false]) (by rw [first_len]; rfl) edges_mem (fun a => hW.rg a) (fun i => by
    rw [first_get (fun x hx => by have := hW.rg who x hx; exact ⟨this.1, by show x.toNat < 4; omega⟩)]; constructor
    · rintro (h | h)
      · exfalso
        match i, h with
        | 0, h => cases h
        | 1, h => cases h
        | 2, h => cases h
        | 3, h => cases h
        | n + 4, h => simp at h
      · exact h
    · exact .inr) who.toNat
  rw [Int.toNat_of_nonneg h.1] at this; exact this
def ringF (b : Int → Bool) (o : List Int) (w : Int) : List Int := bif b w then o ++ [w] else o
theorem E_spec_LockRing {l : Lk} {W : Int → List Int} (hW : WF l W) : m_spec_LockRing l = some (four.foldl (ringF (backB W)) []) := by
  unfold m_spec_LockRing
  have := scanF (f := ringF (backB W)) (J := fun o => some o) (fun k o => o.length ≤ k) four (fun n k o => m_spec_LockRing_l1 n l k o) (fun n k x o hx0 ho => by
    obtain ⟨rfl, hk⟩ := four_at hx0; have hl1 : (first (W k) [false, false, false, false]).length = 4 := by rw [first_len]; rfl
    have hln : (rnd (edges W) (rnd (edges W) (rnd (edges W) (rnd (edges W) (first (W k) [false, false, false, false]))))).length = 4 := by rw [rnd_len, rnd_len, rnd_len, rnd_len, hl1]
    refine ⟨?_, by unfold ringF; cases backB W k <;> simp <;> omega⟩; rw [m_spec_LockRing_l1, decide_eq_true (by omega), cond_true, show mk2? (4 : Int) (4 : Int) (false : Bool) = some [false, false, false, false] from rfl, Option.bind_some, hW.spec, Option.bind_some, ring2 hW rfl, m_spec_LockRing_j1, ring3 hW hl1, m_spec_LockRing_j5, at_get (by omega) (by rw [hln]; omega), Option.bind_some, Option.bind_some]; rw [show (rnd (edges W) (rnd (edges W) (rnd (edges W) (rnd (edges W) (first (W k) [false, false, false, false]))))).getD (k : Int).toNat false = backB W k from rfl]; unfold ringF; cases backB W k with
    | true => rw [cond_true, cond_true, app_of (by simp; omega), Option.bind_some, m_spec_LockRing_j6, ck1 (by omega), Option.bind_some]
    | false => rw [cond_false, cond_false, m_spec_LockRing_j6, ck1 (by omega), Option.bind_some]) (fun n o ho => by
    rw [show (four.length : Int) = 4 from rfl, m_spec_LockRing_l1, show decide ((4 : Int) < 4) = false from rfl, cond_false]; rfl) (((4 : Int) - (0 : Int)).toNat + 1) (by decide) [] (by simp)
  exact this.1
def unmet (met : List Int) : Nat := (four.filter fun x => !met.contains x).length
theorem four_mem {x : Int} (h : 0 ≤ x ∧ x ≤ 3) : x ∈ four := by unfold four; simp; omega
theorem unmet_add {met met' : List Int} {x : Int} (hx : x ∈ four) (h : met.contains x = false) (hm : ∀ y, met'.contains y = (met.contains y || y == x)) : unmet met' + 1 ≤ unmet met := by
  unfold unmet
  have key : ∀ l : List Int, (l.filter fun y => !met'.contains y).length + (if x ∈ l then 1 else 0) ≤ (l.filter fun y => !met.contains y).length := by
    intro l
    induction l with
    | nil => simp
    | cons y l ih =>
      rw [List.filter_cons, List.filter_cons, hm y]
      by_cases e : y = x
      · subst e
        have c1 : (if y ∈ y :: l then 1 else 0) = 1 := if_pos (by simp); rw [c1]; simp only [h, beq_self_eq_true, Bool.or_true, Bool.not_true, Bool.not_false, if_true, List.length_cons, Bool.false_eq_true, if_false]
        split at ih <;> omega
      · have e1 : (y == x) = false := by simp [e]
        have e2 : (x ∈ y :: l) ↔ x ∈ l := by
          rw [List.mem_cons]; constructor
          · rintro (h | h)
            · exact absurd h.symm e
            · exact h
          · exact .inr
        rw [e1, Bool.or_false]; simp only [e2]
        split
        · rw [List.length_cons, List.length_cons]; omega
        · exact ih
  have := key four; rw [if_pos hx] at this; exact this
theorem leads_rg {l : Lk} {W : Int → List Int} (hW : WF l W) {who x : Int} (h : Leads W who x) : 0 ≤ x ∧ x ≤ 3 := by
  cases h with
  | one h => exact hW.rg _ _ h
  | more _ h => exact hW.rg _ _ h
theorem E_leads_l {l : Lk} {W : Int → List Int} (hW : WF l W) (hw : ∀ who, m_impl_Locks_waitsFor l who = some (W who)) (who : Int) : ∀ (n : Nat) (met todo : List Int), todo.length + 5 * unmet met < n → todo.length + 5 * unmet met ≤ 100 → (∀ x ∈ todo, Leads W who x) → who ∉ met → (∀ y ∈ met, ∀ x ∈ W y, x ∈ met ∨ x ∈ todo) → (∀ x ∈ W who, x ∈ met ∨ x ∈ todo) →
    ∃ b, m_impl_Locks_leads_l1 n who l met todo = some b ∧ (b = true ↔ Leads W who who) := by
  intro n
  induction n with
  | zero => intro met todo h; omega
  | succ n ih =>
    intro met todo hn hB hL hm h1 h2; rw [m_impl_Locks_leads_l1]; cases todo with
    | nil =>
      refine ⟨false, rfl, ?_⟩; constructor
      · intro h; cases h
      · intro h
        exfalso
        have key : ∀ x, Leads W who x → x ∈ met := by
          intro x hx
          induction hx with
          | one h => rcases h2 _ h with h | h
                     · exact h
                     · cases h
          | more _ h ih => rcases h1 _ ih _ h with h | h
                           · exact h
                           · cases h
        exact hm (key who h)
    | cons x rest =>
      have hx := hL x (by simp); have hr := leads_rg hW hx
      rw [decide_eq_true (by rw [List.length_cons]; omega), cond_true, show at? (x :: rest) (0 : Int) = some x from rfl, Option.bind_some, Option.bind_some, show cut? (x :: rest) (1 : Int) ((x :: rest).length : Int) = some rest by
        have := cut_of (l := x :: rest) (lo := 1) (hi := (x :: rest).length) (by simp) (Nat.le_refl _); rw [List.take_length] at this; exact this, Option.bind_some]
      by_cases hxw : x = who
      · subst hxw
        refine ⟨true, by rw [beq_self_eq_true]; rfl, fun _ => hx, fun _ => rfl⟩
      · rw [beqF hxw, cond_false]
        rw [List.length_cons] at hn hB; cases hc : met.contains x with
        | true =>
          rw [Bool.not_true, cond_false]; have hcm : x ∈ met := by simpa using hc
          refine ih met rest (by omega) (by omega) (fun y hy => hL y (by simp [hy])) hm (fun y hy z hz => ?_) (fun z hz => ?_)
          · rcases h1 y hy z hz with h | h
            · exact .inl h
            · rcases List.mem_cons.1 h with rfl | h
              · exact .inl hcm
              · exact .inr h
          · rcases h2 z hz with h | h
            · exact .inl h
            · rcases List.mem_cons.1 h with rfl | h
              · exact .inl hcm
              · exact .inr h
        | false =>
          have hl := hW.len x
          have hmem : ∀ y, y ∈ mapAdd met x ↔ y ∈ met ∨ y = x := by
            intro y; unfold mapAdd; rw [hc]; simp
          have hu := unmet_add (met := met) (met' := mapAdd met x) (four_mem hr) hc (fun y => by
            rw [Bool.eq_iff_iff]; simp only [Bool.or_eq_true, List.contains_iff_mem, beq_iff_eq]; exact hmem y)
          rw [Bool.not_false, cond_true, hw, Option.bind_some, app_of (by omega), Option.bind_some]; refine ih (mapAdd met x) (rest ++ W x) (by rw [List.length_append]; omega) (by rw [List.length_append]; omega) (fun y hy => ?_) (fun h => ?_) (fun y hy z hz => ?_) (fun z hz => ?_)
          · rcases List.mem_append.1 hy with h | h
            · exact hL y (by simp [h])
            · exact .more hx h
          · rcases (hmem who).1 h with h | h
            · exact hm h
            · exact hxw h.symm
          · rcases (hmem y).1 hy with h | rfl
            · rcases h1 y h z hz with h | h
              · exact .inl ((hmem z).2 (.inl h))
              · rcases List.mem_cons.1 h with rfl | h
                · exact .inl ((hmem z).2 (.inr rfl))
                · exact .inr (List.mem_append.2 (.inl h))
            · exact .inr (List.mem_append.2 (.inr hz))
          · rcases h2 z hz with h | h
            · exact .inl ((hmem z).2 (.inl h))
            · rcases List.mem_cons.1 h with rfl | h
              · exact .inl ((hmem z).2 (.inr rfl))
              · exact .inr (List.mem_append.2 (.inl h))
theorem E_leads {l : Lk} {W : Int → List Int} (hW : WF l W) (hw : ∀ who, m_impl_Locks_waitsFor l who = some (W who)) {who : Int} (h : 0 ≤ who ∧ who ≤ 3) : m_impl_Locks_leads l who = some (backB W who) := by
  unfold m_impl_Locks_leads; rw [hw, Option.bind_some]; have hl := hW.len who; have hu : unmet [] = 4 := rfl; obtain ⟨b, e, hb⟩ := E_leads_l hW hw who 1000000000 [] (W who) (by omega) (by omega) (fun x hx => .one hx) (by simp) (by simp) (fun x hx => .inr hx); rw [e]
  congr 1
  rw [Bool.eq_iff_iff, hb, backB_iff hW h]
theorem E_ring {l : Lk} {W : Int → List Int} (hW : WF l W) (hw : ∀ who, m_impl_Locks_waitsFor l who = some (W who)) : m_impl_Locks_ring l = some (four.foldl (ringF (backB W)) []) := by
  unfold m_impl_Locks_ring
  have := scanF (f := ringF (backB W)) (J := fun o => m_impl_Locks_ring_j2 o) (fun k o => o.length ≤ k) four (fun n k o => m_impl_Locks_ring_l1 n l k o) (fun n k x o hx0 ho => by
    obtain ⟨rfl, hk⟩ := four_at hx0; refine ⟨?_, by unfold ringF; cases backB W k <;> simp <;> omega⟩; rw [m_impl_Locks_ring_l1, decide_eq_true (by omega), cond_true, E_leads hW hw (by omega), Option.bind_some]; unfold ringF; cases backB W k with
    | true => rw [cond_true, cond_true, app_of (by simp; omega), Option.bind_some, m_impl_Locks_ring_j1, ck1 (by omega), Option.bind_some]
    | false => rw [cond_false, cond_false, m_impl_Locks_ring_j1, ck1 (by omega), Option.bind_some]) (fun n o ho => by
    rw [show (four.length : Int) = 4 from rfl, m_impl_Locks_ring_l1, show decide ((4 : Int) < 4) = false from rfl, cond_false]) (((4 : Int) - (0 : Int)).toNat + 1) (by decide) [] (by simp)
  rw [this.1, m_impl_Locks_ring_j2, E_clone_int (Nat.le_trans this.2 (by decide)), Option.bind_some]
theorem E_LockRing {l : Lk} (h1 : l.Held.length ≤ 1100000) (h2 : l.Queue.length ≤ 1100000) : ∃ r, m_spec_LockRing l = some r ∧ m_impl_LockRing l = some r ∧ r.length ≤ 4 := by
  obtain ⟨W, hW, hw, hn⟩ := wf_ex h1 h2; refine ⟨_, E_spec_LockRing hW, ?_, ?_⟩
  · obtain ⟨b2, e2, i2⟩ := E_impl_LocksOk (l := l) h1 h2
    unfold m_impl_LockRing; rw [e2, Option.bind_some]; cases b2 with
    | true =>
      rw [Bool.not_true, cond_false, E_ring hW (hw (i2.1 rfl)), Option.bind_some]
    | false =>
      rw [Bool.not_false, cond_true]
      have hok : ¬ LkOk l := fun h => by
        have := i2.2 h; cases this
      have hnil := hn hok
      have hb : ∀ who, 0 ≤ who ∧ who ≤ 3 → backB W who = false := fun who hr => by
        cases hbb : backB W who with
        | false => rfl
        | true =>
          have := (backB_iff hW hr).1 hbb
          exfalso
          cases this with
          | one h => rw [hnil] at h; cases h
          | more _ h => rw [hnil] at h; cases h
      unfold four ringF; simp only [List.foldl_cons, List.foldl_nil]; rw [hb 0 (by omega), hb 1 (by omega), hb 2 (by omega), hb 3 (by omega)]; rfl
  · unfold four ringF
    simp only [List.foldl_cons, List.foldl_nil]; cases backB W 0 <;> cases backB W 1 <;> cases backB W 2 <;> cases backB W 3 <;> simp
theorem pure_FnExactLockRing (a0 : S_laws_Locks) (b0 : B_laws_Locks a0) : m_laws_FnExactLockRing a0 = some true := by
  unfold m_laws_FnExactLockRing; rw [sz_laws_Locks b0 (by decide) (by decide), Option.bind_some]
  by_cases h0 : (wt_laws_Locks a0 : Int) ≤ 1048576
  case neg => rw [szR_lt' h0, cond_true]
  rw [szR_lt h0, cond_false]; have t0 := to_laws_Locks (a := a0) (by omega); have ts := to_s (a := a0) (by omega); have wL : wt_impl_Locks (cv_laws_Locks a0) ≤ 1048576 := by rw [wc_laws_Locks]; omega
  rw [t0, ts, Option.bind_some]; generalize hL : cv_laws_Locks a0 = L at *
  have hwl : L.Held.length ≤ 1100000 ∧ L.Queue.length ≤ 1100000 := by
    have e1 := wt_Limpl_Ask_len (l := L.Held); have e2 := wt_Limpl_Ask_len (l := L.Queue); unfold wt_impl_Locks at wL; omega
  obtain ⟨r, hs, hi, hr⟩ := E_LockRing (l := L) hwl.1 hwl.2; have eqr : m_laws_eqIntS r r = some true := by rw [eq_Lint (by unfold wt_Lint; omega)]; exact congrArg some (decide_eq_true rfl)
  have eqL : m_laws_eqLocks L L = some true := by rw [eq_impl_Locks (by omega)]; exact congrArg some (decide_eq_true rfl)
  rw [hs, Option.bind_some, Option.bind_some, ltE]
  dsimp only
  rw [show (⟨L.Held, L.Queue⟩ : S_impl_Locks) = L from rfl, hi, Option.bind_some, eqr, Option.bind_some, Bool.not_true, cond_false, Option.bind_some, eqL, Option.bind_some, Bool.not_true, cond_false]; unfold m_laws_markLocks; rw [E_markA (by omega) (by omega), Option.bind_some, lenQ_ok (markM_len _ _), Option.bind_some]; simp only []; rw [E_markA (by omega) (by omega), Option.bind_some, lenQ_ok (markM_len _ _), Option.bind_some, Option.bind_some]; simp only []; rw [lenQ_ok (markM_len _ _), Option.bind_some, lenQ_ok (markM_len _ _), Option.bind_some, decide_eq_false (by omega), cond_false, Option.bind_some, Bool.not_true]; unfold m_laws_FnExactLockRing_j1; rw [cond_false, E_markI (by omega) (by omega) (by omega), Option.bind_some, lenQ_ok (markM_len _ _), Option.bind_some]; simp only []; rw [E_heldI (by omega) (by omega) (by omega), Option.bind_some, decide_eq_false (by omega), cond_false, bne_self_eq_false, cond_false, ts, Option.bind_some, hi, Option.bind_some, eqr, Option.bind_some, Bool.not_true, cond_false, Option.bind_some, decide_eq_false (by omega), cond_false, bne_self_eq_false, cond_false]
end Go.Proofs.Ytdkpmckpcejceaa
