/- What the mirrors come to, in plain Lean: the law itself at the end. -/
import Derived.Test.YtdkpmckpcejceaaXW4
import Derived.Test.YtdkpmckpcejceaaLd
set_option linter.unusedVariables false
set_option linter.unusedSimpArgs false
set_option linter.unnecessarySimpa false
namespace Go.Proofs.Ytdkpmckpcejceaa
open Go.Proofs Go.Lift
abbrev V := S_impl_Value
def lower (l : List UInt8) : Bool := l.all fun b => decide (97 ≤ b.toNat) && decide (b.toNat ≤ 122)
def vOk (v : V) : Bool :=
  if v.Kind = 0 then decide (v = ⟨0, 0, ⟨#[]⟩⟩)
  else if v.Kind = 1 then decide (v.S = ⟨#[]⟩) && (decide (-9999 ≤ v.N) && decide (v.N ≤ 9999))
  else if v.Kind = 2 then decide (v.N = 0) && decide (v.S.size ≤ 6) && lower v.S.data.toList
  else if v.Kind = 3 then decide (v.S = ⟨#[]⟩) && (decide (0 ≤ v.N) && decide (v.N ≤ 1))
  else false
theorem E_between (a b c : Int) : m_impl_between a b c = some (decide (b ≤ a) && decide (a ≤ c)) := by
  unfold m_impl_between m_impl_between_j1
  by_cases h : a ≥ b <;> simp [h]
theorem E_l1In (a b c : Int) : m_spec_l1In a b c = some (decide (b ≤ a) && decide (a ≤ c)) := by
  unfold m_spec_l1In m_spec_l1In_j1
  by_cases h : a ≥ b <;> simp [h]
theorem lower_any (l : List UInt8) : lower l = !(l.any fun b => !(decide (97 ≤ (b.toNat : Int)) && decide ((b.toNat : Int) ≤ 122))) := by
  unfold lower; rw [List.all_eq_not_any_not]
  congr 2
  funext b
  congr 1
  have h1 : decide (97 ≤ b.toNat) = decide (97 ≤ (b.toNat : Int)) := by rw [decide_eq_decide]; omega
  have h2 : decide (b.toNat ≤ 122) = decide ((b.toNat : Int) ≤ 122) := by rw [decide_eq_decide]; omega
  rw [h1, h2]
theorem E_letters {s : ByteArray} (h : s.size ≤ 900000000) : m_impl_letters s = some (lower s.data.toList) := by
  unfold m_impl_letters sBytes?; rw [if_pos (by omega)]; simp only [Option.bind_some]; have hl : s.data.toList.length ≤ 900000000 := h
  have := scanA (p := fun b : UInt8 => !(decide (97 ≤ (b.toNat : Int)) && decide ((b.toNat : Int) ≤ 122))) (r0 := false) (r1 := true) s.data.toList (fun n k => m_impl_letters_l1 n s.data.toList (s.data.toList.length : Int) k) (fun n k x hx => by
    have := lt_of_at hx; simp only [m_impl_letters_l1, dlt this, at_of hx, E_between, ck1 (show k < 1000000000000 by omega), Option.bind_some, cond_true]) (fun n => by simp only [m_impl_letters_l1, dnlt]; rfl) _ fuel0
  rw [this, lower_any]; cases s.data.toList.any fun b => !(decide (97 ≤ (b.toNat : Int)) && decide ((b.toNat : Int) ≤ 122)) <;> rfl
theorem E_Value_ok {v : V} (h : v.S.size ≤ 900000000) : m_impl_Value_ok v = some (vOk v) := by
  unfold m_impl_Value_ok m_impl_Value_ok_j1 m_impl_Value_ok_j2 m_impl_Value_ok_j3 vOk; simp only [E_between, E_letters h, Option.bind_some, sEq_eq]
  by_cases h0 : v.Kind = 0
  · simp [h0]
  · by_cases h1 : v.Kind = 1
    · by_cases hs : v.S = ⟨#[]⟩ <;> simp [beqF h0, h0, h1, hs]
    · by_cases h2 : v.Kind = 2
      · by_cases hn : v.N = 0
        · by_cases hs : v.S.size ≤ 6
          · have : (v.S.size : Int) ≤ 6 := by omega
            simp [beqF h0, beqF h1, h0, h1, h2, hn, hs, this]
          · have : ¬ (v.S.size : Int) ≤ 6 := by omega
            simp [beqF h0, beqF h1, h0, h1, h2, hn, hs, this]
        · simp [beqF h0, beqF h1, h0, h1, h2, beqF hn, hn]
      · by_cases h3 : v.Kind = 3
        · by_cases hs : v.S = ⟨#[]⟩ <;> simp [beqF h0, beqF h1, beqF h2, h0, h1, h2, h3, hs]
        · simp [beqF h0, beqF h1, beqF h2, beqF h3, h0, h1, h2, h3]
theorem E_alive : m_laws_alive = some true := by
  unfold m_laws_alive m_laws_alive_j1 m_impl_ValueOk; rw [E_Value_ok (by decide), E_Value_ok (by decide)]; rfl
theorem cut_of {α : Type} {l : List α} {lo hi : Nat} (h : lo ≤ hi) (h2 : hi ≤ l.length) : cut? l (lo : Int) (hi : Int) = some ((l.take hi).drop lo) := by
  unfold cut?; rw [if_pos (by omega)]; simp
abbrev Rd := S_spec_l20Rd
theorem tmod_b {m n : Int} (h : 0 ≤ m) (hn : 0 < n) : 0 ≤ m.tmod n ∧ m.tmod n < n := ⟨Int.tmod_nonneg n h, Int.tmod_lt_of_pos m hn⟩
theorem tdiv_b {m n : Int} (h : 0 ≤ m) (hn : 0 < n) : 0 ≤ m.tdiv n ∧ m.tdiv n ≤ m := ⟨Int.tdiv_nonneg h (Int.le_of_lt hn), Int.tdiv_le_self _ h⟩
theorem T_pick {o : Rd} {n : Int} (ho : 0 ≤ o.p ∧ o.p ≤ 1000000000) : Tot (m_Pspec_l20Rd_pick o n) fun r => 0 ≤ r.1 ∧ (r.1 < n ∨ r.1 = 0) ∧ r.2.p = o.p + 1 := by
  unfold m_Pspec_l20Rd_pick; refine Tot.ck (by omega) (by omega) (Tot.lt ?_); refine Tot.bif (fun h => ?_) (fun h => ?_)
  · unfold m_Pspec_l20Rd_pick_j1
    exact Tot.ret ⟨Int.le_refl _, .inr rfl, rfl⟩
  · simp only [decide_eq_false_iff_not] at h
    unfold m_Pspec_l20Rd_pick_j1; refine Tot.bif (fun h2 => Tot.ret ⟨Int.le_refl _, .inr rfl, rfl⟩) (fun h2 => ?_); have hb : 0 < (o.b.length : Int) := by simp at h2; have := List.length_pos_iff.2 h2; omega
    refine Tot.ck (by simp only; omega) (by simp only; omega) ?_; have e : (o.p + 1 - 1) = o.p := by omega
    simp only [e]; refine Tot.bif (fun h3 => ?_) (fun h3 => ?_)
    · simp only [decide_eq_true_eq] at h3
      refine Tot.at (by omega) h3 (fun x _ => ?_); refine Tot.rem (by omega) (Tot.ret ?_); have := tmod_b (m := (x.toNat : Int)) (n := n) (by omega) (by omega); exact ⟨this.1, .inl this.2, rfl⟩
    · have m1 := tmod_b (m := o.p) (n := o.b.length) (by omega) hb
      refine Tot.rem (by omega) (Tot.at m1.1 m1.2 (fun x _ => ?_)); have hx := x.toNat_lt; refine Tot.ck (by omega) (by omega) (Tot.ck (by omega) (by omega) (Tot.ck (by omega) (by omega) ?_)); have m2 := tmod_b (m := o.p * 7 + 3) (n := o.b.length) (by omega) hb; refine Tot.rem (by omega) (Tot.at m2.1 m2.2 (fun y _ => ?_)); have hy := y.toNat_lt; refine Tot.ck (by omega) (by omega) (Tot.ck (by omega) (by omega) (Tot.ck (by omega) (by omega) (Tot.ck (by omega) (by omega) ?_))); have d1 := tdiv_b (m := o.p) (n := o.b.length) (by omega) hb; refine Tot.quo (by omega) (by omega) (by omega) (Tot.ck (by omega) (by omega) (Tot.ck (by omega) (by omega) ?_)); have hz : 0 ≤ (x.toNat : Int) * 131 + (y.toNat : Int) * 1117 + o.p * 29 + o.p.tdiv o.b.length * 53 ∧ (x.toNat : Int) * 131 + (y.toNat : Int) * 1117 + o.p * 29 + o.p.tdiv o.b.length * 53 < 1000000000000 := by omega
      generalize (x.toNat : Int) * 131 + (y.toNat : Int) * 1117 + o.p * 29 + o.p.tdiv o.b.length * 53 = z at hz ⊢; have d2 := tdiv_b (m := z) (n := 64) (by omega) (by omega); refine Tot.quo (by omega) (by omega) (by omega) (Tot.xor (by omega) (fun u h4 h5 => Tot.rem (by omega) (Tot.ret ?_))); have := tmod_b (m := u) (n := n) (by omega) (by omega); exact ⟨this.1, .inl this.2, rfl⟩
theorem T_odd {o : Rd} {n : Int} (ho : 0 ≤ o.p ∧ o.p ≤ 1000000000) (hn : -900000000 ≤ n ∧ n ≤ 900000000) : Tot (m_Pspec_l20Rd_odd o n) fun r => o.p ≤ r.2.p ∧ r.2.p ≤ o.p + 1 := by
  unfold m_Pspec_l20Rd_odd m_Pspec_l20Rd_odd_j1; refine Tot.bif (fun h => ?_) (fun h => Tot.ret ⟨Int.le_refl _, by simp only; omega⟩); refine Tot.bind (T_pick ho) (fun r hr => ?_); exact Tot.ck (by omega) (by omega) (Tot.ret ⟨by simp only; omega, by simp only; omega⟩)
theorem T_l20Open {l : List UInt8} : Tot (m_spec_l20Open l) fun r => r.p = 0 := by
  unfold m_spec_l20Open m_spec_l20Open_j1; refine Tot.bif (fun h => ?_) (fun _ => Tot.ret rfl); simp only [gt_iff_lt, decide_eq_true_eq] at h; exact Tot.cut (by omega) (Tot.ret rfl)
theorem L_slices_IndexFunc_Limpl_Ask_impl_Ask {l : List S_impl_Ask} {p : S_impl_Ask → Option Bool} {q : S_impl_Ask → Bool} (hl : l.length ≤ 900000000) (hp : ∀ v ∈ l, p v = some (q v)) : m_slices_IndexFunc_Limpl_Ask_impl_Ask l p = some (idxI q l) := by
  unfold m_slices_IndexFunc_Limpl_Ask_impl_Ask
  exact scanI (q := q) (g := fun i => some i) l (fun n k => m_slices_IndexFunc_Limpl_Ask_impl_Ask_l1 p n l (l.length : Int) k) (fun n k x hx => by
    have := lt_of_at hx; rw [m_slices_IndexFunc_Limpl_Ask_impl_Ask_l1, dlt this, cond_true]; simp only [at_of hx, Option.bind_some, hp x (List.mem_of_getElem? hx), ck1 (show k < 1000000000000 by omega)]) (fun n => by rw [m_slices_IndexFunc_Limpl_Ask_impl_Ask_l1, dnlt]; rfl) _ fuel0
theorem L_slices_ContainsFunc_Limpl_Ask_impl_Ask {l : List S_impl_Ask} {p : S_impl_Ask → Option Bool} {q : S_impl_Ask → Bool} (hl : l.length ≤ 900000000) (hp : ∀ v ∈ l, p v = some (q v)) : m_slices_ContainsFunc_Limpl_Ask_impl_Ask l p = some (l.any q) := by
  unfold m_slices_ContainsFunc_Limpl_Ask_impl_Ask; rw [L_slices_IndexFunc_Limpl_Ask_impl_Ask hl hp, Option.bind_some, (idxI_ge q l).2.2]
theorem L2_slices_Compact_Lint_int {q : Int → Int → Bool} {k1 : Int → List Int → Option (List Int)} {orig : List Int} (hN : orig.length ≤ 900000000) (hp : ∀ x y, q x y = decide (x = y)) (off : Nat) : ∀ (d r m w : Nat) (o : List Int) (x0 : Int), r + d = orig.length → off < r → w < r → d < m → o.length = orig.length → (∀ i, r - 1 ≤ i → o[i]? = orig[i]?) → orig[r - 1]? = some x0 →
    m_slices_Compact_Lint_int_l2 k1 m (w : Int) off (orig.length - off) ((r - off : Nat) : Int) o = some (o.take w ++ goC q x0 (orig.drop r)) := by
  intro d
  induction d with
  | zero =>
    intro r m w o x0 hr hoff hw hm ho hi hx0; obtain ⟨m, rfl⟩ : ∃ q, m = q + 1 := ⟨m - 1, by omega⟩; obtain rfl : r = orig.length := by omega
    rw [m_slices_Compact_Lint_int_l2, decide_eq_false (by omega), cond_false]; unfold m_slices_Compact_Lint_int_j2; rw [rng_of (by omega), Option.bind_some, rng_of (by omega), Option.bind_some, Int.toNat_natCast, leN_of (by simp; omega), Option.bind_some]; simp [goC, List.take_take]
  | succ d ih =>
    intro r m w o x0 hr hoff hw hm ho hi hx0; obtain ⟨m, rfl⟩ : ∃ q, m = q + 1 := ⟨m - 1, by omega⟩; obtain ⟨j, hj⟩ : ∃ j, r - off = j + 1 := ⟨r - off - 1, by omega⟩; have hlt : r < orig.length := by omega
    have hx : orig[r]? = some orig[r] := List.getElem?_eq_getElem hlt; have ox : o[r]? = some orig[r] := by rw [hi r (by omega)]; exact hx
    have oy : o[r - 1]? = some x0 := by rw [hi (r - 1) (by omega)]; exact hx0
    have mx := List.mem_of_getElem? hx; have my := List.mem_of_getElem? hx0; rw [m_slices_Compact_Lint_int_l2, hj, decide_eq_true (show (((j + 1 : Nat) : Int) < ((orig.length - off : Nat) : Int)) by omega), cond_true]; rw [atc_of (show off + (j + 1) = r by omega) (by omega) ox, Option.bind_some, at_off (show off + (j + 1) = r by omega) ox, Option.bind_some, ckdd (by omega), Option.bind_some, atc_of (show off + j = r - 1 by omega) (by omega) oy, Option.bind_some, at_off (show off + j = r - 1 by omega) oy, Option.bind_some, neB, ← hp]; have e1 : ((j + 1 : Nat) : Int) + 1 = ((r + 1 - off : Nat) : Int) := by omega
    have hd : orig.drop r = orig[r] :: orig.drop (r + 1) := List.drop_eq_getElem_cons hlt; rw [hd, goC]; unfold m_slices_Compact_Lint_int_j1; cases hq : q orig[r] x0 with
    | false =>
      have ow : o[w]? = some o[w] := List.getElem?_eq_getElem (by omega); rw [Bool.not_false, cond_true, Option.bind_some, Option.bind_some, at_of ow, Option.bind_some, Option.bind_some, ck1 (by omega), ck1 (by omega)]; simp only [Go.Lift.lt, Int.toNat_natCast, Option.bind_some]
      rw [e1, show ((w : Int) + 1) = ((w + 1 : Nat) : Int) by omega, ih (r + 1) m (w + 1) (o.set w orig[r]) orig[r] (by omega) (by omega) (by omega) (by omega) (by simpa using ho) (fun i h => by
        rw [List.getElem?_set_ne (by omega)]; exact hi i (by omega)) (by simpa using hx)]
      rw [if_neg (by simp)]
      congr 1
      have : (o.set w orig[r]).take (w + 1) = o.take w ++ [orig[r]] := by
        rw [List.take_succ_eq_append_getElem (by simp; omega), List.take_set_of_le (by omega)]; simp
      rw [this]; simp
    | true =>
      rw [Bool.not_true, cond_false, ck1 (by omega), Option.bind_some, e1, ih (r + 1) m w o orig[r] (by omega) (by omega) (by omega) (by omega) ho (fun i h => hi i (by omega)) (by simpa using hx), if_pos rfl]
theorem L_slices_Compact_Lint_int {l : List Int} {q : Int → Int → Bool} (hN : l.length ≤ 900000000) (hp : ∀ x y, q x y = decide (x = y)) : m_slices_Compact_Lint_int l = some (compactE q l) := by
  unfold m_slices_Compact_Lint_int
  by_cases h2 : l.length < 2
  · rw [decide_eq_true (show ((l.length : Int) < 2) by omega), cond_true]
    cases l with
    | nil => rfl
    | cons x l =>
      cases l with
      | nil => rfl
      | cons y l => exact absurd h2 (by simp)
  · rw [decide_eq_false (show ¬ ((l.length : Int) < 2) by omega), cond_false]
    have key : ∀ (d k n : Nat), k + d = l.length → 1 ≤ k → d < n → (∀ i x y, 0 < i → i < k → l[i]? = some x → l[i - 1]? = some y → q x y = false) → m_slices_Compact_Lint_int_l1 n (k : Int) l = some (compactE q l) := by
      intro d
      induction d with
      | zero =>
        intro k n hk h1 hn hq; obtain ⟨n, rfl⟩ : ∃ q, n = q + 1 := ⟨n - 1, by omega⟩; obtain rfl : k = l.length := by omega
        rw [m_slices_Compact_Lint_int_l1, dnlt, cond_false]; unfold m_slices_Compact_Lint_int_j4; rw [compactE_take l (l.length - 1) (by omega) (fun i x y h0 hi hx hy => hq i x y h0 (by omega) hx hy) l[l.length - 1] (List.getElem?_eq_getElem (by omega)), show l.length - 1 + 1 = l.length by omega]; simp [goC]
      | succ d ih =>
        intro k n hk h1 hn hq; obtain ⟨n, rfl⟩ : ∃ q, n = q + 1 := ⟨n - 1, by omega⟩; obtain ⟨j, rfl⟩ : ∃ j, k = j + 1 := ⟨k - 1, by omega⟩; have hx : l[j + 1]? = some l[j + 1] := List.getElem?_eq_getElem (by omega); have hy : l[j]? = some l[j] := List.getElem?_eq_getElem (by omega); rw [m_slices_Compact_Lint_int_l1, dlt (by omega), cond_true, at_of hx, Option.bind_some, Option.bind_some, ckdd (by omega), Option.bind_some, at_of hy, Option.bind_some, Option.bind_some, show ∀ a b : Int, (a == b) = decide (a = b) from fun _ _ => rfl, ← hp]; cases hb : q l[j + 1] l[j] with
        | false =>
          rw [cond_false]; unfold m_slices_Compact_Lint_int_j3; rw [ck1 (by omega), Option.bind_some, show (((j + 1 : Nat) : Int) + 1) = ((j + 1 + 1 : Nat) : Int) by omega]; refine ih (j + 1 + 1) n (by omega) (by omega) (by omega) fun i x y h0 hi ha hc => ?_; rcases Nat.lt_or_ge i (j + 1) with h3 | h3
          · exact hq i x y h0 h3 ha hc
          · obtain rfl : i = j + 1 := by omega
            rw [hx] at ha; rw [show j + 1 - 1 = j by omega, hy] at hc; cases ha; cases hc; exact hb
        | true =>
          rw [cond_true, rng_of (by omega), Option.bind_some]; have := L2_slices_Compact_Lint_int (k1 := m_slices_Compact_Lint_int_l1 n) hN hp (0 + ((j + 1 : Nat) : Int).toNat) (l.length - (j + 2)) (j + 2) ((((l.length - ((j + 1 : Nat) : Int).toNat : Nat) : Int) - 1).toNat + 1) (j + 1) l l[j + 1] (by omega) (by simp) (by omega) (by simp; omega) rfl (fun _ _ => rfl) hx; rw [show j + 2 - (0 + ((j + 1 : Nat) : Int).toNat) = 1 by simp] at this; have e1 : l.length - (0 + ((j + 1 : Nat) : Int).toNat) = l.length - ((j + 1 : Nat) : Int).toNat := by simp
          rw [e1] at this; refine Eq.trans this ?_
          congr 1
          rw [compactE_take l j (by omega) (fun i x y h0 hi hx hy => hq i x y h0 (by omega) hx hy) l[j] hy]
          congr 1
          rw [List.drop_eq_getElem_cons (show j + 1 < l.length by omega), goC, if_pos hb]
    refine key (l.length - 1) 1 _ (by omega) (by omega) (by omega) fun i x y h0 hi => by omega
theorem scanFind {α R : Type} {p : α → Bool} {F : Option α → Option R} (xs : List α) (L : Nat → Int → Option R)
    (hs : ∀ n (k : Nat) x, xs[k]? = some x → L (n + 1) (k : Int) = bif p x then F (some x) else L n ((k : Int) + 1)) (he : ∀ n, L (n + 1) (xs.length : Int) = F none)
    (n : Nat) (hn : xs.length < n) : L n 0 = F (xs.find? p) := by
  have := scanC xs (fun n k (_ : Unit) => L n k) (fun x s k => bif p x then F (some x) else k s) (fun _ => F none) (fun n k x s hx => hs n k x hx) (fun n s => he n) n hn (); rw [this]
  have key : ∀ l : List α, foldC (S := Unit) (fun x s k => bif p x then F (some x) else k s) (fun _ => F none) l () = F (l.find? p) := by
    intro l
    induction l with
    | nil => rfl
    | cons x l ih =>
      rw [foldC, List.find?_cons]; cases p x with
      | true => rw [cond_true]
      | false => rw [cond_false]; exact ih
  exact key xs
abbrev Ak := S_impl_Ask
abbrev Lk := S_impl_Locks
def akB (a : Ak) : Bool := (decide (0 ≤ a.Who) && decide (a.Who ≤ 3)) && ((decide (0 ≤ a.Key) && decide (a.Key ≤ 4)) && (decide (1 ≤ a.Kind) && decide (a.Kind ≤ 2)))
def agB (a b : Ak) : Bool := decide (a.Key = b.Key) && (decide (a.Who ≠ b.Who) && (decide (a.Kind = 2) || decide (b.Kind = 2)))
def cvB (a b : Ak) : Bool := decide (a.Key = b.Key) && (decide (a.Who = b.Who) && decide (a.Kind ≥ b.Kind))
def swk (w k : Int) (b : Ak) : Bool := decide (b.Who = w) && decide (b.Key = k)
def hdA (a b : Ak) : Bool := decide (b.Key = a.Key) && decide (b.Who ≠ a.Who)
def rdB (held ahead : List Ak) (a : Ak) : Bool := !(ahead.any (hdA a)) && !(held.any fun b => agB b a)
def heldG (l : List Ak) (w k : Int) : Int := match l.find? (swk w k) with | some b => b.Kind | none => 0
theorem eqD (a b : Int) : (a == b) = decide (a = b) := rfl
theorem neD (a b : Int) : (a != b) = decide (a ≠ b) := by by_cases h : a = b <;> simp [h]
theorem agB_sym (a b : Ak) : agB a b = agB b a := by
  unfold agB; rw [Bool.eq_iff_iff]; simp only [Bool.and_eq_true, Bool.or_eq_true, decide_eq_true_eq]; constructor <;> (rintro ⟨h1, h2, h3⟩; exact ⟨h1.symm, fun e => h2 e.symm, h3.symm⟩)
theorem agB_self (a : Ak) : agB a a = false := by unfold agB; simp
theorem E_against (a b : Ak) : m_impl_Ask_against a b = some (agB a b) := by
  unfold m_impl_Ask_against m_impl_Ask_against_j1 agB; rw [eqD, neD, eqD, eqD]; cases decide (a.Key = b.Key) <;> cases decide (a.Who ≠ b.Who) <;> cases decide (a.Kind = 2) <;> rfl
theorem E_against_s (a b : Ak) : m_spec_l17Against a b = some (agB a b) := by
  unfold m_spec_l17Against m_spec_l17Against_j1 agB; rw [eqD, neD, eqD, eqD]; cases decide (a.Key = b.Key) <;> cases decide (a.Who ≠ b.Who) <;> cases decide (a.Kind = 2) <;> rfl
theorem E_covers (a b : Ak) : m_impl_Ask_covers a b = some (cvB a b) := by
  unfold m_impl_Ask_covers m_impl_Ask_covers_j1 cvB; rw [eqD, eqD]; cases decide (a.Key = b.Key) <;> cases decide (a.Who = b.Who) <;> rfl
theorem E_Ask_ok (a : Ak) : m_impl_Ask_ok a = some (akB a) := by
  unfold m_impl_Ask_ok m_impl_Ask_ok_j1 m_impl_keyOk akB; simp only [E_between, Option.bind_some]; cases (decide (0 ≤ a.Who) && decide (a.Who ≤ 3)) <;> cases (decide (0 ≤ a.Key) && decide (a.Key ≤ 4)) <;> rfl
theorem E_l17Ask (a : Ak) : m_spec_l17Ask a = some (akB a) := by
  unfold m_spec_l17Ask m_spec_l17Ask_j1 akB; simp only [E_l1In, Option.bind_some]; cases (decide (0 ≤ a.Who) && decide (a.Who ≤ 3)) <;> cases (decide (0 ≤ a.Key) && decide (a.Key ≤ 4)) <;> rfl
theorem E_ContainsM {l : List Ak} {p : Ak → Option Bool} {q : Ak → Bool} (hl : l.length ≤ 900000000) (hp : ∀ v ∈ l, p v = some (q v)) : m_slices_ContainsFunc_Limpl_Ask_impl_Ask_m l p = some (l.any q) := by
  unfold m_slices_ContainsFunc_Limpl_Ask_impl_Ask_m m_slices_IndexFunc_Limpl_Ask_impl_Ask_m
  rw [scanI (q := q) (g := fun i => some i) l (fun n k => m_slices_IndexFunc_Limpl_Ask_impl_Ask_m_l1 p n l (l.length : Int) k) (fun n k x hx => by
    have := lt_of_at hx; rw [m_slices_IndexFunc_Limpl_Ask_impl_Ask_m_l1, dlt this, cond_true, at_of hx, Option.bind_some, hp x (List.mem_of_getElem? hx), Option.bind_some, ck1 (by omega), Option.bind_some]) (fun n => by rw [m_slices_IndexFunc_Limpl_Ask_impl_Ask_m_l1, dnlt]; rfl) _ fuel0, Option.bind_some]
  rw [(idxI_ge q l).2.2]
theorem E_free {l : Lk} {a : Ak} {ahead : List Ak} (h1 : l.Held.length ≤ 900000000) (h2 : ahead.length ≤ 900000000) : m_impl_Locks_free l a ahead = some (rdB l.Held ahead a) := by
  unfold m_impl_Locks_free m_impl_Locks_free_j1 rdB
  rw [E_ContainsM (q := fun b => agB b a) h1 (fun b _ => by rw [E_against, agB_sym]), Option.bind_some, L_slices_ContainsFunc_Limpl_Ask_impl_Ask (q := hdA a) h2 (fun b _ => by
    unfold m_impl_Locks_free_1 m_impl_Locks_free_1_j1 hdA; rw [eqD, neD]; cases decide (b.Key = a.Key) <;> rfl), Option.bind_some]
  cases (l.Held.any fun b => agB b a) <;> cases (ahead.any (hdA a)) <;> rfl
theorem E_blocked {l : List Ak} {a : Ak} (h : l.length ≤ 900000000) : m_spec_l17Blocked l a = some (l.any fun b => agB b a) := by
  unfold m_spec_l17Blocked
  have e := scanA (p := fun b => agB b a) (r0 := true) (r1 := false) l (fun n k => m_spec_l17Blocked_l1 n l a k) (fun n k x hx => by
    have := lt_of_at hx; rw [m_spec_l17Blocked_l1, dlt this, cond_true, at_of hx, Option.bind_some, E_against_s, Option.bind_some, ck1 (by omega), Option.bind_some]) (fun n => by rw [m_spec_l17Blocked_l1, dnlt]; rfl) _ fuel0
  rw [e]; cases (l.any fun b => agB b a) <;> rfl
theorem E_ready {held ahead : List Ak} {a : Ak} (h1 : held.length ≤ 900000000) (h2 : ahead.length ≤ 900000000) : m_spec_l17Ready held ahead a = some (rdB held ahead a) := by
  unfold m_spec_l17Ready rdB
  have e := scanA (p := hdA a) (r0 := false) (r1 := !(held.any fun b => agB b a)) ahead (fun n k => m_spec_l17Ready_l1 n held ahead a k) (fun n k x hx => by
    have := lt_of_at hx; rw [m_spec_l17Ready_l1, dlt this, cond_true, at_of hx, Option.bind_some, Option.bind_some, eqD, neD]; unfold m_spec_l17Ready_j1 hdA; rw [ck1 (by omega), Option.bind_some]; cases decide (x.Key = a.Key) <;> rfl) (fun n => by
    rw [m_spec_l17Ready_l1, dnlt, cond_false]; unfold m_spec_l17Ready_j2; rw [E_blocked h1]; rfl) _ fuel0
  rw [e]; cases (ahead.any (hdA a)) <;> rfl
theorem E_heldG {l : List Ak} {w k : Int} (h : l.length ≤ 900000000) : m_spec_l17Held l w k = some (heldG l w k) := by
  unfold m_spec_l17Held
  have e := scanFind (p := swk w k) (F := fun o => some (match o with | some b => b.Kind | none => 0)) l (fun n j => m_spec_l17Held_l1 n l w k j) (fun n j x hx => by
    have := lt_of_at hx; rw [m_spec_l17Held_l1, dlt this, cond_true, at_of hx, Option.bind_some, Option.bind_some]; unfold m_spec_l17Held_j1 swk; rw [ck1 (by omega), Option.bind_some, at_of hx, Option.bind_some, eqD, eqD]; cases decide (x.Who = w) <;> rfl) (fun n => by rw [m_spec_l17Held_l1, dnlt]; rfl) _ fuel0
  rw [e]; rfl
theorem scanP {α R : Type} {P : Nat → α → Bool} {r0 e : Option R} (xs : List α) (L : Nat → Int → Option R) (hs : ∀ n (k : Nat) x, xs[k]? = some x → L (n + 1) (k : Int) = bif P k x then r0 else L n ((k : Int) + 1)) (he : ∀ n, L (n + 1) (xs.length : Int) = e) (n : Nat) (hn : xs.length < n) :
    ((∀ k x, xs[k]? = some x → P k x = false) → L n 0 = e) ∧ (¬(∀ k x, xs[k]? = some x → P k x = false) → L n 0 = r0) := by
  have key : ∀ (d k n : Nat), k + d = xs.length → d < n → ((∀ j x, k ≤ j → xs[j]? = some x → P j x = false) → L n (k : Int) = e) ∧ (¬(∀ j x, k ≤ j → xs[j]? = some x → P j x = false) → L n (k : Int) = r0) := by
    intro d
    induction d with
    | zero =>
      intro k n hk hn; obtain ⟨m, rfl⟩ : ∃ m, n = m + 1 := ⟨n - 1, by omega⟩; obtain rfl : k = xs.length := by omega
      refine ⟨fun _ => he m, fun h => absurd (fun j x hj hx => ?_) h⟩; rw [List.getElem?_eq_none hj] at hx; cases hx
    | succ d ih =>
      intro k n hk hn; obtain ⟨m, rfl⟩ : ∃ m, n = m + 1 := ⟨n - 1, by omega⟩; have hx : xs[k]? = some xs[k] := List.getElem?_eq_getElem (by omega); rw [hs m k _ hx]; cases hp : P k xs[k] with
      | true =>
        refine ⟨fun h => ?_, fun _ => rfl⟩; rw [h k _ (Nat.le_refl _) hx] at hp; cases hp
      | false =>
        obtain ⟨i1, i2⟩ := ih (k + 1) m (by omega) (by omega); rw [cond_false, show ((k : Int) + 1) = ((k + 1 : Nat) : Int) by omega]; refine ⟨fun h => i1 fun j x hj hjx => h j x (by omega) hjx, fun h => i2 fun h2 => h fun j x hj hjx => ?_⟩; rcases Nat.eq_or_lt_of_le hj with rfl | hj
        · rw [hx] at hjx; cases hjx; exact hp
        · exact h2 j x hj hjx
  obtain ⟨k1, k2⟩ := key xs.length 0 n (by omega) hn; exact ⟨fun h => k1 fun k x _ hx => h k x hx, fun h => k2 fun h2 => h fun k x hx => h2 k x (Nat.zero_le _) hx⟩
theorem cut_take {l : List Ak} {k : Nat} (h : k < l.length) : cut? l 0 (k : Int) = some (l.take k) := by
  have := cut_of (lo := 0) (hi := k) (l := l) (by omega) (by omega); simpa using this
def PHI (H : List Ak) (k : Nat) (x : Ak) : Bool := !(akB x) || (H.take k).any fun b => (decide (b.Who = x.Who) && decide (b.Key = x.Key)) || agB b x
def PHS (H : List Ak) (k : Nat) (x : Ak) : Bool := !(akB x) || (decide (heldG (H.take k) x.Who x.Key > 0) || H.any fun b => agB b x)
def PQI (H Q : List Ak) (k : Nat) (x : Ak) : Bool := !(akB x) || ((Q.take k).any (fun b => decide (b.Who = x.Who)) || (H.any (fun b => cvB b x) || rdB H (Q.take k) x))
def PQS (H Q : List Ak) (k : Nat) (x : Ak) : Bool := (!(akB x) || (decide (heldG H x.Who x.Key ≥ x.Kind) || rdB H (Q.take k) x)) || (Q.take k).any fun b => decide (b.Who = x.Who)
theorem E_impl_LocksOk {l : Lk} (h1 : l.Held.length ≤ 1100000) (h2 : l.Queue.length ≤ 1100000) : ∃ b, m_impl_LocksOk l = some b ∧ (b = true ↔ ((∀ k x, l.Held[k]? = some x → PHI l.Held k x = false) ∧ ∀ k x, l.Queue[k]? = some x → PQI l.Held l.Queue k x = false)) := by
  unfold m_impl_LocksOk
  have e2 := scanP (P := PQI l.Held l.Queue) (r0 := some false) (e := some true) l.Queue (fun n k => m_impl_LocksOk_l2 n l l.Queue (l.Queue.length : Int) k) (fun n k x hx => by
    have hlt := lt_of_at hx
    rw [m_impl_LocksOk_l2, dlt hlt, cond_true, at_of hx, Option.bind_some, ltE, E_Ask_ok, Option.bind_some, cut_take hlt, Option.bind_some, L_slices_ContainsFunc_Limpl_Ask_impl_Ask (p := fun b0_ => m_impl_LocksOk_2 b0_ x) (q := fun b => decide (b.Who = x.Who)) (by simp; omega) (fun b _ => rfl), Option.bind_some,
      L_slices_ContainsFunc_Limpl_Ask_impl_Ask (q := fun b => cvB b x) (by omega) (fun b _ => by unfold m_impl_LocksOk_3; rw [E_covers]; rfl), Option.bind_some, Option.bind_some, E_free (by omega) (by simp; omega), Option.bind_some]
    unfold m_impl_LocksOk_j3 PQI; rw [ck1 (by omega), Option.bind_some]; cases akB x <;> cases ((l.Queue.take k).any fun b => decide (b.Who = x.Who)) <;> cases (l.Held.any fun b => cvB b x) <;> rfl) (fun n => by rw [m_impl_LocksOk_l2, dnlt]; rfl) _ fuel0
  have e1 := scanP (P := PHI l.Held) (r0 := some false) (e := m_impl_LocksOk_j2 l) l.Held (fun n k => m_impl_LocksOk_l1 n l l.Held (l.Held.length : Int) k) (fun n k x hx => by
    have hlt := lt_of_at hx
    rw [m_impl_LocksOk_l1, dlt hlt, cond_true, at_of hx, Option.bind_some, ltE, E_Ask_ok, Option.bind_some, cut_take hlt, Option.bind_some, L_slices_ContainsFunc_Limpl_Ask_impl_Ask (q := fun b => (decide (b.Who = x.Who) && decide (b.Key = x.Key)) || agB b x) (by simp; omega) (fun b _ => by
      unfold m_impl_LocksOk_1 m_impl_LocksOk_1_j1; rw [E_against, Option.bind_some, eqD, eqD]; cases decide (b.Who = x.Who) <;> cases decide (b.Key = x.Key) <;> rfl), Option.bind_some]
    unfold m_impl_LocksOk_j1 PHI; rw [ck1 (by omega), Option.bind_some]; cases akB x <;> rfl) (fun n => by rw [m_impl_LocksOk_l1, dnlt]; rfl) _ fuel0
  by_cases hA : ∀ k x, l.Held[k]? = some x → PHI l.Held k x = false
  · have e1' := e1.1 hA
    unfold m_impl_LocksOk_j2 at e1'
    by_cases hB : ∀ k x, l.Queue[k]? = some x → PQI l.Held l.Queue k x = false
    · exact ⟨true, e1'.trans (e2.1 hB), ⟨fun _ => ⟨hA, hB⟩, fun _ => rfl⟩⟩
    · exact ⟨false, e1'.trans (e2.2 hB), ⟨fun h => (by cases h), fun h => absurd h.2 hB⟩⟩
  · exact ⟨false, e1.2 hA, ⟨fun h => (by cases h), fun h => absurd h.1 hA⟩⟩
theorem E_spec_LocksOk {l : Lk} (h1 : l.Held.length ≤ 1100000) (h2 : l.Queue.length ≤ 1100000) : ∃ b, m_spec_LocksOk l = some b ∧ (b = true ↔ ((∀ k x, l.Held[k]? = some x → PHS l.Held k x = false) ∧ ∀ k x, l.Queue[k]? = some x → PQS l.Held l.Queue k x = false)) := by
  unfold m_spec_LocksOk
  have e2 := scanP (P := PQS l.Held l.Queue) (r0 := some false) (e := some true) l.Queue (fun n k => m_spec_LocksOk_l2 n l k) (fun n k x hx => by
    have hlt := lt_of_at hx
    have hin : ∀ m, m_spec_LocksOk_l3 (m_spec_LocksOk_l2 m) (((k : Int) - 0).toNat + 1) l (k : Int) 0 x = bif ((l.Queue.take k).any fun b => decide (b.Who = x.Who)) then some false else m_spec_LocksOk_l2 m l ((k : Int) + 1) := by
      intro m; have hlk : (l.Queue.take k).length = k := by simp; omega
      have e := scanC (l.Queue.take k) (fun n j (_ : Unit) => m_spec_LocksOk_l3 (m_spec_LocksOk_l2 m) n l (k : Int) j x) (fun b s c => bif decide (b.Who = x.Who) then some false else c s) (fun _ => m_spec_LocksOk_l2 m l ((k : Int) + 1)) (fun n j b s hj => by
        have hjl := lt_of_at hj; rw [List.getElem?_take, if_pos (by omega)] at hj; rw [m_spec_LocksOk_l3, dlt (by omega), cond_true, at_of hj, Option.bind_some, eqD, ck1 (by omega), Option.bind_some]) (fun n s => by
        rw [hlk, m_spec_LocksOk_l3, dnlt, cond_false]; unfold m_spec_LocksOk_j4; rw [ck1 (by omega), Option.bind_some]) (((k : Int) - 0).toNat + 1) (by omega) ()
      rw [e]; generalize l.Queue.take k = T
      induction T with
      | nil => rfl
      | cons b T ih =>
        rw [List.any_cons]; show (bif decide (b.Who = x.Who) then some false else _) = _; cases decide (b.Who = x.Who) with
        | true => rfl
        | false => exact ih
    rw [m_spec_LocksOk_l2, dlt hlt, cond_true, at_of hx, Option.bind_some, ltE, E_l17Ask, Option.bind_some, E_heldG (by omega), Option.bind_some, cut_take hlt, Option.bind_some, E_ready (by omega) (by simp; omega), Option.bind_some]; unfold m_spec_LocksOk_j3 PQS; rw [hin]; cases akB x <;> cases decide (heldG l.Held x.Who x.Key ≥ x.Kind) <;> cases rdB l.Held (l.Queue.take k) x <;> rfl) (fun n => by rw [m_spec_LocksOk_l2, dnlt]; rfl) _ fuel0
  have e1 := scanP (P := PHS l.Held) (r0 := some false) (e := m_spec_LocksOk_j2 l) l.Held (fun n k => m_spec_LocksOk_l1 n l k) (fun n k x hx => by
    have hlt := lt_of_at hx; rw [m_spec_LocksOk_l1, dlt hlt, cond_true, at_of hx, Option.bind_some, E_l17Ask, Option.bind_some, cut_take hlt, Option.bind_some, Option.bind_some, Option.bind_some, E_heldG (by simp; omega), Option.bind_some, Option.bind_some, E_blocked (by omega), Option.bind_some]; unfold m_spec_LocksOk_j1 PHS; rw [ck1 (by omega), Option.bind_some]; cases akB x <;> cases decide (heldG (l.Held.take k) x.Who x.Key > 0) <;> rfl) (fun n => by rw [m_spec_LocksOk_l1, dnlt]; rfl) _ fuel0
  by_cases hA : ∀ k x, l.Held[k]? = some x → PHS l.Held k x = false
  · have e1' := e1.1 hA
    unfold m_spec_LocksOk_j2 at e1'
    by_cases hB : ∀ k x, l.Queue[k]? = some x → PQS l.Held l.Queue k x = false
    · exact ⟨true, e1'.trans (e2.1 hB), ⟨fun _ => ⟨hA, hB⟩, fun _ => rfl⟩⟩
    · exact ⟨false, e1'.trans (e2.2 hB), ⟨fun h => (by cases h), fun h => absurd h.2 hB⟩⟩
  · exact ⟨false, e1.2 hA, ⟨fun h => (by cases h), fun h => absurd h.1 hA⟩⟩
theorem mem_take_at {α : Type} {l : List α} {j k : Nat} {b : α} (h : l[j]? = some b) (hj : j < k) : b ∈ l.take k :=
  List.mem_of_getElem? (i := j) (by rw [List.getElem?_take, if_pos hj]; exact h)
theorem PHI_ok {H : List Ak} {k : Nat} {x : Ak} (h : PHI H k x = false) : akB x = true ∧ ∀ b ∈ H.take k, ¬(b.Who = x.Who ∧ b.Key = x.Key) ∧ agB b x = false := by
  unfold PHI at h; rw [Bool.or_eq_false_iff] at h; refine ⟨by simpa using h.1, fun b hb => ?_⟩; have := List.any_eq_false.1 h.2 b hb; simp only [Bool.or_eq_true, Bool.and_eq_true, decide_eq_true_eq, not_or] at this; exact ⟨this.1, by simpa using this.2⟩
theorem PHI_mk {H : List Ak} {k : Nat} {x : Ak} (h1 : akB x = true) (h2 : ∀ b ∈ H.take k, ¬(b.Who = x.Who ∧ b.Key = x.Key) ∧ agB b x = false) : PHI H k x = false := by
  unfold PHI; rw [h1, Bool.not_true, Bool.false_or, List.any_eq_false]; intro b hb; simp only [Bool.or_eq_true, Bool.and_eq_true, decide_eq_true_eq, not_or]; exact ⟨(h2 b hb).1, by rw [(h2 b hb).2]; simp⟩
theorem akB_k {a : Ak} (h : akB a = true) : (0 ≤ a.Who ∧ a.Who ≤ 3) ∧ 1 ≤ a.Kind := by
  unfold akB at h; simp only [Bool.and_eq_true, decide_eq_true_eq] at h; omega
theorem heldG_pos {T : List Ak} {w k : Int} (hT : ∀ b ∈ T, akB b = true) : heldG T w k > 0 ↔ ∃ b ∈ T, b.Who = w ∧ b.Key = k := by
  unfold heldG; cases hf : T.find? (swk w k) with
  | none =>
    have := List.find?_eq_none.1 hf; constructor
    · intro h; simp at h
    · rintro ⟨b, hb, h1, h2⟩
      exact absurd (by unfold swk; rw [decide_eq_true h1, decide_eq_true h2]; rfl) (this b hb)
  | some b =>
    have h1 := List.find?_some hf; have h2 := List.mem_of_find?_eq_some hf; unfold swk at h1; simp only [Bool.and_eq_true, decide_eq_true_eq] at h1; have := (akB_k (hT b h2)).2; exact ⟨fun _ => ⟨b, h2, h1.1, h1.2⟩, fun _ => by show b.Kind > 0; omega⟩
def HI (H : List Ak) : Prop := ∀ k x, H[k]? = some x → PHI H k x = false
theorem HI_ak {H : List Ak} (h : HI H) : ∀ b ∈ H, akB b = true := fun b hb => by
  obtain ⟨k, hk⟩ := List.getElem?_of_mem hb; exact (PHI_ok (h k b hk)).1
theorem HI_HS {H : List Ak} : HI H ↔ ∀ k x, H[k]? = some x → PHS H k x = false := by
  constructor
  · intro h k x hx
    obtain ⟨h1, h2⟩ := PHI_ok (h k x hx); have hb := heldG_pos (T := H.take k) (w := x.Who) (k := x.Key) fun b hb => HI_ak h b (List.mem_of_mem_take hb); unfold PHS; rw [h1, Bool.not_true, Bool.false_or, Bool.or_eq_false_iff, decide_eq_false_iff_not, List.any_eq_false]; refine ⟨fun hp => ?_, fun b hbm hag => ?_⟩
    · obtain ⟨b, hb1, hb2⟩ := hb.1 hp
      exact (h2 b hb1).1 hb2
    · obtain ⟨j, hj⟩ := List.getElem?_of_mem hbm
      rcases Nat.lt_trichotomy j k with hl | rfl | hl
      · rw [(h2 b (mem_take_at hj hl)).2] at hag; cases hag
      · rw [hx] at hj; cases hj; rw [agB_self] at hag; cases hag
      · have := (PHI_ok (h j b hj)).2 x (mem_take_at hx hl)
        rw [agB_sym, this.2] at hag; cases hag
  · intro h k x hx
    have hak : ∀ j y, H[j]? = some y → akB y = true := fun j y hy => by
      have := h j y hy; unfold PHS at this; rw [Bool.or_eq_false_iff] at this; simpa using this.1
    have hs := h k x hx; unfold PHS at hs; rw [Bool.or_eq_false_iff, Bool.or_eq_false_iff, decide_eq_false_iff_not, List.any_eq_false] at hs; refine PHI_mk (hak k x hx) fun b hb => ⟨fun e => hs.2.1 ?_, ?_⟩
    · refine (heldG_pos fun b hb => ?_).2 ⟨b, hb, e⟩
      obtain ⟨j, hj⟩ := List.getElem?_of_mem (List.mem_of_mem_take hb); exact hak j b hj
    · simpa using hs.2.2 b (List.mem_of_mem_take hb)
theorem HI_uniq {H : List Ak} (h : HI H) {b c : Ak} (hb : b ∈ H) (hc : c ∈ H) (e1 : b.Who = c.Who) (e2 : b.Key = c.Key) : b = c := by
  obtain ⟨i, hi⟩ := List.getElem?_of_mem hb; obtain ⟨j, hj⟩ := List.getElem?_of_mem hc; rcases Nat.lt_trichotomy i j with hl | rfl | hl
  · exact absurd ⟨e1, e2⟩ ((PHI_ok (h j c hj)).2 b (mem_take_at hi hl)).1
  · rw [hi] at hj; exact Option.some.inj hj
  · exact absurd ⟨e1.symm, e2.symm⟩ ((PHI_ok (h i b hi)).2 c (mem_take_at hj hl)).1
theorem cov_held {H : List Ak} (h : HI H) {x : Ak} (hx : akB x = true) : (H.any fun b => cvB b x) = decide (heldG H x.Who x.Key ≥ x.Kind) := by
  have hk := (akB_k hx).2; rw [Bool.eq_iff_iff, decide_eq_true_eq, List.any_eq_true]; unfold heldG; cases hf : H.find? (swk x.Who x.Key) with
  | none =>
    have := List.find?_eq_none.1 hf; constructor
    · rintro ⟨b, hb, hc⟩
      unfold cvB at hc; simp only [Bool.and_eq_true, decide_eq_true_eq] at hc; exact absurd (by unfold swk; rw [decide_eq_true hc.2.1, decide_eq_true hc.1]; rfl) (this b hb)
    · intro h0
      have h0' : (0 : Int) ≥ x.Kind := h0; omega
  | some b =>
    have h1 := List.find?_some hf; have h2 := List.mem_of_find?_eq_some hf; unfold swk at h1; simp only [Bool.and_eq_true, decide_eq_true_eq] at h1; constructor
    · rintro ⟨c, hc, hcv⟩
      unfold cvB at hcv; simp only [Bool.and_eq_true, decide_eq_true_eq] at hcv; have : c = b := HI_uniq h hc h2 (by rw [hcv.2.1, h1.1]) (by rw [hcv.1, h1.2]); subst this; exact hcv.2.2
    · intro h0
      refine ⟨b, h2, ?_⟩; unfold cvB; rw [decide_eq_true h1.2, decide_eq_true h1.1, decide_eq_true h0]; rfl
def LkOk (l : Lk) : Prop := HI l.Held ∧ ∀ k x, l.Queue[k]? = some x → PQI l.Held l.Queue k x = false
theorem ok_same {l : Lk} : LkOk l ↔ ((∀ k x, l.Held[k]? = some x → PHS l.Held k x = false) ∧ ∀ k x, l.Queue[k]? = some x → PQS l.Held l.Queue k x = false) := by
  unfold LkOk; rw [← HI_HS]; refine and_congr_right fun h => ?_
  have key : ∀ k x, PQI l.Held l.Queue k x = PQS l.Held l.Queue k x := by
    intro k x; unfold PQI PQS; cases hx : akB x with
    | false => rfl
    | true =>
      rw [cov_held h hx]; cases ((l.Queue.take k).any fun b => decide (b.Who = x.Who)) <;> cases decide (heldG l.Held x.Who x.Key ≥ x.Kind) <;> cases rdB l.Held (l.Queue.take k) x <;> rfl
  constructor
  · intro hq k x hx; rw [← key]; exact hq k x hx
  · intro hq k x hx; rw [key]; exact hq k x hx
theorem Q_ak {l : Lk} (h : LkOk l) : ∀ b ∈ l.Queue, akB b = true := fun b hb => by
  obtain ⟨k, hk⟩ := List.getElem?_of_mem hb; have := h.2 k b hk; unfold PQI at this; rw [Bool.or_eq_false_iff] at this; simpa using this.1
theorem strict_eq : ∀ {a b : List Int}, a.Pairwise (· < ·) → b.Pairwise (· < ·) → (∀ x, x ∈ a ↔ x ∈ b) → a = b
  | [], [], _, _, _ => rfl
  | [], y :: b, _, _, h => by have := (h y).2 (by simp); simp at this
  | x :: a, [], _, _, h => by have := (h x).1 (by simp); simp at this
  | x :: a, y :: b, ha, hb, h => by
    obtain ⟨a1, a2⟩ := List.pairwise_cons.1 ha; obtain ⟨b1, b2⟩ := List.pairwise_cons.1 hb
    have hxy : x = y := by
      rcases List.mem_cons.1 ((h x).1 (by simp)) with e | hx
      · exact e
      · rcases List.mem_cons.1 ((h y).2 (by simp)) with e | hy
        · exact e.symm
        · have := b1 x hx; have := a1 y hy; omega
    subst hxy
    congr 1
    refine strict_eq a2 b2 fun z => ?_; have hz := h z; rw [List.mem_cons, List.mem_cons] at hz; constructor
    · intro hm
      have := a1 z hm; exact (hz.1 (.inr hm)).resolve_left (by omega)
    · intro hm
      have := b1 z hm; exact (hz.2 (.inr hm)).resolve_left (by omega)
def eqI (x y : Int) : Bool := decide (x = y)
theorem goC_strict : ∀ (l : List Int) (p : Int), (p :: l).Pairwise (· ≤ ·) → (p :: goC eqI p l).Pairwise (· < ·) ∧ ∀ x, x ∈ p :: goC eqI p l ↔ x ∈ p :: l
  | [], p, _ => ⟨by simp [goC], by simp [goC]⟩
  | y :: l, p, h => by
    obtain ⟨h1, h2⟩ := List.pairwise_cons.1 h; have hpy := h1 y (by simp); rw [goC]
    by_cases e : y = p
    · subst e
      rw [if_pos (show eqI y y = true from decide_eq_true rfl)]; obtain ⟨i1, i2⟩ := goC_strict l y h2; exact ⟨i1, fun x => by rw [i2 x]; simp⟩
    · rw [if_neg (by unfold eqI; simpa using e)]
      obtain ⟨i1, i2⟩ := goC_strict l y h2; refine ⟨List.pairwise_cons.2 ⟨fun z hz => ?_, i1⟩, fun x => by rw [List.mem_cons, i2 x, List.mem_cons (a := x) (b := p)]⟩; rcases List.mem_cons.1 hz with rfl | hz'
      · omega
      · have := (List.pairwise_cons.1 i1).1 z hz'; omega
theorem sortC {W : List Int} : (compactE eqI (W.mergeSort fun x y => decide (x ≤ y))).Pairwise (· < ·) ∧ ∀ x, x ∈ compactE eqI (W.mergeSort fun x y => decide (x ≤ y)) ↔ x ∈ W := by
  have hs : (W.mergeSort fun x y => decide (x ≤ y)).Pairwise (· ≤ ·) := by
    have := List.pairwise_mergeSort (le := fun x y : Int => decide (x ≤ y)) (fun a b c h1 h2 => by simp at *; omega) (fun a b => by simp; omega) W; exact this.imp fun h => by simpa using h
  have hp := List.mergeSort_perm W (fun x y => decide (x ≤ y)); generalize (W.mergeSort fun x y => decide (x ≤ y)) = S at hs hp; cases S with
  | nil => exact ⟨List.Pairwise.nil, fun x => hp.mem_iff⟩
  | cons y l =>
    obtain ⟨i1, i2⟩ := goC_strict l y hs; exact ⟨i1, fun x => (i2 x).trans hp.mem_iff⟩
theorem idxI_at9 {α : Type} {q : α → Bool} : ∀ {l : List α}, 0 ≤ idxI q l → ∃ x, l[(idxI q l).toNat]? = some x ∧ q x = true ∧ ∀ y ∈ l.take (idxI q l).toNat, q y = false
  | [], h => by simp [idxI] at h
  | x :: l, h => by
    cases hq : q x with
    | true => rw [idxI_pos hq]; exact ⟨x, rfl, hq, by simp⟩
    | false =>
      rw [idxI_neg hq] at h ⊢
      by_cases h0 : idxI q l < 0
      · rw [if_pos h0] at h; omega
      · rw [if_neg h0] at h ⊢
        obtain ⟨y, h1, h2, h3⟩ := idxI_at9 (q := q) (l := l) (by omega); have e : (idxI q l + 1).toNat = (idxI q l).toNat + 1 := by omega
        refine ⟨y, by rw [e]; simpa using h1, h2, fun z hz => ?_⟩; rw [e, List.take_succ_cons] at hz; rcases List.mem_cons.1 hz with rfl | hz
        · exact hq
        · exact h3 z hz
theorem E_clone_int {l : List Int} (h : l.length ≤ 900000000) : m_impl_clone_int l = some l := by
  unfold m_impl_clone_int appN?; cases l with
  | nil => rfl
  | cons x l =>
    have e : (((x :: l).length : Int) == 0) = false := by simp; omega
    rw [e, cond_false, if_pos ⟨by simp, by omega⟩, Option.bind_some]; rfl
def whoIs (who : Int) (b : Ak) : Bool := decide (b.Who = who)
def fH (a : Ak) (b : Ak) : Option Int := if agB b a = true then some b.Who else none
def fQ (a : Ak) (who : Int) (b : Ak) : Option Int := if b.Key = a.Key ∧ b.Who ≠ who then some b.Who else none
def wList (l : Lk) (who : Int) (n : Nat) (a : Ak) : List Int := l.Held.filterMap (fH a) ++ (l.Queue.take n).filterMap (fQ a who)
theorem foldl_fm {α β : Type} {g : α → Option β} : ∀ (xs : List α) (s : List β), xs.foldl (fun o x => o ++ (g x).toList) s = s ++ xs.filterMap g
  | [], s => by simp
  | x :: xs, s => by rw [List.foldl_cons, foldl_fm xs, List.filterMap_cons]; cases g x <;> simp
theorem E_waitsFor {l : Lk} {who : Int} {n : Nat} {a : Ak} (h1 : l.Held.length ≤ 1100000) (h2 : l.Queue.length ≤ 1100000) (hi : idxI (whoIs who) l.Queue = n) (ha : l.Queue[n]? = some a) : m_impl_Locks_waitsFor l who = some (compactE eqI ((wList l who n a).mergeSort fun x y => decide (x ≤ y))) := by
  unfold m_impl_Locks_waitsFor; rw [L_slices_IndexFunc_Limpl_Ask_impl_Ask (p := fun b0_ => m_impl_Locks_waitsFor_1 b0_ who) (q := whoIs who) (by omega) (fun b _ => rfl), Option.bind_some, hi, decide_eq_false (by omega), cond_false, at_of ha, Option.bind_some, ltE]; have hlt := lt_of_at ha
  have e1 := scanMF (f := fH a) (J := fun o => m_impl_Locks_waitsFor_j2 l who n a o) l.Held (fun m k o => m_impl_Locks_waitsFor_l1 m l who n l.Held (l.Held.length : Int) k a o) (fun m k b o hx ho => by
    have hk := lt_of_at hx; rw [m_impl_Locks_waitsFor_l1, dlt hk, cond_true, at_of hx, Option.bind_some, ltE, E_against, Option.bind_some]; unfold m_impl_Locks_waitsFor_j1 fH; rw [ck1 (by omega), Option.bind_some, app_of (by simp; omega), Option.bind_some, Option.bind_some]; cases agB b a with
    | true => rfl
    | false => rw [cond_false, if_neg (by simp), Option.toList_none, List.append_nil]) (fun m o ho => by rw [m_impl_Locks_waitsFor_l1, dnlt, cond_false]) _ fuel0
  rw [e1]; have hl1 : (l.Held.filterMap (fH a)).length ≤ l.Held.length := List.length_filterMap_le _ _; unfold m_impl_Locks_waitsFor_j2; rw [cut_take hlt, Option.bind_some]; have hlT : (l.Queue.take n).length ≤ 1100000 := by simp; omega
  have e2 := scanF (f := fun o x => o ++ (fQ a who x).toList) (J := fun o => m_impl_Locks_waitsFor_j5 o) (fun k o => o.length ≤ 1100000 + k) (l.Queue.take n) (fun m k o => m_impl_Locks_waitsFor_l2 m who (l.Queue.take n) ((l.Queue.take n).length : Int) k a o) (fun m k b o hx ho => by
    have hk := lt_of_at hx; rw [m_impl_Locks_waitsFor_l2, dlt hk, cond_true, at_of hx, Option.bind_some, ltE, eqD, neD]; unfold m_impl_Locks_waitsFor_j3 m_impl_Locks_waitsFor_j4 fQ; rw [ck1 (by omega), Option.bind_some, app_of (by simp; omega), Option.bind_some, Option.bind_some]
    by_cases c1 : b.Key = a.Key
    · by_cases c2 : b.Who ≠ who
      · rw [decide_eq_true c1, decide_eq_true c2, if_pos ⟨c1, c2⟩]
        exact ⟨rfl, by simp; omega⟩
      · rw [decide_eq_true c1, decide_eq_false c2, if_neg (fun h => c2 h.2), Option.toList_none, List.append_nil]
        exact ⟨rfl, by omega⟩
    · rw [decide_eq_false c1, if_neg (fun h => c1 h.1), Option.toList_none, List.append_nil]
      exact ⟨rfl, by omega⟩) (fun m o ho => by rw [m_impl_Locks_waitsFor_l2, dnlt, cond_false]) _ fuel0 (l.Held.filterMap (fH a)) (by omega)
  rw [e2.1, foldl_fm]
  have hlen : (l.Held.filterMap (fH a) ++ (l.Queue.take n).filterMap (fQ a who)).length ≤ 2200000 := by
    have := List.length_filterMap_le (fQ a who) (l.Queue.take n); rw [List.length_append]; omega
  show m_impl_Locks_waitsFor_j5 (wList l who n a) = _; have hlen' : (wList l who n a).length ≤ 2200000 := hlen; generalize wList l who n a = W at hlen' ⊢; unfold m_impl_Locks_waitsFor_j5 m_slices_Sort_Lint_int; have hm : (W.mergeSort fun x y => decide (x ≤ y)).length = W.length := List.length_mergeSort W; rw [if_pos (by omega), Option.bind_some, lenQ_ok hm, Option.bind_some, L_slices_Compact_Lint_int (q := eqI) (by omega) (fun _ _ => rfl), Option.bind_some]; have hc := (compactE_sub (q := eqI) (W.mergeSort fun x y => decide (x ≤ y))).length_le; rw [E_clone_int (by omega)]; rfl
def cT (l : Lk) (n : Nat) (a : Ak) (t : Int) : Bool := (l.Held.any fun b => decide (b.Who = t) && agB b a) || (l.Queue.take n).any fun b => decide (b.Who = t) && decide (b.Key = a.Key)
theorem E_l17Waits {l : Lk} {who : Int} (h2 : l.Queue.length ≤ 1100000) : m_spec_l17Waits l who = some (idxI (whoIs who) l.Queue) := by
  unfold m_spec_l17Waits
  exact scanI (q := whoIs who) (g := fun i => some i) l.Queue (fun n k => m_spec_l17Waits_l1 n who l k) (fun n k x hx => by
    have := lt_of_at hx; rw [m_spec_l17Waits_l1, dlt this, cond_true, at_of hx, Option.bind_some, eqD, ck1 (by omega), Option.bind_some]; rfl) (fun n => by rw [m_spec_l17Waits_l1, dnlt]; rfl) _ fuel0
theorem foldl_or {α : Type} {p : α → Bool} : ∀ (l : List α) (b : Bool), l.foldl (fun s x => s || p x) b = (b || l.any p)
  | [], b => by simp
  | x :: l, b => by rw [List.foldl_cons, foldl_or l, List.any_cons, Bool.or_assoc]
theorem E_lw_step {l : Lk} {n : Nat} {a : Ak} {k1 : Lk → Int → Int → List Int → Option (List Int)} {t : Nat} {o : List Int} (ht : t < 4) (ho : o.length ≤ t) (h1 : l.Held.length ≤ 1100000) (h2 : l.Queue.length ≤ 1100000) (ha : l.Queue[n]? = some a) :
    m_spec_LockWaits_j1 k1 l n t true o = k1 l n ((t : Int) + 1) (o ++ (if cT l n a t = true then [(t : Int)] else [])) := by
  unfold m_spec_LockWaits_j1; rw [cond_true]; have hlt := lt_of_at ha
  have e1 := scanF (f := fun (s : Bool) b => s || (decide (b.Who = (t : Int)) && agB b a)) (J := fun s => m_spec_LockWaits_j3 k1 l n t s o) (fun _ _ => True) l.Held (fun m k s => m_spec_LockWaits_l2 k1 m l n t s k o) (fun m k b s hx _ => by
    have hk := lt_of_at hx; refine ⟨?_, trivial⟩; rw [m_spec_LockWaits_l2, dlt hk, cond_true]; unfold m_spec_LockWaits_j2; cases s with
    | true => rw [cond_true, ck1 (by omega), Option.bind_some, Bool.true_or]
    | false =>
      rw [cond_false, at_of hx, Option.bind_some, Option.bind_some, at_of ha, Option.bind_some, E_against_s, Option.bind_some, ck1 (by omega), Option.bind_some, Option.bind_some, Bool.false_or, eqD]; cases decide (b.Who = (t : Int)) <;> rfl) (fun m s _ => by rw [m_spec_LockWaits_l2, dnlt, cond_false]) _ fuel0 false trivial
  rw [e1.1, foldl_or, Bool.false_or]; unfold m_spec_LockWaits_j3; have hlk : (l.Queue.take n).length = n := by simp; omega
  have e2 := scanF (f := fun (s : Bool) b => s || (decide (b.Who = (t : Int)) && decide (b.Key = a.Key))) (J := fun s => m_spec_LockWaits_j5 k1 l n t s o) (fun _ _ => True) (l.Queue.take n) (fun m k s => m_spec_LockWaits_l3 k1 m l n t s k o) (fun m k b s hx _ => by
    have hk := lt_of_at hx; have hx' := hx; rw [List.getElem?_take, if_pos (by omega)] at hx'; refine ⟨?_, trivial⟩; rw [m_spec_LockWaits_l3, dlt (by omega), cond_true]; unfold m_spec_LockWaits_j4; cases s with
    | true => rw [cond_true, ck1 (by omega), Option.bind_some, Bool.true_or]
    | false =>
      rw [cond_false, at_of hx', Option.bind_some, Option.bind_some, at_of ha, Option.bind_some, ck1 (by omega), Option.bind_some, Option.bind_some, Bool.false_or, eqD, eqD]; cases decide (b.Who = (t : Int)) <;> rfl) (fun m s _ => by rw [hlk, m_spec_LockWaits_l3, dnlt, cond_false]) (((n : Int) - 0).toNat + 1) (by omega) (l.Held.any fun b => decide (b.Who = (t : Int)) && agB b a) trivial
  rw [e2.1, foldl_or]; unfold m_spec_LockWaits_j5 m_spec_LockWaits_j6; rw [app_of (by simp; omega), Option.bind_some, ck1 (by omega), Option.bind_some, Option.bind_some]; show (bif cT l n a t then _ else _) = _; cases cT l n a t with
  | true => rw [cond_true, if_pos rfl]
  | false => rw [cond_false, if_neg (by simp), List.append_nil]
theorem E_lw_loop {l : Lk} {n : Nat} {a : Ak} (h1 : l.Held.length ≤ 1100000) (h2 : l.Queue.length ≤ 1100000) (ha : l.Queue[n]? = some a) : ∀ (d t m : Nat) (o : List Int), t + d = 4 → d < m → o.length ≤ t → m_spec_LockWaits_l1 m l n t o = some (o ++ ((List.range' t d).filter fun t : Nat => cT l n a t).map fun t : Nat => (t : Int))
  | 0, t, m, o, ht, hm, ho => by
    obtain ⟨q, rfl⟩ : ∃ q, m = q + 1 := ⟨m - 1, by omega⟩; obtain rfl : t = 4 := by omega
    rw [m_spec_LockWaits_l1, show decide (((4 : Nat) : Int) < 4) = false from rfl, cond_false]; unfold m_spec_LockWaits_j1 m_spec_LockWaits_j7; simp
  | d + 1, t, m, o, ht, hm, ho => by
    obtain ⟨q, rfl⟩ : ∃ q, m = q + 1 := ⟨m - 1, by omega⟩; rw [m_spec_LockWaits_l1, decide_eq_true (show (t : Int) < 4 by omega), cond_true, decide_eq_true (show (n : Int) ≥ 0 by omega), E_lw_step (by omega) ho h1 h2 ha, show ((t : Int) + 1) = ((t + 1 : Nat) : Int) by omega]; rw [E_lw_loop h1 h2 ha d (t + 1) q _ (by omega) (by omega) (by split <;> simp <;> omega), List.range'_succ, List.filter_cons]; cases cT l n a (t : Int) <;> simp
theorem E_spec_lw {l : Lk} {n : Nat} {a : Ak} (h1 : l.Held.length ≤ 1100000) (h2 : l.Queue.length ≤ 1100000) (ha : l.Queue[n]? = some a) : m_spec_LockWaits_l1 1000000000 l n 0 [] = some (((List.range' 0 4).filter fun t : Nat => cT l n a t).map fun t : Nat => (t : Int)) := by
  have := E_lw_loop h1 h2 ha 4 0 1000000000 [] (by omega) (by omega) (by simp); simpa using this
theorem mem_w {l : Lk} {who : Int} {n : Nat} {a : Ak} (hok : LkOk l) (hn : ∀ b ∈ l.Queue.take n, b.Who ≠ who) (x : Int) : x ∈ wList l who n a ↔ x ∈ ((List.range' 0 4).filter fun t : Nat => cT l n a t).map fun t : Nat => (t : Int) := by
  have hq := Q_ak hok; have hh := HI_ak hok.1; unfold wList; rw [List.mem_append, List.mem_filterMap, List.mem_filterMap, List.mem_map]; constructor
  · intro h
    have hx : (0 ≤ x ∧ x ≤ 3) ∧ cT l n a x = true := by
      unfold cT; rw [Bool.or_eq_true, List.any_eq_true, List.any_eq_true]; rcases h with ⟨b, hb, he⟩ | ⟨b, hb, he⟩
      · unfold fH at he
        split at he
        · rename_i hag
          cases he; exact ⟨(akB_k (hh b hb)).1, .inl ⟨b, hb, by rw [hag, decide_eq_true rfl]; rfl⟩⟩
        · cases he
      · unfold fQ at he
        split at he
        · rename_i hk
          cases he; exact ⟨(akB_k (hq b (List.mem_of_mem_take hb))).1, .inr ⟨b, hb, by rw [decide_eq_true hk.1, decide_eq_true rfl]; rfl⟩⟩
        · cases he
    refine ⟨x.toNat, List.mem_filter.2 ⟨by rw [List.mem_range'_1]; omega, ?_⟩, by omega⟩; rw [show ((x.toNat : Nat) : Int) = x by omega]; exact hx.2
  · rintro ⟨t, ht, rfl⟩
    have hc := (List.mem_filter.1 ht).2; unfold cT at hc; rw [Bool.or_eq_true, List.any_eq_true, List.any_eq_true] at hc; rcases hc with ⟨b, hb, he⟩ | ⟨b, hb, he⟩
    · rw [Bool.and_eq_true, decide_eq_true_eq] at he
      exact .inl ⟨b, hb, by unfold fH; rw [if_pos he.2, he.1]⟩
    · rw [Bool.and_eq_true, decide_eq_true_eq, decide_eq_true_eq] at he
      exact .inr ⟨b, hb, by unfold fQ; rw [if_pos ⟨he.2, hn b hb⟩, he.1]⟩
theorem cT_len (l : Lk) (n : Nat) (a : Ak) : (((List.range' 0 4).filter fun t : Nat => cT l n a t).map fun t : Nat => (t : Int)).length ≤ 4 := by
  rw [List.length_map]; have := List.length_filter_le (fun t : Nat => cT l n a t) (List.range' 0 4); simp at this ⊢; exact this
theorem E_LockWaits {l : Lk} {who : Int} (h1 : l.Held.length ≤ 1100000) (h2 : l.Queue.length ≤ 1100000) : ∃ r, m_spec_LockWaits l who = some r ∧ m_impl_LockWaits l who = some r ∧ r.length ≤ 4 := by
  unfold m_spec_LockWaits m_impl_LockWaits; obtain ⟨b1, e1, i1⟩ := E_spec_LocksOk (l := l) h1 h2; obtain ⟨b2, e2, i2⟩ := E_impl_LocksOk (l := l) h1 h2; rw [e1, Option.bind_some, e2, Option.bind_some]
  by_cases hok : LkOk l
  · have hok' : (∀ k x, l.Held[k]? = some x → PHI l.Held k x = false) ∧ ∀ k x, l.Queue[k]? = some x → PQI l.Held l.Queue k x = false := hok
    rw [i1.2 (ok_same.1 hok), i2.2 hok', Bool.not_true, cond_false, cond_false, E_l17Waits h2, Option.bind_some]
    by_cases hi : 0 ≤ idxI (whoIs who) l.Queue
    · obtain ⟨a, ha, _, hb⟩ := idxI_at9 hi
      have hs := E_spec_lw h1 h2 ha; rw [Int.toNat_of_nonneg hi] at hs; refine ⟨_, hs, ?_, cT_len _ _ _⟩; rw [E_waitsFor h1 h2 (Int.toNat_of_nonneg hi).symm ha, Option.bind_some]; obtain ⟨s1, s2⟩ := sortC (W := wList l who (idxI (whoIs who) l.Queue).toNat a)
      congr 1
      refine strict_eq s1 ?_ fun x => (s2 x).trans (mem_w hok (fun b hbm => ?_) x)
      · rw [List.pairwise_map]
        have hr : (List.range' 0 4).Pairwise fun a b : Nat => (a : Int) < b := by decide
        exact hr.filter _
      · have := hb b hbm
        unfold whoIs at this; simpa using this
    · refine ⟨[], ?_, ?_, by simp⟩
      · rw [show (1000000000 : Nat) = 999999999 + 1 from rfl, m_spec_LockWaits_l1, show decide ((0 : Int) < 4) = true from rfl, cond_true, decide_eq_false hi]
        rfl
      · unfold m_impl_Locks_waitsFor
        rw [L_slices_IndexFunc_Limpl_Ask_impl_Ask (p := fun b0_ => m_impl_Locks_waitsFor_1 b0_ who) (q := whoIs who) (by omega) (fun b _ => rfl), Option.bind_some, decide_eq_true (by omega)]; rfl
  · have hok' : ¬((∀ k x, l.Held[k]? = some x → PHI l.Held k x = false) ∧ ∀ k x, l.Queue[k]? = some x → PQI l.Held l.Queue k x = false) := hok
    have f1 : b1 = false := by cases b1 with | false => rfl | true => exact absurd (ok_same.2 (i1.1 rfl)) hok
    have f2 : b2 = false := by cases b2 with | false => rfl | true => exact absurd (i2.1 rfl) hok'
    rw [f1, f2]; exact ⟨[], rfl, rfl, by simp⟩
theorem T_Grant {h : List Ak} {a : Ak} (hl : h.length ≤ 100000) : Tot (m_spec_l17Grant h a) fun r => r.length ≤ h.length + 1 := by
  unfold m_spec_l17Grant; refine Tot.up (h.length : Int) (fun n t (s : Bool × List Ak) => m_spec_l17Grant_l1 n h a s.1 t s.2) (fun t s => (s.2.length : Int) = t) (fun n s hs => ?_) (fun n t s h0 h1 hs ih => ?_) _ 0 (false, []) (by omega) (by omega) (by omega) rfl
  · rw [m_spec_l17Grant_l1, dnlt, cond_false]
    unfold m_spec_l17Grant_j3 m_spec_l17Grant_j4; exact Tot.bif (fun _ => Tot.app (by simp; omega) (Tot.ret (by simp; omega))) (fun _ => Tot.ret (by omega))
  · have j2 : ∀ (b : Bool) (y : Ak), Tot (m_spec_l17Grant_j2 (m_spec_l17Grant_l1 n) h a b t y s.2) fun r => r.length ≤ h.length + 1 := fun b y => by
      unfold m_spec_l17Grant_j2; exact Tot.app (by simp; omega) (Tot.ck (by omega) (by omega) (ih (b, s.2 ++ [y]) (by simp; omega)))
    have j1 : ∀ (b : Bool) (y : Ak), Tot (m_spec_l17Grant_j1 (m_spec_l17Grant_l1 n) h a s.1 t b y s.2) fun r => r.length ≤ h.length + 1 := fun b y => by
      unfold m_spec_l17Grant_j1; exact Tot.bif (fun _ => Tot.lt (j2 _ _)) (fun _ => j2 _ _)
    rw [m_spec_l17Grant_l1, decide_eq_true h1, cond_true]; exact Tot.at h0 h1 fun x hx => Tot.lt (Tot.bif (fun _ => j1 _ _) (fun _ => j1 _ _))
def lkN (l : Lk) : Nat := l.Held.length + l.Queue.length
theorem T_Settle_l {B : Nat} (hB : B ≤ 1000) (x1 x2 : List Ak) (x3 : Lk) : ∀ (n : Nat) (t : Int) (h q : List Ak) (o : Lk), 0 ≤ t → t ≤ q.length → h.length + q.length ≤ B → (q.length : Int) * 1001 + (q.length - t) < n → Tot (m_spec_l17Settle_l1 n t x1 x2 x3 h q o) fun r => lkN r ≤ B := by
  intro n
  induction n with
  | zero => intro t h q o h0 h1 h2 h3; omega
  | succ n ih =>
    intro t h q o h0 h1 h2 h3; rw [m_spec_l17Settle_l1]
    by_cases ht : t < q.length
    case neg =>
      rw [decide_eq_false ht, cond_false]; unfold m_spec_l17Settle_j3; exact Tot.lt (Tot.ret (by unfold lkN; exact h2))
    rw [decide_eq_true ht, cond_true]; obtain ⟨k, rfl⟩ : ∃ k : Nat, t = (k : Int) := ⟨t.toNat, by omega⟩; refine Tot.at h0 ht fun x hx => Tot.at h0 ht fun y hy => Tot.lt ?_; refine Tot.eq (x := ()) (by unfold rng?; rw [if_pos (by omega)]) (Tot.eq (x := ()) (by unfold leN; rw [if_pos (by omega)]) (Tot.eq (E_ready (by omega) (by rw [List.length_take]; omega)) (Tot.bif (fun _ => ?_) (fun _ => ?_))))
    · refine Tot.bind (T_Grant (by omega)) fun h' hh => Tot.cut (by omega) (Tot.app (by simp; omega) ?_)
      unfold m_spec_l17Settle_j1; refine Tot.ck (by omega) (by omega) (Tot.cut (by simp only; omega) (Tot.app (by simp; omega) ?_)); unfold m_spec_l17Settle_j2; have hl : (([] ++ (q.take (k : Int).toNat).drop (0 : Int).toNat) ++ (q.take (q.length : Int).toNat).drop ((k : Int) + 1).toNat).length = q.length - 1 := by simp; omega
      refine ih 0 h' _ _ (by omega) (by omega) (by rw [hl]; omega) ?_; rw [hl]; omega
    · exact Tot.ck (by omega) (by omega) (ih ((k : Int) + 1) h q o (by omega) (by omega) h2 (by omega))
theorem T_Settle {l : Lk} {B : Nat} (hB : B ≤ 1000) (hl : lkN l ≤ B) : Tot (m_spec_l17Settle l) fun r => lkN r ≤ B := by
  unfold lkN at hl; unfold m_spec_l17Settle; refine Tot.app (by simp; omega) (Tot.app (by simp; omega) (Tot.lt ?_)); rw [List.nil_append, List.nil_append]; exact T_Settle_l hB _ _ _ _ _ _ _ _ (by omega) (by omega) hl (by omega)
theorem T_LockFree {l : Lk} {who : Int} {B : Nat} (hB : B ≤ 1000) (hl : lkN l ≤ B) : Tot (m_spec_LockFree l who) fun r => lkN r ≤ B := by
  have hl' : l.Held.length + l.Queue.length ≤ B := hl; obtain ⟨b1, e1, _⟩ := E_spec_LocksOk (l := l) (by omega) (by omega)
  have j1 : ∀ (b : Bool) (x1 x2 : List Ak) (x3 : Lk), Tot (m_spec_LockFree_j1 who l b x1 x2 x3) fun r => lkN r ≤ B := by
    intro b x1 x2 x3; unfold m_spec_LockFree_j1; refine Tot.bif (fun _ => Tot.lt (Tot.ret (by unfold lkN; simp))) (fun _ => Tot.lt ?_)
    have l2 : ∀ (h : List Ak) (o : Lk), h.length ≤ l.Held.length → Tot (m_spec_LockFree_j3 who l x1 x2 x3 h [] o) fun r => lkN r ≤ B := by
      intro h o hh; unfold m_spec_LockFree_j3; refine Tot.up (l.Queue.length : Int) (fun n t (s : List Ak) => m_spec_LockFree_l2 n who l t x1 x2 x3 h s o) (fun t s => (s.length : Int) ≤ t) (fun n s hs => ?_) (fun n t s h0 h1 hs ih => ?_) _ 0 [] (by omega) (by omega) (by omega) (by simp)
      · rw [m_spec_LockFree_l2, dnlt, cond_false]
        unfold m_spec_LockFree_j5; exact Tot.bind (T_Settle hB (by unfold lkN; simp only; omega)) fun r hr => Tot.lt (Tot.ret hr)
      · have j4 : ∀ s' : List Ak, (s'.length : Int) ≤ t + 1 → Tot (m_spec_LockFree_j4 (m_spec_LockFree_l2 n) who l t x1 x2 x3 h s' o) fun r => lkN r ≤ B := fun s' hs' => by
          unfold m_spec_LockFree_j4; exact Tot.ck (by omega) (by omega) (ih s' hs')
        rw [m_spec_LockFree_l2, decide_eq_true h1, cond_true]; exact Tot.at h0 h1 fun x hx => Tot.bif (fun _ => Tot.at h0 h1 fun y hy => Tot.app (by simp; omega) (j4 _ (by simp; omega))) (fun _ => j4 _ (by omega))
    refine Tot.up (l.Held.length : Int) (fun n t (s : List Ak) => m_spec_LockFree_l1 n who l t x1 x2 x3 s [] (⟨[], []⟩ : Lk)) (fun t s => (s.length : Int) ≤ t) (fun n s hs => ?_) (fun n t s h0 h1 hs ih => ?_) _ 0 [] (by omega) (by omega) (by omega) (by simp)
    · rw [m_spec_LockFree_l1, dnlt, cond_false]
      exact l2 _ _ (by omega)
    · have j2 : ∀ s' : List Ak, (s'.length : Int) ≤ t + 1 → Tot (m_spec_LockFree_j2 (m_spec_LockFree_l1 n) who l t x1 x2 x3 s' [] (⟨[], []⟩ : Lk)) fun r => lkN r ≤ B := fun s' hs' => by
        unfold m_spec_LockFree_j2; exact Tot.ck (by omega) (by omega) (ih s' hs')
      rw [m_spec_LockFree_l1, decide_eq_true h1, cond_true]; exact Tot.at h0 h1 fun x hx => Tot.bif (fun _ => Tot.at h0 h1 fun y hy => Tot.app (by simp; omega) (j2 _ (by simp; omega))) (fun _ => j2 _ (by omega))
  unfold m_spec_LockFree; exact Tot.eq e1 (Tot.bif (fun _ => j1 _ _ _ _) (fun _ => Tot.eq (E_l1In _ _ _) (j1 _ _ _ _)))
theorem T_LockAsk {l : Lk} {a : Ak} {B : Nat} (hB : B ≤ 1000) (hl : lkN l ≤ B) : Tot (m_spec_LockAsk l a) fun r => lkN r.1 ≤ B + 1 := by
  have hl' : l.Held.length + l.Queue.length ≤ B := hl; obtain ⟨b1, e1, _⟩ := E_spec_LocksOk (l := l) (by omega) (by omega)
  have j1 : ∀ (b : Bool) (x1 x2 : List Ak) (x3 : Lk), Tot (m_spec_LockAsk_j1 l a b x1 x2 x3) fun r => lkN r.1 ≤ B + 1 := by
    intro b x1 x2 x3; unfold m_spec_LockAsk_j1; refine Tot.bif (fun _ => Tot.lt (Tot.ret (by unfold lkN; simp))) (fun _ => Tot.app (by simp; omega) (Tot.app (by simp; omega) (Tot.lt ?_))); rw [List.nil_append, List.nil_append]; refine Tot.eq (E_l17Waits (by omega)) (Tot.bif (fun _ => Tot.lt (Tot.ret (by unfold lkN; simp only; omega))) (fun _ => ?_)); refine Tot.eq (E_heldG (by omega)) (Tot.bif (fun _ => Tot.lt (Tot.ret (by unfold lkN; simp only; omega))) (fun _ => ?_)); refine Tot.eq (E_ready (by omega) (by omega)) (Tot.bif (fun _ => ?_) (fun _ => ?_))
    · exact Tot.bind (T_Grant (by omega)) fun h hh => Tot.lt (Tot.ret (by unfold lkN; simp only; omega))
    · exact Tot.app (by simp; omega) (Tot.lt (Tot.ret (by unfold lkN; simp; omega)))
  unfold m_spec_LockAsk; exact Tot.eq e1 (Tot.bif (fun _ => j1 _ _ _ _) (fun _ => Tot.eq (E_l17Ask _) (j1 _ _ _ _)))
theorem T_l20Ask {o : Rd} {n : Int} (ho : 0 ≤ o.p ∧ o.p ≤ 1000000) (hn : -900000000 ≤ n ∧ n ≤ 900000000) : Tot (m_spec_l20Ask o n) fun r => o.p ≤ r.2.p ∧ r.2.p ≤ o.p + 10 := by
  unfold m_spec_l20Ask m_spec_l20Ask_j1; refine Tot.bind (T_pick (by omega)) fun x hx => Tot.bind (T_pick (by omega)) fun y hy => Tot.bind (T_pick (by omega)) fun z hz => Tot.ck (by omega) (by omega) (Tot.lt (Tot.bind (T_odd (by omega) hn) fun w hw => Tot.bif (fun _ => ?_) (fun _ => Tot.lt (Tot.ret (by simp only; omega))))); refine Tot.bind (T_pick (by omega)) fun u hu => Tot.bif (fun _ => ?_) (fun _ => Tot.bif (fun _ => ?_) (fun _ => ?_))
  · exact Tot.bind (T_pick (by omega)) fun v hv => Tot.ck (by omega) (by omega) (Tot.lt (Tot.lt (Tot.ret (by simp only; omega))))
  · exact Tot.bind (T_pick (by omega)) fun v hv => Tot.ck (by omega) (by omega) (Tot.lt (Tot.lt (Tot.ret (by simp only; omega))))
  · exact Tot.bind (T_pick (by omega)) fun v hv => Tot.lt (Tot.lt (Tot.ret (by simp only; omega)))
theorem T_l20Locks {o : Rd} (ho : o.p = 0) : Tot (m_spec_l20Locks o 15) fun r => lkN r.1 ≤ 20 ∧ 0 ≤ r.2.p ∧ r.2.p ≤ 1000 := by
  unfold m_spec_l20Locks
  have j3 : ∀ (q : Rd) (x1 x2 : List Ak) (x3 : Lk) (y : List Ak) (z : Lk), 0 ≤ q.p → q.p ≤ 1000 → z.Held.length + y.length ≤ 20 → Tot (m_spec_l20Locks_j3 q x1 x2 x3 y z) fun r => lkN r.1 ≤ 20 ∧ 0 ≤ r.2.p ∧ r.2.p ≤ 1000 := fun q x1 x2 x3 y z h0 h1 h2 => by
    unfold m_spec_l20Locks_j3; exact Tot.lt (Tot.ret ⟨by unfold lkN; exact h2, h0, h1⟩)
  have j2 : ∀ (q : Rd) (x1 x2 : List Ak) (x3 : Lk) (h y : List Ak) (z : Lk), 0 ≤ q.p → q.p ≤ 900 → h.length + y.length ≤ 14 → Tot (m_spec_l20Locks_j2 15 q x1 x2 x3 h y z) fun r => lkN r.1 ≤ 20 ∧ 0 ≤ r.2.p ∧ r.2.p ≤ 1000 := fun q x1 x2 x3 h y z h0 h1 h2 => by
    unfold m_spec_l20Locks_j2; refine Tot.bind (T_odd (by omega) (by omega)) fun w hw => Tot.bif (fun _ => ?_) (fun _ => j3 _ _ _ _ _ _ (by omega) (by omega) (by simp only; omega)); refine Tot.bind (T_pick (by omega)) fun u hu => Tot.bif (fun _ => ?_) (fun _ => Tot.bif (fun _ => ?_) (fun _ => Tot.bif (fun hh => ?_) (fun _ => ?_)))
    · exact Tot.bind (T_l20Ask (by omega) (by omega)) fun v hv => Tot.app (by simp; omega) (j3 _ _ _ _ _ _ (by omega) (by omega) (by simp; omega))
    · exact Tot.bind (T_l20Ask (by omega) (by omega)) fun v hv => Tot.app (by simp; omega) (j3 _ _ _ _ _ _ (by omega) (by omega) (by simp; omega))
    · rw [decide_eq_true_eq] at hh
      refine Tot.eq (x := ()) (by unfold rng?; rw [if_pos (by omega)]) (Tot.eq (x := ()) (by unfold leN; rw [if_pos (by omega)]) (Tot.lt (Tot.lt (j3 _ _ _ _ _ _ (by omega) (by omega) ?_)))); simp; omega
    · exact j3 _ _ _ _ _ _ (by omega) (by omega) (by simp only; omega)
  refine Tot.lt (Tot.bind (T_pick (by omega)) fun m hm => ?_); refine Tot.down (fun f t (s : Rd × List Ak × List Ak × Lk) => m_spec_l20Locks_l1 f 15 t s.1 [] [] (⟨[], []⟩ : Lk) s.2.1 s.2.2.1 s.2.2.2) (fun t s => t ≤ m.1 ∧ 0 ≤ s.1.p ∧ s.1.p + 20 * t ≤ 1 + 20 * m.1 ∧ (s.2.1.length + s.2.2.1.length : Int) + t ≤ m.1) (fun f s h => ?_) (fun f t s ht h ih => ?_) _ m.1 (m.2, [], [], ⟨[], []⟩) (by omega) (by omega) ⟨by omega, by simp only; omega, by simp only; omega, by simp⟩
  · obtain ⟨h1, h2, h3, h4⟩ := h
    rw [m_spec_l20Locks_l1, show decide ((0 : Int) > 0) = false from rfl, cond_false]; exact j2 _ _ _ _ _ _ _ (by omega) (by omega) (by omega)
  · obtain ⟨h1, h2, h3, h4⟩ := h
    rw [m_spec_l20Locks_l1, decide_eq_true (show t > 0 by omega), cond_true]; refine Tot.bind (T_l20Ask (by omega) (by omega)) fun a ha => ?_; refine Tot.bind (T_LockAsk (B := s.2.1.length + s.2.2.1.length) (by omega) (by unfold lkN; exact Nat.le_refl _)) fun r hr => Tot.lt ?_; have hr' : r.1.Held.length + r.1.Queue.length ≤ s.2.1.length + s.2.2.1.length + 1 := hr
    have j1 : ∀ (q : Rd) (h y : List Ak) (z : Lk), 0 ≤ q.p → q.p ≤ s.1.p + 20 → h.length + y.length ≤ s.2.1.length + s.2.2.1.length + 1 → Tot (m_spec_l20Locks_j1 (m_spec_l20Locks_l1 f) 15 t q [] [] (⟨[], []⟩ : Lk) h y z) fun r => lkN r.1 ≤ 20 ∧ 0 ≤ r.2.p ∧ r.2.p ≤ 1000 := fun q h y z g0 g1 g2 => by
      unfold m_spec_l20Locks_j1; exact Tot.ck (by omega) (by omega) (ih (q, h, y, z) ⟨by omega, g0, by simp only; omega, by simp only; omega⟩)
    refine Tot.bind (T_pick (by omega)) fun u hu => Tot.bif (fun _ => ?_) (fun _ => j1 _ _ _ _ (by omega) (by omega) hr'); refine Tot.bind (T_pick (by omega)) fun v hv => Tot.bind (T_LockFree (B := s.2.1.length + s.2.2.1.length + 1) (by omega) (by unfold lkN; exact hr')) fun w hw => Tot.lt (j1 _ _ _ _ (by omega) (by omega) hw)
theorem T_DrawLockWaits {l : List UInt8} : Tot (m_spec_DrawLockWaits l) fun r => lkN r.1 ≤ 20 := by
  unfold m_spec_DrawLockWaits; refine Tot.bind T_l20Open fun o ho => Tot.bind (T_l20Locks ho) fun k hk => Tot.bind (T_pick (by omega)) fun x hx => Tot.bind (T_pick (by omega)) fun y hy => Tot.bind (P := fun z => -100 ≤ z ∧ z ≤ 100) ⟨y.1 / 8, by unfold quoI; rw [if_neg (by decide), Int.tdiv_eq_ediv_of_nonneg hy.1, ckI_of (by omega) (by omega)], by omega⟩ fun z hz => Tot.ck (by omega) (by omega) (Tot.lt (Tot.ret hk.1))
theorem idxI_none {α : Type} {q : α → Bool} : ∀ {l : List α}, ¬ 0 ≤ idxI q l → ∀ x ∈ l, q x = false
  | [], _, x, hx => by cases hx
  | y :: l, h, x, hx => by
    unfold idxI at h; cases hy : q y with
    | true => rw [hy] at h; simp at h
    | false =>
      rw [hy] at h
      have h' : ¬ 0 ≤ idxI q l := fun h2 => h (by
        simp only [Bool.false_eq_true, if_false]
        split <;> omega)
      rcases List.mem_cons.1 hx with rfl | hx
      · exact hy
      · exact idxI_none h' x hx
theorem lw_facts {l : Lk} {who : Int} {r : List Int} (h1 : l.Held.length ≤ 1100000) (h2 : l.Queue.length ≤ 1100000) (hok : m_impl_LocksOk l = some true) (h : m_impl_LockWaits l who = some r) : who ∉ r ∧ (l.Queue.any (fun b => b.Who == who) = decide ((r.length : Int) > 0)) := by
  have hk : LkOk l := by
    obtain ⟨b, e, i⟩ := E_impl_LocksOk (l := l) h1 h2; rw [hok] at e; cases e; exact i.1 rfl
  unfold m_impl_LockWaits at h; rw [hok, Option.bind_some, Bool.not_true, cond_false] at h
  by_cases hi : 0 ≤ idxI (whoIs who) l.Queue
  · obtain ⟨a, ha, hq, hb⟩ := idxI_at9 hi
    rw [E_waitsFor h1 h2 (Int.toNat_of_nonneg hi).symm ha, Option.bind_some] at h; cases h; obtain ⟨s1, s2⟩ := sortC (W := wList l who (idxI (whoIs who) l.Queue).toNat a); have haw : a.Who = who := by unfold whoIs at hq; simpa using hq
    have ham := List.mem_of_getElem? ha
    have hmem : ∀ x, x ∈ wList l who (idxI (whoIs who) l.Queue).toNat a → x ≠ who := by
      intro x hx; unfold wList at hx; rw [List.mem_append, List.mem_filterMap, List.mem_filterMap] at hx; rcases hx with ⟨b, hb, he⟩ | ⟨b, hb, he⟩
      · unfold fH at he
        split at he
        · rename_i hag
          cases he; intro e; unfold agB at hag; rw [Bool.and_eq_true, Bool.and_eq_true, decide_eq_true_eq, decide_eq_true_eq] at hag; exact hag.2.1 (by rw [e, haw])
        · cases he
      · unfold fQ at he
        split at he
        · rename_i hkk; cases he; exact hkk.2
        · cases he
    refine ⟨fun hr => hmem who ((s2 who).1 hr) rfl, ?_⟩
    have hne : ∃ x, x ∈ wList l who (idxI (whoIs who) l.Queue).toNat a := by
      have hp := hk.2 _ a ha; unfold PQI at hp; simp only [Bool.or_eq_false_iff] at hp; have hrd := hp.2.2.2; unfold rdB at hrd; rw [Bool.and_eq_false_iff, Bool.not_eq_false', Bool.not_eq_false', List.any_eq_true, List.any_eq_true] at hrd; unfold wList; rcases hrd with ⟨b, hb1, hb2⟩ | ⟨b, hb1, hb2⟩
      · unfold hdA at hb2
        rw [Bool.and_eq_true, decide_eq_true_eq, decide_eq_true_eq] at hb2; refine ⟨b.Who, List.mem_append.2 (.inr (List.mem_filterMap.2 ⟨b, hb1, ?_⟩))⟩; unfold fQ; rw [if_pos ⟨hb2.1, by rw [← haw]; exact hb2.2⟩]
      · refine ⟨b.Who, List.mem_append.2 (.inl (List.mem_filterMap.2 ⟨b, hb1, ?_⟩))⟩
        unfold fH; rw [if_pos hb2]
    obtain ⟨x, hx⟩ := hne; have hxr := (s2 x).2 hx
    rw [decide_eq_true (by
      cases hc : compactE eqI ((wList l who (idxI (whoIs who) l.Queue).toNat a).mergeSort fun x y => decide (x ≤ y)) with
      | nil => rw [hc] at hxr; cases hxr
      | cons y ys => rw [List.length_cons]; omega)]
    exact List.any_eq_true.2 ⟨a, ham, by simp [haw]⟩
  · have hn := idxI_none hi
    unfold m_impl_Locks_waitsFor at h; rw [L_slices_IndexFunc_Limpl_Ask_impl_Ask (p := fun b0_ => m_impl_Locks_waitsFor_1 b0_ who) (q := whoIs who) (by omega) (fun b _ => rfl), Option.bind_some, decide_eq_true (by omega), cond_true, Option.bind_some] at h; cases h; refine ⟨by simp, ?_⟩; rw [show decide ((([] : List Int).length : Int) > 0) = false from rfl, List.any_eq_false]; intro x hx; have := hn x hx; unfold whoIs at this; rw [decide_eq_false_iff_not] at this; simpa using this
theorem E_sameI {r : List Int} (h : r.length ≤ 100) : m_laws_sameInts r r = some true := by
  unfold m_laws_sameInts; rw [show ((r.length : Int) != (r.length : Int)) = false by simp, cond_false]
  exact (scanP (P := fun _ _ => false) (r0 := some false) (e := some true) r (fun n k => m_laws_sameInts_l1 n r r k) (fun n k x hx => by
    rw [m_laws_sameInts_l1, dlt (lt_of_at hx), cond_true, at_of hx, Option.bind_some, Option.bind_some, bne_self_eq_false, cond_false, cond_false, ck1 (by have := lt_of_at hx; omega), Option.bind_some]) (fun n => by rw [m_laws_sameInts_l1, dnlt, cond_false]; rfl) _ fuel0).1 fun _ _ _ => rfl
theorem E_hasI {r : List Int} {w : Int} (h : r.length ≤ 100) (hw : w ∉ r) : m_laws_hasInt r w = some false := by
  unfold m_laws_hasInt
  exact (scanP (P := fun _ x => x == w) (r0 := some true) (e := some false) r (fun n k => m_laws_hasInt_l1 n r w k) (fun n k x hx => by
    rw [m_laws_hasInt_l1, dlt (lt_of_at hx), cond_true, at_of hx, Option.bind_some, ck1 (by have := lt_of_at hx; omega), Option.bind_some]) (fun n => by rw [m_laws_hasInt_l1, dnlt, cond_false]; rfl) _ fuel0).1 fun k x hx => beqF fun e => hw (e ▸ List.mem_of_getElem? hx)
theorem pure_FnLockWaits (l : List UInt8) : m_laws_FnLockWaits l = some true := by
  unfold m_laws_FnLockWaits
  by_cases hl : (l.length : Int) > 1048576
  · rw [decide_eq_true hl, cond_true]
  rw [decide_eq_false hl, cond_false]; obtain ⟨d, ed, hd⟩ := T_DrawLockWaits (l := l); rw [ed, Option.bind_some, ltE]; have hd' : d.1.Held.length + d.1.Queue.length ≤ 20 := hd; obtain ⟨r, hs, hi, hr⟩ := E_LockWaits (l := d.1) (who := d.2) (by omega) (by omega); rw [hi, Option.bind_some, hs, Option.bind_some, E_sameI (by omega), Option.bind_some, Bool.not_true, cond_false]; obtain ⟨b, eb, _⟩ := E_impl_LocksOk (l := d.1) (by omega) (by omega); rw [eb, Option.bind_some]; cases b with
  | false =>
    have hr0 : r = [] := by
      unfold m_impl_LockWaits at hi; rw [eb, Option.bind_some, Bool.not_false, cond_true] at hi; cases hi; rfl
    rw [Bool.not_false, cond_true, hr0, show ((([] : List Int).length : Int) == 0) = true from rfl, cond_true, E_alive, Option.bind_some]; rfl
  | true =>
    rw [Bool.not_true, cond_false]; obtain ⟨f1, f2⟩ := lw_facts (by omega) (by omega) eb hi
    have := scanF (f := fun (s : Bool) (x : Ak) => s || (x.Who == d.2)) (J := fun s => m_laws_FnLockWaits_j3 d.2 r s) (fun _ _ => True) d.1.Queue (fun n k s => m_laws_FnLockWaits_l1 n d.2 r s k d.1) (fun n k x s hx _ => by
      refine ⟨?_, trivial⟩; rw [m_laws_FnLockWaits_l1, dlt (lt_of_at hx), cond_true, at_of hx, Option.bind_some]; unfold m_laws_FnLockWaits_j2; rw [ck1 (by have := lt_of_at hx; omega), Option.bind_some, Option.bind_some]; cases s <;> rfl) (fun n s _ => by rw [m_laws_FnLockWaits_l1, dnlt, cond_false]) _ fuel0 false trivial
    rw [this.1]; rw [foldl_or, Bool.false_or, f2]; unfold m_laws_FnLockWaits_j3; rw [beq_self_eq_true, cond_true, E_hasI (by omega) f1, Option.bind_some, Bool.not_false, cond_true, E_alive, Option.bind_some]; rfl
end Go.Proofs.Ytdkpmckpcejceaa
