/- What the mirrors come to, in plain Lean: the law itself at the end. -/
import Derived.Test.YtdkpmckpcejceaaDoorXW1
import Derived.Test.YtdkpmckpcejceaaDoorLd
set_option linter.unusedVariables false
set_option linter.unusedSimpArgs false
set_option linter.unnecessarySimpa false
namespace Go.Proofs.YtdkpmckpcejceaaDoor
open Go.Proofs Go.Lift
abbrev V := S_impl_Value
def lower (l : List UInt8) : Bool := l.all fun b => decide (97 ≤ b.toNat) && decide (b.toNat ≤ 122)
def vOk (v : V) : Bool :=
  if v.Kind = 0 then decide (v = ⟨0, 0, ⟨#[]⟩⟩)
  else if v.Kind = 1 then decide (v.S = ⟨#[]⟩) && (decide (-9999 ≤ v.N) && decide (v.N ≤ 9999))
  else if v.Kind = 2 then decide (v.N = 0) && decide (v.S.size ≤ 6) && lower v.S.data.toList
  else if v.Kind = 3 then decide (v.S = ⟨#[]⟩) && (decide (0 ≤ v.N) && decide (v.N ≤ 1))
  else false
theorem E_between (a b c : Int) : m_impl_between a b c = some (decide (b ≤ a) && decide (a ≤ c)) := by
  unfold m_impl_between m_impl_between_j1
  by_cases h : a ≥ b <;> simp [h]
theorem E_l1In (a b c : Int) : m_spec_l1In a b c = some (decide (b ≤ a) && decide (a ≤ c)) := by
  unfold m_spec_l1In m_spec_l1In_j1
  by_cases h : a ≥ b <;> simp [h]
theorem lower_any (l : List UInt8) : lower l = !(l.any fun b => !(decide (97 ≤ (b.toNat : Int)) && decide ((b.toNat : Int) ≤ 122))) := by
  unfold lower; rw [List.all_eq_not_any_not]
  congr 2
  funext b
  congr 1
  have h1 : decide (97 ≤ b.toNat) = decide (97 ≤ (b.toNat : Int)) := by rw [decide_eq_decide]; omega
  have h2 : decide (b.toNat ≤ 122) = decide ((b.toNat : Int) ≤ 122) := by rw [decide_eq_decide]; omega
  rw [h1, h2]
theorem E_letters {s : ByteArray} (h : s.size ≤ 900000000) : m_impl_letters s = some (lower s.data.toList) := by
  unfold m_impl_letters sBytes?; rw [if_pos (by omega)]; simp only [Option.bind_some]; have hl : s.data.toList.length ≤ 900000000 := h
  have := scanA (p := fun b : UInt8 => !(decide (97 ≤ (b.toNat : Int)) && decide ((b.toNat : Int) ≤ 122))) (r0 := false) (r1 := true) s.data.toList (fun n k => m_impl_letters_l1 n s.data.toList (s.data.toList.length : Int) k) (fun n k x hx => by
    have := lt_of_at hx; simp only [m_impl_letters_l1, dlt this, at_of hx, E_between, ck1 (show k < 1000000000000 by omega), Option.bind_some, cond_true]) (fun n => by simp only [m_impl_letters_l1, dnlt]; rfl) _ fuel0
  rw [this, lower_any]; cases s.data.toList.any fun b => !(decide (97 ≤ (b.toNat : Int)) && decide ((b.toNat : Int) ≤ 122)) <;> rfl
theorem sAt_of {s : ByteArray} {k : Nat} {x : UInt8} (h : s.data.toList[k]? = some x) : sAt? s (k : Int) = some x := by
  unfold sAt?; rw [if_pos (by omega)]; obtain ⟨h1, h2⟩ := List.getElem?_eq_some_iff.1 h; have hs : k < s.size := by have := h1; rwa [Array.length_toList] at this
  have : s[k]? = some (s[k]'hs) := by simp [hs]
  rw [Int.toNat_natCast, this]
  congr 1
theorem E_l1Text {s : ByteArray} (h : s.size ≤ 900000000) : m_spec_l1Text s = some (lower s.data.toList && decide (s.size ≤ 6)) := by
  unfold m_spec_l1Text; have hl : s.data.toList.length = s.size := rfl; rw [← hl]
  have := scanA (p := fun b : UInt8 => !(decide (97 ≤ (b.toNat : Int)) && decide ((b.toNat : Int) ≤ 122))) (r0 := false) (r1 := decide ((s.size : Int) ≤ 6)) s.data.toList (fun n k => m_spec_l1Text_l1 n s k) (fun n k x hx => by
    have := lt_of_at hx; have hd : decide ((k : Int) < (s.size : Int)) = true := by rw [← hl]; exact dlt this
    simp only [m_spec_l1Text_l1, m_spec_l1Text_j1, hd, sAt_of hx, ck1 (show k < 1000000000000 by omega), Option.bind_some, cond_true]; have e1 : ((97 : UInt8).toNat : Int) = 97 := rfl; have e2 : ((122 : UInt8).toNat : Int) = 122 := rfl; rw [e1, e2]
    by_cases h1 : (x.toNat : Int) < 97
    · have : ¬ (97 ≤ (x.toNat : Int)) := by omega
      simp [h1, this]
    · have h1' : 97 ≤ (x.toNat : Int) := by omega
      by_cases h2 : (x.toNat : Int) > 122
      · have : ¬ ((x.toNat : Int) ≤ 122) := by omega
        simp [h1, h2, this]
      · have : (x.toNat : Int) ≤ 122 := by omega
        simp [h1, h2, this, h1']) (fun n => by simp only [m_spec_l1Text_l1, hl, dnlt]; rfl) _ fuel0
  rw [this, lower_any]; have e : decide ((s.size : Int) ≤ 6) = decide (s.size ≤ 6) := by rw [decide_eq_decide]; omega
  rw [e]; cases s.data.toList.any fun b => !(decide (97 ≤ (b.toNat : Int)) && decide ((b.toNat : Int) ≤ 122)) <;> simp
theorem E_Value_ok {v : V} (h : v.S.size ≤ 900000000) : m_impl_Value_ok v = some (vOk v) := by
  unfold m_impl_Value_ok m_impl_Value_ok_j1 m_impl_Value_ok_j2 m_impl_Value_ok_j3 vOk; simp only [E_between, E_letters h, Option.bind_some, sEq_eq]
  by_cases h0 : v.Kind = 0
  · simp [h0]
  · by_cases h1 : v.Kind = 1
    · by_cases hs : v.S = ⟨#[]⟩ <;> simp [beqF h0, h0, h1, hs]
    · by_cases h2 : v.Kind = 2
      · by_cases hn : v.N = 0
        · by_cases hs : v.S.size ≤ 6
          · have : (v.S.size : Int) ≤ 6 := by omega
            simp [beqF h0, beqF h1, h0, h1, h2, hn, hs, this]
          · have : ¬ (v.S.size : Int) ≤ 6 := by omega
            simp [beqF h0, beqF h1, h0, h1, h2, hn, hs, this]
        · simp [beqF h0, beqF h1, h0, h1, h2, beqF hn, hn]
      · by_cases h3 : v.Kind = 3
        · by_cases hs : v.S = ⟨#[]⟩ <;> simp [beqF h0, beqF h1, beqF h2, h0, h1, h2, h3, hs]
        · simp [beqF h0, beqF h1, beqF h2, beqF h3, h0, h1, h2, h3]
theorem E_spec_ValueOk {v : V} (h : v.S.size ≤ 900000000) : m_spec_ValueOk v = some (vOk v) := by
  unfold m_spec_ValueOk m_spec_ValueOk_j1 m_spec_ValueOk_j2 m_spec_ValueOk_j3 m_spec_ValueOk_j4 vOk; simp only [E_l1In, E_l1Text h, Option.bind_some, sEq_eq]; obtain ⟨k, n, s⟩ := v; simp only [S_impl_Value.mk.injEq]
  by_cases h0 : k = 0
  · by_cases hn : n = 0
    · simp [h0, hn]
    · simp [h0, hn, beqF hn]
  · by_cases h1 : k = 1
    · by_cases hs : s = ⟨#[]⟩ <;> by_cases ha : -9999 ≤ n <;> by_cases hb : n ≤ 9999 <;> simp [beqF h0, h0, h1, hs, ha, hb]
    · by_cases h2 : k = 2
      · by_cases hn : n = 0
        · simp [beqF h0, beqF h1, h0, h1, h2, hn, Bool.and_comm]
        · simp [beqF h0, beqF h1, h0, h1, h2, beqF hn, hn]
      · by_cases h3 : k = 3
        · by_cases hs : s = ⟨#[]⟩ <;> by_cases ha : 0 ≤ n <;> by_cases hb : n ≤ 1 <;> simp [beqF h0, beqF h1, beqF h2, h0, h1, h2, h3, hs, ha, hb]
        · simp [beqF h0, beqF h1, beqF h2, beqF h3, h0, h1, h2, h3]
abbrev Rd := S_spec_l20Rd
def Rd.ok (o : Rd) : Prop := 0 ≤ o.p ∧ o.p ≤ 1000000000
theorem ltE {α β : Type} {x : α} {f : α → β} : lt x f = f x := rfl
theorem natS {k : Nat} : ((k : Nat) : Int) + 1 = ((k + 1 : Nat) : Int) := by omega
theorem neF {a b : Int} (h : a = b) : (a != b) = false := by simp [h]
theorem bs_self (s : ByteArray) : bStr s.data.toList = s := by cases s; simp [bStr]
theorem bs_size (l : List UInt8) : (bStr l).size = l.length := by simp [bStr, ByteArray.size]
theorem bs_inj {a b : List UInt8} : bStr a = bStr b ↔ a = b := by
  constructor
  · intro h
    have := congrArg (fun s : ByteArray => s.data.toList) h; simpa [bStr] using this
  · rintro rfl; rfl
theorem bs_eq (a b : List UInt8) : sEq (bStr a) (bStr b) = decide (a = b) := by
  rw [sEq_eq, Bool.eq_iff_iff, decide_eq_true_eq, decide_eq_true_eq, bs_inj]
theorem bs_cat {a b : List UInt8} (h : a.length + b.length ≤ 1000000000000) : sCat? (bStr a) (bStr b) = some (bStr (a ++ b)) := by
  unfold sCat?; rw [if_pos (by rw [bs_size, bs_size]; omega)]
  congr 1
theorem bs_at {l : List UInt8} {k : Nat} {x : UInt8} (h : l[k]? = some x) : sAt? (bStr l) (k : Int) = some x := sAt_of (by simpa [bStr] using h)
theorem bs_cut {l : List UInt8} {a b : Nat} (h : a ≤ b ∧ b ≤ l.length) : sCut? (bStr l) (a : Int) (b : Int) = some (bStr ((l.take b).drop a)) := by
  unfold sCut?; rw [if_pos (by rw [bs_size]; omega)]
  congr 1
  apply ByteArray.ext
  simp [bStr, Int.toNat_natCast]; rw [List.drop_take]
def numT (n : Int) : List UInt8 := Go.Lib.itoa n
theorem dd_small {u : Nat} (h : u < 10) : Go.Lib.decDigits u = [UInt8.ofNat (48 + u)] := by rw [Go.Lib.decDigits, dif_pos h]
theorem dd_big {u : Nat} (h : ¬ u < 10) : Go.Lib.decDigits u = Go.Lib.decDigits (u / 10) ++ [UInt8.ofNat (48 + u % 10)] := by rw [Go.Lib.decDigits, dif_neg h]
theorem dg_nat {k : Nat} (h : k < 10) : (UInt8.ofNat (48 + k)).toNat = 48 + k := by rw [UInt8.toNat_ofNat']; omega
theorem dd_digit : ∀ (u : Nat) (c : UInt8), c ∈ Go.Lib.decDigits u → 48 ≤ c.toNat ∧ c.toNat ≤ 57 := by
  intro u
  induction u using Nat.strongRecOn with
  | ind u ih =>
    intro c hc
    by_cases h : u < 10
    · rw [dd_small h, List.mem_singleton] at hc
      rw [hc, dg_nat h]; omega
    · rw [dd_big h, List.mem_append, List.mem_singleton] at hc
      rcases hc with hc | rfl
      · exact ih (u / 10) (by omega) c hc
      · rw [dg_nat (by omega)]; omega
theorem dd_len : ∀ (k u : Nat), u < 10 ^ (k + 1) → (Go.Lib.decDigits u).length ≤ k + 1
  | 0, u, h => by rw [dd_small (by simpa using h)]; simp
  | k + 1, u, h => by
    by_cases h1 : u < 10
    · rw [dd_small h1]; simp
    · rw [dd_big h1, List.length_append, List.length_singleton]
      have := dd_len k (u / 10) (by rw [Nat.pow_succ] at h; omega); omega
theorem dd_head : ∀ (u : Nat), ∃ c r, Go.Lib.decDigits u = c :: r ∧ (u < 10 → r = []) ∧ (¬ u < 10 → c.toNat ≠ 48) := by
  intro u
  induction u using Nat.strongRecOn with
  | ind u ih =>
    by_cases h : u < 10
    · exact ⟨_, [], dd_small h, fun _ => rfl, fun h' => absurd h h'⟩
    · obtain ⟨c, r, e, h1, h2⟩ := ih (u / 10) (by omega)
      refine ⟨c, r ++ [UInt8.ofNat (48 + u % 10)], by rw [dd_big h, e]; rfl, fun h' => absurd h' h, fun _ => ?_⟩
      by_cases h3 : u / 10 < 10
      · rw [dd_small h3] at e
        cases e; rw [dg_nat h3]; omega
      · exact h2 h3
theorem parse_app : ∀ (l : List UInt8) (acc v : Nat) (c : UInt8), Go.Lib.parseUint10 acc l = .ok v → v < 1000000000000 → 48 ≤ c.toNat ∧ c.toNat ≤ 57 → Go.Lib.parseUint10 acc (l ++ [c]) = .ok (v * 10 + (c.toNat - 48))
  | [], acc, v, c, h, hv, hc => by
    unfold Go.Lib.parseUint10 at h
    injection h with h
    subst h; rw [List.nil_append, Go.Lib.parseUint10, if_pos hc, if_neg (by omega), if_neg (by omega), Go.Lib.parseUint10]
  | d :: r, acc, v, c, h, hv, hc => by
    rw [List.cons_append]; unfold Go.Lib.parseUint10 at h ⊢
    split at h
    · rename_i hd
      rw [if_pos hd]
      split at h
      · cases h
      · rename_i h1
        rw [if_neg h1]
        split at h
        · cases h
        · rename_i h2
          rw [if_neg h2]; exact parse_app r _ v c h hv hc
    · cases h
theorem parse_dd : ∀ (u : Nat), u < 1000000000000 → Go.Lib.parseUint10 0 (Go.Lib.decDigits u) = .ok u := by
  intro u
  induction u using Nat.strongRecOn with
  | ind u ih =>
    intro hu
    by_cases h : u < 10
    · rw [dd_small h, Go.Lib.parseUint10, dg_nat h, if_pos (by omega), if_neg (by omega), if_neg (by omega), Go.Lib.parseUint10]
      congr 1; omega
    · rw [dd_big h, parse_app _ _ _ _ (ih (u / 10) (by omega) (by omega)) (by omega) (by rw [dg_nat (by omega)]; omega), dg_nat (by omega)]
      congr 1; omega
theorem atoi_num {n : Int} (h0 : -9999 ≤ n) (h1 : n ≤ 9999) : Go.Lib.atoiAll (numT n) = .ok n := by
  unfold numT Go.Lib.itoa
  have mag : ∀ u : Nat, u ≤ 9999 → Go.Lib.parseMag (Go.Lib.decDigits u) = .ok u := fun u hu => by
    obtain ⟨c, r, e, _⟩ := dd_head u; unfold Go.Lib.parseMag; rw [if_neg (by rw [e]; simp), parse_dd u (by omega)]
  split
  · rename_i hn
    rw [Go.Lib.atoiAll_minus, mag _ (by omega)]; unfold Go.Lib.signed; simp only; rw [if_neg (by omega)]
    congr 1; omega
  · rename_i hn
    obtain ⟨c, r, e, _⟩ := dd_head n.toNat; have hc := dd_digit n.toNat c (by rw [e]; simp); have hm := mag n.toNat (by omega); rw [e] at hm ⊢; rw [Go.Lib.atoiAll_plain c r (by omega) (by omega), hm]; unfold Go.Lib.signless; simp only; rw [if_neg (by omega)]
    congr 1; omega
theorem maxI0 {n : Int} (h : 0 ≤ n) : maxI n 0 = n := by unfold maxI; rw [if_neg (by omega)]
theorem byteOf48 {k : Nat} (h : k < 10) : Lift.byteOf (48 + (k : Int)) = UInt8.ofNat (48 + k) := by
  unfold Lift.byteOf; have : ((48 + (k : Int)) % 256).toNat = 48 + k := by omega
  rw [this]
theorem E_l1Plain : ∀ (fu u : Nat), u < fu → u ≤ 1000000000 → m_spec_l1Plain fu (u : Int) = some (bStr (Go.Lib.decDigits u)) := by
  intro fu
  induction fu with
  | zero => intro u h; omega
  | succ fu ih =>
    intro u h hu; rw [m_spec_l1Plain]; unfold m_spec_l1Plain_b
    by_cases h1 : u < 10
    · rw [decide_eq_true (show (u : Int) < 10 by omega), cond_true, maxI0 (by omega), ckI_of (by omega) (by omega), Option.bind_some, byteOf48 h1, dd_small h1]
    · have e1 : (u : Int).tdiv 10 = ((u / 10 : Nat) : Int) := by rw [Int.tdiv_eq_ediv_of_nonneg (by omega)]; omega
      have e2 : (u : Int).tmod 10 = ((u % 10 : Nat) : Int) := by rw [Int.tmod_eq_emod_of_nonneg (by omega)]; omega
      have q : quoI (u : Int) 10 = some ((u / 10 : Nat) : Int) := by
        unfold quoI; rw [if_neg (by decide), e1, ckI_of (by omega) (by omega)]
      have r : remI (u : Int) 10 = some ((u % 10 : Nat) : Int) := by
        unfold remI; rw [if_neg (by decide), e2]
      have hl := dd_len 9 (u / 10) (by omega); rw [decide_eq_false (show ¬ (u : Int) < 10 by omega), cond_false, q, Option.bind_some, ih (u / 10) (by omega) (by omega), Option.bind_some, r, Option.bind_some, ckI_of (by omega) (by omega), Option.bind_some, byteOf48 (by omega), bs_cat (by simp; omega), Option.bind_some, dd_big h1]
theorem E_l1Signed {n : Int} (h0 : -9999 ≤ n) (h1 : n ≤ 9999) : m_spec_l1Signed n = some (bStr (numT n)) := by
  unfold m_spec_l1Signed numT Go.Lib.itoa
  by_cases hn : n < 0
  · have e : (0 : Int) - n = ((n.natAbs : Nat) : Int) := by omega
    have hl := dd_len 9 n.natAbs (by omega); rw [decide_eq_true hn, cond_true, ckI_of (by omega) (by omega), Option.bind_some, e, E_l1Plain _ _ (by omega) (by omega), Option.bind_some, if_pos hn]; show (sCat? (bStr [45]) (bStr _)).bind _ = _; rw [bs_cat (by simp; omega)]; rfl
  · have e : n = ((n.toNat : Nat) : Int) := by omega
    rw [decide_eq_false hn, cond_false, if_neg hn]; generalize n.toNat = u at e; subst e; rw [E_l1Plain _ _ (by omega) (by omega)]; rfl
theorem E_Itoa {n : Int} (h0 : -9999 ≤ n) (h1 : n ≤ 9999) : m_strconv_Itoa n = some (bStr (numT n)) := by
  unfold m_strconv_Itoa; rw [if_pos (by omega)]; rfl
def noneT : List UInt8 := [110, 111, 110, 101]
def trueT : List UInt8 := [116, 114, 117, 101]
def falseT : List UInt8 := [102, 97, 108, 115, 101]
def valT (v : V) : List UInt8 :=
  if vOk v then (if v.Kind = 1 then numT v.N else if v.Kind = 2 then 39 :: (v.S.data.toList ++ [39]) else if v.Kind = 3 then (if v.N = 1 then trueT else falseT) else noneT) else []
theorem vOk_num {v : V} (h : vOk v = true) (hk : v.Kind = 1) : -9999 ≤ v.N ∧ v.N ≤ 9999 ∧ v.S = ⟨#[]⟩ := by
  unfold vOk at h; rw [if_neg (by omega), if_pos hk, Bool.and_eq_true, Bool.and_eq_true, decide_eq_true_eq, decide_eq_true_eq, decide_eq_true_eq] at h; exact ⟨h.2.1, h.2.2, h.1⟩
theorem vOk_text {v : V} (h : vOk v = true) (hk : v.Kind = 2) : v.N = 0 ∧ v.S.size ≤ 6 := by
  unfold vOk at h; rw [if_neg (by omega), if_neg (by omega), if_pos hk, Bool.and_eq_true, Bool.and_eq_true, decide_eq_true_eq, decide_eq_true_eq] at h; exact h.1
theorem vOk_truth {v : V} (h : vOk v = true) (hk : v.Kind = 3) : 0 ≤ v.N ∧ v.N ≤ 1 ∧ v.S = ⟨#[]⟩ := by
  unfold vOk at h; rw [if_neg (by omega), if_neg (by omega), if_neg (by omega), if_pos hk, Bool.and_eq_true, Bool.and_eq_true, decide_eq_true_eq, decide_eq_true_eq, decide_eq_true_eq] at h; exact ⟨h.2.1, h.2.2, h.1⟩
theorem vOk_other {v : V} (h : vOk v = true) (h1 : v.Kind ≠ 1) (h2 : v.Kind ≠ 2) (h3 : v.Kind ≠ 3) : v = ⟨0, 0, ⟨#[]⟩⟩ := by
  unfold vOk at h
  by_cases h0 : v.Kind = 0
  · rw [if_pos h0] at h; exact of_decide_eq_true h
  · rw [if_neg h0, if_neg h1, if_neg h2, if_neg h3] at h; cases h
theorem quoT {v : V} (hs : v.S.size ≤ 6) : ((sCat? (⟨#[39]⟩ : ByteArray) v.S).bind fun x16 => (sCat? x16 (⟨#[39]⟩ : ByteArray)).bind fun x17 => some x17) = some (bStr (39 :: (v.S.data.toList ++ [39]))) := by
  have hl : v.S.data.toList.length ≤ 6 := by
    have : v.S.data.toList.length = v.S.size := Array.length_toList; omega
  have e : sCat? (⟨#[39]⟩ : ByteArray) v.S = some (bStr ([39] ++ v.S.data.toList)) := by
    rw [← bs_cat (by simp; omega), bs_self]; rfl
  rw [e, Option.bind_some]; show (sCat? (bStr ([39] ++ v.S.data.toList)) (bStr [39])).bind _ = _; rw [bs_cat (by simp; omega)]; rfl
theorem E_impl_ValueText {v : V} (hs : v.S.size ≤ 900000000) : m_impl_ValueText v = some (bStr (valT v)) := by
  unfold m_impl_ValueText valT; rw [E_Value_ok hs, Option.bind_some]; cases h : vOk v with
  | false => rfl
  | true =>
    rw [Bool.not_true, cond_false, if_pos rfl]
    by_cases h1 : v.Kind = 1
    · obtain ⟨n0, n1, _⟩ := vOk_num h h1
      rw [if_pos h1, show (v.Kind == 1) = true by simp [h1], cond_true, E_Itoa n0 n1]; rfl
    rw [if_neg h1, beqF h1, cond_false]
    by_cases h2 : v.Kind = 2
    · rw [if_pos h2, show (v.Kind == 2) = true by simp [h2], cond_true]
      exact quoT (vOk_text h h2).2
    rw [if_neg h2, beqF h2, cond_false]
    by_cases h3 : v.Kind = 3
    · rw [if_pos h3, show (v.Kind == 3) = true by simp [h3], cond_true]
      unfold m_strconv_FormatBool m_internal_strconv_FormatBool
      by_cases hN : v.N = 1
      · rw [if_pos hN, show (v.N == 1) = true by simp [hN]]; rfl
      · rw [if_neg hN, beqF hN]; rfl
    · rw [if_neg h3, beqF h3]; rfl
theorem E_spec_ValueText {v : V} (hs : v.S.size ≤ 900000000) : m_spec_ValueText v = some (bStr (valT v)) := by
  unfold m_spec_ValueText valT; rw [E_spec_ValueOk hs, Option.bind_some]; cases h : vOk v with
  | false => rfl
  | true =>
    rw [Bool.not_true, cond_false, if_pos rfl]
    by_cases h1 : v.Kind = 1
    · obtain ⟨n0, n1, _⟩ := vOk_num h h1
      rw [if_pos h1, show (v.Kind == 1) = true by simp [h1], cond_true, E_l1Signed n0 n1]; rfl
    rw [if_neg h1, beqF h1, cond_false]
    by_cases h2 : v.Kind = 2
    · rw [if_pos h2, show (v.Kind == 2) = true by simp [h2], cond_true]
      exact quoT (vOk_text h h2).2
    rw [if_neg h2, beqF h2, cond_false]
    by_cases h3 : v.Kind = 3
    · obtain ⟨n0, n1, _⟩ := vOk_truth h h3
      rw [if_pos h3, show (v.Kind == 3) = true by simp [h3], cond_true]; rcases (show v.N = 0 ∨ v.N = 1 by omega) with hN | hN
      · rw [if_neg (by omega), hN]; rfl
      · rw [if_pos hN, hN]; rfl
    · rw [if_neg h3, beqF h3]; rfl
def v00 : V := ⟨0, 0, ⟨#[]⟩⟩
def tR (v : V) (l : List UInt8) : V × Bool := if valT v = l then (v, true) else (v00, false)
theorem E_read_j2 {l : List UInt8} {a v : V} (hs : v.S.size ≤ 900000000) : m_impl_ValueRead_j2 (bStr l) a v = some (tR v l) := by
  unfold m_impl_ValueRead_j2 tR; rw [E_impl_ValueText hs, Option.bind_some, bs_eq]
  by_cases h : valT v = l
  · rw [decide_eq_true h, if_pos h]; rfl
  · rw [decide_eq_false h, if_neg h]; rfl
theorem lit_none : (⟨#[110, 111, 110, 101]⟩ : ByteArray) = bStr noneT := rfl
theorem lit_true : (⟨#[116, 114, 117, 101]⟩ : ByteArray) = bStr trueT := rfl
theorem lit_false : (⟨#[102, 97, 108, 115, 101]⟩ : ByteArray) = bStr falseT := rfl
def inQ (l : List UInt8) : List UInt8 := (l.take (l.length - 1)).drop 1
def quoted (l : List UInt8) : Bool := decide (2 ≤ l.length) && (decide (l[0]? = some 39) && decide (l[l.length - 1]? = some 39))
theorem u8b (x : UInt8) : ((x.toNat : Int) == ((39 : UInt8).toNat : Int)) = decide (x = 39) := by
  rw [Bool.eq_iff_iff, beq_iff_eq, decide_eq_true_eq]; constructor
  · intro h
    exact UInt8.toNat_inj.1 (by omega)
  · rintro rfl; rfl
theorem E_impl_Read {l : List UInt8} (hl : l.length ≤ 2000000) : m_impl_ValueRead (bStr l) = if l = noneT then some (tR v00 l) else if l = trueT then some (tR ⟨3, 1, ⟨#[]⟩⟩ l) else if l = falseT then some (tR ⟨3, 0, ⟨#[]⟩⟩ l) else m_impl_ValueRead_j1 (bStr l) (quoted l) v00 v00 := by
  unfold m_impl_ValueRead; rw [lit_none, lit_true, lit_false, bs_eq, bs_eq, bs_eq]; have z : (⟨#[]⟩ : ByteArray).size ≤ 900000000 := Nat.zero_le _
  by_cases h1 : l = noneT
  · rw [decide_eq_true h1, cond_true, if_pos h1]
    exact E_read_j2 (v := v00) z
  rw [decide_eq_false h1, cond_false, if_neg h1]
  by_cases h2 : l = trueT
  · rw [decide_eq_true h2, cond_true, if_pos h2, ltE]
    exact E_read_j2 z
  rw [decide_eq_false h2, cond_false, if_neg h2]
  by_cases h3 : l = falseT
  · rw [decide_eq_true h3, cond_true, if_pos h3, ltE]
    exact E_read_j2 z
  rw [decide_eq_false h3, cond_false, if_neg h3, bs_size]
  by_cases h4 : 2 ≤ l.length
  · have e0 : l[0]? = some (l[0]'(by omega)) := List.getElem?_eq_getElem (by omega)
    have e1 : l[l.length - 1]? = some (l[l.length - 1]'(by omega)) := List.getElem?_eq_getElem (by omega); generalize l[0]'(by omega) = x at e0; generalize l[l.length - 1]'(by omega) = y at e1; have c : ckI ((l.length : Int) - 1) = some ((l.length - 1 : Nat) : Int) := by rw [ckI_of (by omega) (by omega)]; congr 1; omega
    have q : quoted l = (decide (x = 39) && decide (y = 39)) := by
      unfold quoted; rw [decide_eq_true h4, e0, e1, Bool.true_and]; simp
    rw [decide_eq_true (show (l.length : Int) ≥ 2 by omega), cond_true, show sAt? (bStr l) 0 = some x from bs_at (k := 0) e0, Option.bind_some, u8b, q]; cases decide (x = 39) with
    | false => rfl
    | true => rw [cond_true, c, Option.bind_some, bs_at e1, Option.bind_some, u8b, Bool.true_and]; rfl
  · rw [decide_eq_false (show ¬ (l.length : Int) ≥ 2 by omega), cond_false]
    have q : quoted l = false := by unfold quoted; rw [decide_eq_false h4, Bool.false_and]
    rw [q]; rfl
theorem E_read_quoted {l : List UInt8} (hl : l.length ≤ 2000000) (h : 2 ≤ l.length) : m_impl_ValueRead_j1 (bStr l) true v00 v00 = some (tR ⟨2, 0, bStr (inQ l)⟩ l) := by
  unfold m_impl_ValueRead_j1; have c : ckI ((l.length : Int) - 1) = some ((l.length - 1 : Nat) : Int) := by rw [ckI_of (by omega) (by omega)]; congr 1; omega
  rw [cond_true, bs_size, c, Option.bind_some, show sCut? (bStr l) 1 ((l.length - 1 : Nat) : Int) = some (bStr (inQ l)) from bs_cut (a := 1) (by omega), Option.bind_some, ltE]; exact E_read_j2 (by show (bStr (inQ l)).size ≤ 900000000; rw [bs_size]; unfold inQ; rw [List.length_drop, List.length_take]; omega)
theorem E_read_num {l : List UInt8} {n : Int} (hl : l.length ≤ 2000000) (h : Go.Lib.atoiAll l = .ok n) : m_impl_ValueRead_j1 (bStr l) false v00 v00 = some (tR ⟨1, n, ⟨#[]⟩⟩ l) := by
  unfold m_impl_ValueRead_j1 m_strconv_Atoi; have e : atoiE (bStr l) = (n, false) := by unfold atoiE; rw [show (bStr l).data.toList = l by simp [bStr], h]
  rw [cond_false, if_pos (by rw [bs_size]; omega), e]; refine Eq.trans (b := m_impl_ValueRead_j2 (bStr l) v00 (⟨1, n, ⟨#[]⟩⟩ : V)) rfl ?_; exact E_read_j2 (Nat.zero_le _)
theorem numT_head (n : Int) : ∃ c r, numT n = c :: r ∧ (c = 45 ∨ (48 ≤ c.toNat ∧ c.toNat ≤ 57)) := by
  unfold numT Go.Lib.itoa
  split
  · exact ⟨45, _, rfl, .inl rfl⟩
  · obtain ⟨c, r, e, _⟩ := dd_head n.toNat
    exact ⟨c, r, e, .inr (dd_digit n.toNat c (by rw [e]; simp))⟩
theorem numT_len {n : Int} (h0 : -9999 ≤ n) (h1 : n ≤ 9999) : (numT n).length ≤ 11 := by
  unfold numT Go.Lib.itoa
  split
  · have := dd_len 9 n.natAbs (by omega)
    rw [List.length_cons]; omega
  · have := dd_len 9 n.toNat (by omega)
    omega
theorem E_back {v : V} (h : vOk v = true) : m_impl_ValueRead (bStr (valT v)) = some (v, true) := by
  have e : tR v (valT v) = (v, true) := by unfold tR; rw [if_pos rfl]
  have hv : valT v = if v.Kind = 1 then numT v.N else if v.Kind = 2 then 39 :: (v.S.data.toList ++ [39]) else if v.Kind = 3 then (if v.N = 1 then trueT else falseT) else noneT := by unfold valT; rw [if_pos h]
  by_cases h1 : v.Kind = 1
  · obtain ⟨n0, n1, hS⟩ := vOk_num h h1
    have ev : v = ⟨1, v.N, ⟨#[]⟩⟩ := by rw [← h1, ← hS]
    rw [if_pos h1] at hv; obtain ⟨c, r, ec, hc⟩ := numT_head v.N; have hlen := numT_len n0 n1; rw [E_impl_Read (by rw [hv]; omega)]
    have ne : ∀ d s, (d : UInt8) ≠ 45 → ¬ (48 ≤ d.toNat ∧ d.toNat ≤ 57) → valT v ≠ d :: s := fun d s h2 h3 h4 => by
      rw [hv, ec] at h4; cases h4; rcases hc with hc | hc
      · exact h2 hc
      · exact h3 hc
    rw [if_neg (show valT v ≠ noneT from ne _ _ (by decide) (by decide)), if_neg (show valT v ≠ trueT from ne _ _ (by decide) (by decide)), if_neg (show valT v ≠ falseT from ne _ _ (by decide) (by decide))]
    have q : quoted (valT v) = false := by
      unfold quoted; rw [hv, ec]
      have : ¬ (some c = some (39 : UInt8)) := fun h => by
        cases h; rcases hc with hc | hc
        · exact absurd hc (by decide)
        · exact absurd hc (by decide)
      rw [show (c :: r)[0]? = some c from rfl, decide_eq_false this, Bool.false_and, Bool.and_false]
    rw [q, E_read_num (n := v.N) (by rw [hv]; omega) (by rw [hv]; exact atoi_num n0 n1), ← ev, e]
  rw [if_neg h1] at hv
  by_cases h2 : v.Kind = 2
  · obtain ⟨hN, hS⟩ := vOk_text h h2
    rw [if_pos h2] at hv
    have hl : v.S.data.toList.length ≤ 6 := by
      have : v.S.data.toList.length = v.S.size := Array.length_toList; omega
    rw [E_impl_Read (by rw [hv]; simp; omega)]
    have ne : ∀ d s, (d : UInt8) ≠ 39 → valT v ≠ d :: s := fun d s h2 h4 => by
      rw [hv] at h4; cases h4; exact h2 rfl
    rw [if_neg (show valT v ≠ noneT from ne _ _ (by decide)), if_neg (show valT v ≠ trueT from ne _ _ (by decide)), if_neg (show valT v ≠ falseT from ne _ _ (by decide))]; have hlen : (valT v).length = v.S.data.toList.length + 2 := by rw [hv]; simp
    have q : quoted (valT v) = true := by
      unfold quoted; rw [decide_eq_true (by omega), hlen, hv]; simp
    have hq : inQ (valT v) = v.S.data.toList := by
      unfold inQ; rw [hlen, hv]; simp
    rw [q, E_read_quoted (by omega) (by omega), hq, bs_self]; have ev : v = ⟨2, 0, v.S⟩ := by rw [← h2, ← hN]
    rw [← ev, e]
  rw [if_neg h2] at hv
  by_cases h3 : v.Kind = 3
  · obtain ⟨n0, n1, hS⟩ := vOk_truth h h3
    rw [if_pos h3] at hv; rcases (show v.N = 0 ∨ v.N = 1 by omega) with hN | hN
    · have ev : v = ⟨3, 0, ⟨#[]⟩⟩ := by rw [← h3, ← hN, ← hS]
      rw [if_neg (by omega)] at hv; rw [E_impl_Read (by rw [hv]; decide), if_neg (by rw [hv]; decide), if_neg (by rw [hv]; decide), if_pos hv, ← ev, e]
    · have ev : v = ⟨3, 1, ⟨#[]⟩⟩ := by rw [← h3, ← hN, ← hS]
      rw [if_pos hN] at hv; rw [E_impl_Read (by rw [hv]; decide), if_neg (by rw [hv]; decide), if_pos hv, ← ev, e]
  · rw [if_neg h3] at hv
    have ev := vOk_other h h1 h2 h3; have ev : v = v00 := ev; rw [E_impl_Read (by rw [hv]; decide), if_pos hv, ← ev, e]
theorem valT_nil {v : V} : valT v = [] ↔ vOk v = false := by
  constructor
  · intro hn
    cases h : vOk v with
    | false => rfl
    | true =>
      exfalso
      unfold valT at hn; rw [if_pos h] at hn
      split at hn
      · obtain ⟨c, r, e, _⟩ := numT_head v.N
        rw [e] at hn; cases hn
      · split at hn
        · cases hn
        · split at hn
          · split at hn <;> cases hn
          · cases hn
  · intro h
    unfold valT; rw [if_neg (by rw [h]; decide)]
theorem E_read_err {l : List UInt8} (hl : l.length ≤ 2000000) (h : ∀ n, Go.Lib.atoiAll l ≠ .ok n) : m_impl_ValueRead_j1 (bStr l) false v00 v00 = some (v00, false) := by
  unfold m_impl_ValueRead_j1 m_strconv_Atoi
  have e : (atoiE (bStr l)).2 = true := by
    unfold atoiE; rw [show (bStr l).data.toList = l by simp [bStr]]; cases ha : Go.Lib.atoiAll l with
    | ok n => exact absurd ha (h n)
    | «syntax» => rfl
    | range => rfl
  rw [cond_false, if_pos (by rw [bs_size]; omega), Option.bind_some, e, cond_true]; rfl
def Rd' (l : List UInt8) (r : V × Bool) : Prop := (∃ v, vOk v = true ∧ valT v = l ∧ r = (v, true)) ∨ (r = (v00, false) ∧ ∀ v, vOk v = true → valT v ≠ l)
theorem valT_inj {v w : V} (hv : vOk v = true) (hw : vOk w = true) (h : valT v = valT w) : v = w := by
  have e1 := E_back hv; rw [h, E_back hw] at e1; cases e1; rfl
theorem Rd_unique {l : List UInt8} {r q : V × Bool} (h : Rd' l r) (k : Rd' l q) : r = q := by
  rcases h with ⟨v, h1, h2, rfl⟩ | ⟨rfl, h1⟩
  · rcases k with ⟨w, k1, k2, rfl⟩ | ⟨rfl, k1⟩
    · rw [valT_inj h1 k1 (h2.trans k2.symm)]
    · exact absurd h2 (k1 v h1)
  · rcases k with ⟨w, k1, k2, rfl⟩ | ⟨rfl, k1⟩
    · exact absurd k2 (h1 w k1)
    · rfl
theorem tR_no {l : List UInt8} (hn : ∀ v, vOk v = true → valT v ≠ l) (hl : l ≠ []) (w : V) : tR w l = (v00, false) := by
  unfold tR; rw [if_neg]; intro h; cases hw : vOk w with
  | true => exact hn w hw h
  | false => exact hl (by rw [← h]; exact valT_nil.2 hw)
theorem E_impl_rd {l : List UInt8} (hl : l.length ≤ 2000000) : ∃ r, m_impl_ValueRead (bStr l) = some r ∧ Rd' l r := by
  by_cases hv : ∃ v, vOk v = true ∧ valT v = l
  · obtain ⟨v, h1, h2⟩ := hv
    exact ⟨_, by rw [← h2]; exact E_back h1, .inl ⟨v, h1, h2, rfl⟩⟩
  · have hn : ∀ v, vOk v = true → valT v ≠ l := fun v h1 h2 => hv ⟨v, h1, h2⟩
    refine ⟨(v00, false), ?_, .inr ⟨rfl, hn⟩⟩; rw [E_impl_Read hl]
    have num : m_impl_ValueRead_j1 (bStr l) false v00 v00 = some (v00, false) := by
      by_cases ha : ∃ n, Go.Lib.atoiAll l = .ok n
      · obtain ⟨n, ha⟩ := ha
        rw [E_read_num hl ha, tR_no hn (by rintro rfl; cases ha)]
      · exact E_read_err hl fun n h => ha ⟨n, h⟩
    have e1 : l ≠ noneT := fun h => hn v00 rfl (by rw [h]; rfl); have e2 : l ≠ trueT := fun h => hn ⟨3, 1, ⟨#[]⟩⟩ rfl (by rw [h]; rfl); have e3 : l ≠ falseT := fun h => hn ⟨3, 0, ⟨#[]⟩⟩ rfl (by rw [h]; rfl); rw [if_neg e1, if_neg e2, if_neg e3]; cases hq : quoted l with
    | false => exact num
    | true =>
      have h2 : 2 ≤ l.length := by
        unfold quoted at hq; rw [Bool.and_eq_true, decide_eq_true_eq] at hq; exact hq.1
      rw [E_read_quoted hl h2, tR_no hn (by rintro rfl; simp at h2)]
def isDg (c : UInt8) : Bool := decide (48 ≤ c.toNat) && decide (c.toNat ≤ 57)
def dgV : Int → List UInt8 → Int
  | acc, [] => acc
  | acc, c :: r => if isDg c then dgV (10 * acc + (c.toNat - 48 : Nat)) r else -1
def dgL (l : List UInt8) : Int := if (1 ≤ l.length ∧ l.length ≤ 4) ∧ ¬ (1 < l.length ∧ l[0]? = some 48) then dgV 0 l else -1
theorem dgV_bounds : ∀ (k : Nat) (l : List UInt8) (acc : Int), 0 ≤ acc → acc < 10 ^ k → -1 ≤ dgV acc l ∧ dgV acc l < 10 ^ (k + l.length)
  | k, [], acc, h0, h1 => by unfold dgV; exact ⟨by omega, h1⟩
  | k, c :: r, acc, h0, h1 => by
    unfold dgV
    split
    · rename_i hc
      unfold isDg at hc; rw [Bool.and_eq_true, decide_eq_true_eq, decide_eq_true_eq] at hc; have := dgV_bounds (k + 1) r (10 * acc + (c.toNat - 48 : Nat)) (by omega) (by rw [Int.pow_succ]; omega); rw [List.length_cons, show k + (r.length + 1) = k + 1 + r.length by omega]; exact this
    · have : (0 : Int) < 10 ^ (k + (c :: r).length) := Int.pow_pos (by decide)
      omega
theorem dgL_bounds (l : List UInt8) : -1 ≤ dgL l ∧ dgL l ≤ 9999 := by
  unfold dgL
  split
  · rename_i h
    have := dgV_bounds 0 l 0 (by decide) (by decide); rw [Nat.zero_add] at this
    have hp : (10 : Int) ^ l.length ≤ 10 ^ 4 := by
      have := Nat.pow_le_pow_right (n := 10) (by decide) h.1.2
      exact_mod_cast this
    have e4 : (10 : Int) ^ 4 = 10000 := by decide
    omega
  · omega
theorem dgV_app : ∀ (l : List UInt8) (acc : Int) (c : UInt8), (∀ x ∈ l, isDg x = true) → isDg c = true → dgV acc (l ++ [c]) = 10 * dgV acc l + (c.toNat - 48 : Nat)
  | [], acc, c, _, hc => by
    rw [List.nil_append, show dgV acc [c] = (if isDg c then dgV (10 * acc + (c.toNat - 48 : Nat)) [] else -1) from rfl, if_pos hc]; rfl
  | d :: r, acc, c, hl, hc => by
    rw [List.cons_append, dgV, if_pos (hl d (by simp)), dgV_app r _ c (fun x hx => hl x (by simp [hx])) hc]
    conv => rhs; rw [dgV, if_pos (hl d (by simp))]
theorem isDg_dd {u : Nat} : ∀ x ∈ Go.Lib.decDigits u, isDg x = true := fun x hx => by
  have := dd_digit u x hx; unfold isDg; rw [decide_eq_true this.1, decide_eq_true this.2]; rfl
theorem dgV_dd : ∀ u : Nat, dgV 0 (Go.Lib.decDigits u) = u := by
  intro u
  induction u using Nat.strongRecOn with
  | ind u ih =>
    have dig : ∀ k, k < 10 → isDg (UInt8.ofNat (48 + k)) = true := fun k hk => by
      unfold isDg; rw [dg_nat hk, decide_eq_true (by omega), decide_eq_true (by omega)]; rfl
    by_cases h : u < 10
    · rw [dd_small h, dgV, if_pos (dig u h), dgV, dg_nat h]; omega
    · rw [dd_big h, dgV_app _ _ _ isDg_dd (dig _ (by omega)), ih (u / 10) (by omega), dg_nat (by omega)]; omega
theorem dgL_dd {u : Nat} (hu : u ≤ 9999) : dgL (Go.Lib.decDigits u) = u := by
  have hl := dd_len 3 u (by omega); obtain ⟨c, r, e, h1, h2⟩ := dd_head u; unfold dgL; rw [if_pos, dgV_dd]; refine ⟨⟨by rw [e]; simp, hl⟩, ?_⟩; rintro ⟨h3, h4⟩; rw [e] at h3 h4; have hc : c = 48 := by simpa using h4
  by_cases h5 : u < 10
  · rw [h1 h5] at h3; simp at h3
  · exact h2 h5 (by rw [hc]; rfl)
theorem E_dig_loop {l : List UInt8} (hl : l.length ≤ 4) : ∀ (rest pre : List UInt8) (acc : Int) (n : Nat), l = pre ++ rest → rest.length < n → 0 ≤ acc → acc ≤ 100000000 - 20000000 * pre.length → acc < 10 ^ pre.length → m_spec_l1Digits_l1 n (bStr l) acc (pre.length : Int) = some (dgV acc rest) := by
  intro rest
  induction rest with
  | nil =>
    intro pre acc n hp hn h0 h1 h2; obtain ⟨n, rfl⟩ : ∃ q, n = q + 1 := ⟨n - 1, by omega⟩; have : pre.length = l.length := by rw [hp]; simp
    rw [this, m_spec_l1Digits_l1, bs_size, dnlt, cond_false]; rfl
  | cons c rest ih =>
    intro pre acc n hp hn h0 h1 h2; obtain ⟨n, rfl⟩ : ∃ q, n = q + 1 := ⟨n - 1, by omega⟩; have hx : l[pre.length]? = some c := by rw [hp]; simp
    have hlt := lt_of_at hx
    have hb : acc < 10000 := by
      have hp4 : (10 : Int) ^ pre.length ≤ 10 ^ 4 := by
        have := Nat.pow_le_pow_right (n := 10) (by decide) (show pre.length ≤ 4 by omega)
        exact_mod_cast this
      have e4 : (10 : Int) ^ 4 = 10000 := by decide
      omega
    have j2 : ∀ b : Bool, b = decide (57 < c.toNat) → 48 ≤ c.toNat → m_spec_l1Digits_j2 (m_spec_l1Digits_l1 n) (bStr l) acc (pre.length : Int) b = some (dgV acc (c :: rest)) := by
      intro b hb' h48; unfold m_spec_l1Digits_j2; subst hb'
      by_cases h57 : c.toNat ≤ 57
      · have hd : isDg c = true := by unfold isDg; rw [decide_eq_true h48, decide_eq_true h57]; rfl
        have hs : ((c - 48 : UInt8).toNat : Int) = ((c.toNat - 48 : Nat) : Int) := by
          rw [UInt8.toNat_sub_of_le _ _ (by rw [UInt8.le_iff_toNat_le]; exact h48)]; rfl
        rw [decide_eq_false (by omega), cond_false, ckI_of (by omega) (by omega), Option.bind_some, bs_at hx, Option.bind_some, hs, ckI_of (by omega) (by omega), Option.bind_some, ck1 (by omega), Option.bind_some]; have := ih (pre ++ [c]) (10 * acc + (c.toNat - 48 : Nat)) n (by rw [hp]; simp) (by simp at hn; omega) (by omega) (by rw [List.length_append, List.length_singleton]; omega) (by rw [List.length_append, List.length_singleton, Int.pow_succ]; omega); rw [List.length_append, List.length_singleton] at this; rw [natS, this, dgV, if_pos hd]
      · have hd : isDg c = false := by unfold isDg; rw [decide_eq_false h57, Bool.and_false]
        rw [decide_eq_true (by omega), cond_true, dgV, if_neg (by rw [hd]; decide)]
    rw [m_spec_l1Digits_l1, bs_size, dlt hlt, cond_true, bs_at hx, Option.bind_some]
    by_cases h48 : 48 ≤ c.toNat
    · rw [decide_eq_false (show ¬ ((c.toNat : Int) < ((48 : UInt8).toNat : Int)) from fun h => by have : (48 : UInt8).toNat = 48 := rfl; omega), cond_false, Option.bind_some]
      refine j2 _ ?_ h48; rw [Bool.eq_iff_iff, decide_eq_true_eq, decide_eq_true_eq]; have : (57 : UInt8).toNat = 57 := rfl; omega
    · have hd : isDg c = false := by unfold isDg; rw [decide_eq_false h48, Bool.false_and]
      rw [decide_eq_true (show ((c.toNat : Int) < ((48 : UInt8).toNat : Int)) by have : (48 : UInt8).toNat = 48 := rfl; omega), cond_true]; unfold m_spec_l1Digits_j2; rw [cond_true, dgV, if_neg (by rw [hd]; decide)]
theorem u8is (x k : UInt8) : ((x.toNat : Int) == (k.toNat : Int)) = decide (x = k) := by
  rw [Bool.eq_iff_iff, beq_iff_eq, decide_eq_true_eq]; constructor
  · intro h
    exact UInt8.toNat_inj.1 (by omega)
  · rintro rfl; rfl
theorem E_l1Digits (l : List UInt8) : m_spec_l1Digits (bStr l) = some (dgL l) := by
  unfold m_spec_l1Digits; rw [E_l1In, Option.bind_some, bs_size]
  by_cases hl : 1 ≤ l.length ∧ l.length ≤ 4
  · rw [decide_eq_true (show (1 : Int) ≤ (l.length : Int) by omega), decide_eq_true (show (l.length : Int) ≤ 4 by omega), Bool.true_and, Bool.not_true, cond_false]
    have run : m_spec_l1Digits_j1 (bStr l) false = some (dgV 0 l) := by
      unfold m_spec_l1Digits_j1; rw [cond_false]; exact E_dig_loop hl.2 l [] 0 _ rfl (by rw [bs_size]; omega) (by decide) (by decide) (by decide)
    have e0 : l[0]? = some (l[0]'(by omega)) := List.getElem?_eq_getElem (by omega); generalize l[0]'(by omega) = x at e0
    by_cases h1 : 1 < l.length
    · rw [decide_eq_true (show (l.length : Int) > 1 by omega), cond_true, show sAt? (bStr l) 0 = some x from bs_at (k := 0) e0, Option.bind_some, u8is]
      by_cases hx : x = 48
      · rw [decide_eq_true hx]
        unfold m_spec_l1Digits_j1 dgL; rw [cond_true, if_neg]; rintro ⟨_, h⟩; exact h ⟨h1, by rw [e0, hx]⟩
      · rw [decide_eq_false hx, run]
        unfold dgL; rw [if_pos ⟨hl, fun h => hx (by have := h.2; rw [e0] at this; exact Option.some.inj this)⟩]
    · rw [decide_eq_false (show ¬ (l.length : Int) > 1 by omega), cond_false, run]
      unfold dgL; rw [if_pos ⟨hl, fun h => h1 h.1⟩]
  · have : (decide ((1 : Int) ≤ (l.length : Int)) && decide ((l.length : Int) ≤ 4)) = false := by
      rw [Bool.and_eq_false_iff]
      by_cases h0 : 1 ≤ l.length
      · exact .inr (decide_eq_false (by omega))
      · exact .inl (decide_eq_false (by omega))
    rw [this, Bool.not_false, cond_true]; unfold m_spec_l1Digits_j1 dgL; rw [cond_true, if_neg fun h => hl h.1]
theorem E_read_j4 {l : List UInt8} {a v : V} (hs : v.S.size ≤ 900000000) : m_spec_ValueRead_j4 (bStr l) a v = some (tR v l) := by
  unfold m_spec_ValueRead_j4 tR; rw [E_spec_ValueText hs, Option.bind_some, bs_eq]
  by_cases h : valT v = l
  · rw [decide_eq_true h, if_pos h]; rfl
  · rw [decide_eq_false h, if_neg h]; rfl
theorem E_spec_Read {l : List UInt8} (hl : l.length ≤ 2000000) : m_spec_ValueRead (bStr l) =
    if l = noneT then some (v00, true) else if l = trueT ∨ l = falseT then some (tR ⟨3, 5 - (l.length : Int), ⟨#[]⟩⟩ l) else if 1 < l.length ∧ l[0]? = some 39 then some (tR ⟨2, 0, bStr (inQ l)⟩ l)
      else if 1 < l.length ∧ l[0]? = some 45 then some (tR ⟨1, 0 - maxI (dgL (l.drop 1)) 0, ⟨#[]⟩⟩ l) else some (tR ⟨1, maxI (dgL l) 0, ⟨#[]⟩⟩ l) := by
  have z : (⟨#[]⟩ : ByteArray).size ≤ 900000000 := Nat.zero_le _
  have j3 : ∀ (b : Bool) (a o : V), (b = true → 1 < l.length) → m_spec_ValueRead_j3 (bStr l) b a o = some (if b = true then tR ⟨1, 0 - maxI (dgL (l.drop 1)) 0, ⟨#[]⟩⟩ l else tR ⟨1, maxI (dgL l) 0, ⟨#[]⟩⟩ l) := by
    intro b a o hb; unfold m_spec_ValueRead_j3; cases b with
    | false =>
      rw [cond_false, E_l1Digits, Option.bind_some, ltE, if_neg (by decide)]; exact E_read_j4 z
    | true =>
      have h1 := hb rfl
      have hc : sCut? (bStr l) 1 (l.length : Int) = some (bStr (l.drop 1)) := by
        have := bs_cut (l := l) (a := 1) (b := l.length) (by omega); rw [List.take_length] at this; exact this
      have hd := dgL_bounds (l.drop 1); have hm : 0 ≤ maxI (dgL (l.drop 1)) 0 ∧ maxI (dgL (l.drop 1)) 0 ≤ 9999 := by unfold maxI; split <;> omega
      rw [cond_true, bs_size, hc, Option.bind_some, E_l1Digits, Option.bind_some, ckI_of (by omega) (by omega), Option.bind_some, ltE, if_pos rfl]; exact E_read_j4 z
  have j2 : ∀ (b : Bool) (a o : V), b = decide (1 < l.length ∧ l[0]? = some 39) → m_spec_ValueRead_j2 (bStr l) b a o = if 1 < l.length ∧ l[0]? = some 39 then some (tR ⟨2, 0, bStr (inQ l)⟩ l) else if 1 < l.length ∧ l[0]? = some 45 then some (tR ⟨1, 0 - maxI (dgL (l.drop 1)) 0, ⟨#[]⟩⟩ l) else some (tR ⟨1, maxI (dgL l) 0, ⟨#[]⟩⟩ l) := by
    intro b a o hb; unfold m_spec_ValueRead_j2
    by_cases hq : 1 < l.length ∧ l[0]? = some 39
    · have c : ckI ((l.length : Int) - 1) = some ((l.length - 1 : Nat) : Int) := by rw [ckI_of (by omega) (by omega)]; congr 1; omega
      rw [hb, decide_eq_true hq, cond_true, if_pos hq, bs_size, c, Option.bind_some, show sCut? (bStr l) 1 ((l.length - 1 : Nat) : Int) = some (bStr (inQ l)) from bs_cut (a := 1) (by omega), Option.bind_some, ltE]; exact E_read_j4 (by show (bStr (inQ l)).size ≤ 900000000; rw [bs_size]; unfold inQ; rw [List.length_drop, List.length_take]; omega)
    · rw [hb, decide_eq_false hq, cond_false, if_neg hq, bs_size]
      by_cases h1 : 1 < l.length
      · have e0 : l[0]? = some (l[0]'(by omega)) := List.getElem?_eq_getElem (by omega)
        generalize l[0]'(by omega) = x at e0; rw [decide_eq_true (show (l.length : Int) > 1 by omega), cond_true, show sAt? (bStr l) 0 = some x from bs_at (k := 0) e0, Option.bind_some, u8is, j3 _ _ _ (fun _ => h1), e0]
        by_cases hx : x = 45
        · rw [decide_eq_true hx, if_pos rfl, if_pos ⟨h1, by rw [hx]⟩]
        · rw [decide_eq_false hx, if_neg (by decide), if_neg (fun h => hx (Option.some.inj h.2))]
      · rw [decide_eq_false (show ¬ (l.length : Int) > 1 by omega), cond_false, j3 _ _ _ (fun h => by cases h), if_neg (by decide), if_neg (fun h => h1 h.1)]
  have j1 : ∀ (b : Bool) (a o : V), b = decide (l = trueT ∨ l = falseT) → m_spec_ValueRead_j1 (bStr l) b a o = if l = trueT ∨ l = falseT then some (tR ⟨3, 5 - (l.length : Int), ⟨#[]⟩⟩ l) else if 1 < l.length ∧ l[0]? = some 39 then some (tR ⟨2, 0, bStr (inQ l)⟩ l) else if 1 < l.length ∧ l[0]? = some 45 then some (tR ⟨1, 0 - maxI (dgL (l.drop 1)) 0, ⟨#[]⟩⟩ l) else some (tR ⟨1, maxI (dgL l) 0, ⟨#[]⟩⟩ l) := by
    intro b a o hb; unfold m_spec_ValueRead_j1
    by_cases ht : l = trueT ∨ l = falseT
    · rw [hb, decide_eq_true ht, cond_true, if_pos ht, bs_size, ckI_of (by omega) (by omega), Option.bind_some, ltE]
      exact E_read_j4 z
    · rw [hb, decide_eq_false ht, cond_false, if_neg ht, bs_size]
      by_cases h1 : 1 < l.length
      · have e0 : l[0]? = some (l[0]'(by omega)) := List.getElem?_eq_getElem (by omega)
        generalize l[0]'(by omega) = x at e0; rw [decide_eq_true (show (l.length : Int) > 1 by omega), cond_true, show sAt? (bStr l) 0 = some x from bs_at (k := 0) e0, Option.bind_some, u8is]; refine j2 _ _ _ ?_; rw [e0, Bool.eq_iff_iff, decide_eq_true_eq, decide_eq_true_eq]; constructor
        · rintro rfl; exact ⟨h1, rfl⟩
        · intro h; exact Option.some.inj h.2
      · rw [decide_eq_false (show ¬ (l.length : Int) > 1 by omega), cond_false]
        exact j2 _ _ _ (decide_eq_false fun h => h1 h.1).symm
  unfold m_spec_ValueRead; rw [ltE, lit_none, lit_true, lit_false, bs_eq, bs_eq, bs_eq]
  by_cases h1 : l = noneT
  · rw [decide_eq_true h1, cond_true, if_pos h1]; rfl
  rw [decide_eq_false h1, cond_false, if_neg h1]
  by_cases h2 : l = trueT
  · rw [decide_eq_true h2, cond_true]
    exact j1 _ _ _ (decide_eq_true (.inl h2)).symm
  · rw [decide_eq_false h2, cond_false]
    refine j1 _ _ _ ?_; rw [Bool.eq_iff_iff, decide_eq_true_eq, decide_eq_true_eq]; exact ⟨.inr, fun h => h.resolve_left h2⟩
theorem E_spec_rd {l : List UInt8} (hl : l.length ≤ 2000000) : ∃ r, m_spec_ValueRead (bStr l) = some r ∧ Rd' l r := by
  rw [E_spec_Read hl]
  by_cases hv : ∃ v, vOk v = true ∧ valT v = l
  · obtain ⟨v, h, hvl⟩ := hv
    refine ⟨(v, true), ?_, .inl ⟨v, h, hvl, rfl⟩⟩; have e : tR v l = (v, true) := by unfold tR; rw [if_pos hvl]
    have hv : l = if v.Kind = 1 then numT v.N else if v.Kind = 2 then 39 :: (v.S.data.toList ++ [39]) else if v.Kind = 3 then (if v.N = 1 then trueT else falseT) else noneT := by rw [← hvl]; unfold valT; rw [if_pos h]
    by_cases h1 : v.Kind = 1
    · obtain ⟨n0, n1, hS⟩ := vOk_num h h1
      have ev : v = ⟨1, v.N, ⟨#[]⟩⟩ := by rw [← h1, ← hS]
      rw [if_pos h1] at hv; obtain ⟨c, r, ec, hc⟩ := numT_head v.N
      have ne : ∀ d s, (d : UInt8) ≠ 45 → ¬ (48 ≤ d.toNat ∧ d.toNat ≤ 57) → l ≠ d :: s := fun d s h2 h3 h4 => by
        rw [hv, ec] at h4; cases h4; rcases hc with hc | hc
        · exact h2 hc
        · exact h3 hc
      have n39 : ¬ (1 < l.length ∧ l[0]? = some 39) := fun hq => by
        have h4 := hq.2; rw [hv, ec] at h4; have h5 : c = 39 := by simpa using h4
        subst h5; rcases hc with hc | hc
        · exact absurd hc (by decide)
        · exact absurd hc (by decide)
      rw [if_neg (show l ≠ noneT from ne _ _ (by decide) (by decide)), if_neg (fun h => h.elim (show l ≠ trueT from ne _ _ (by decide) (by decide)) (show l ≠ falseT from ne _ _ (by decide) (by decide))), if_neg n39]
      by_cases hn : v.N < 0
      · have el : l = 45 :: Go.Lib.decDigits v.N.natAbs := by rw [hv]; unfold numT Go.Lib.itoa; rw [if_pos hn]
        obtain ⟨d, s, ed, _⟩ := dd_head v.N.natAbs; rw [if_pos ⟨by rw [el, ed]; simp, by rw [el]; rfl⟩, show l.drop 1 = Go.Lib.decDigits v.N.natAbs by rw [el]; rfl, dgL_dd (by omega), maxI0 (by omega), show (0 : Int) - (v.N.natAbs : Int) = v.N by omega, ← ev, e]
      · have el : l = Go.Lib.decDigits v.N.toNat := by rw [hv]; unfold numT Go.Lib.itoa; rw [if_neg hn]
        obtain ⟨d, s, ed, _⟩ := dd_head v.N.toNat; have hd := dd_digit v.N.toNat d (by rw [ed]; simp)
        rw [if_neg (fun hq => by
          have h4 := hq.2; rw [el, ed] at h4; have h5 : d = 45 := by simpa using h4
          subst h5; exact absurd hd (by decide)), el, dgL_dd (by omega), maxI0 (by omega), show ((v.N.toNat : Nat) : Int) = v.N by omega, ← ev, ← el, e]
    rw [if_neg h1] at hv
    by_cases h2 : v.Kind = 2
    · obtain ⟨hN, hS⟩ := vOk_text h h2
      rw [if_pos h2] at hv
      have ne : ∀ d s, (d : UInt8) ≠ 39 → l ≠ d :: s := fun d s h2 h4 => by
        rw [hv] at h4; cases h4; exact h2 rfl
      have hq : inQ l = v.S.data.toList := by
        unfold inQ; rw [hv]; simp
      have ev : v = ⟨2, 0, v.S⟩ := by rw [← h2, ← hN]
      rw [if_neg (show l ≠ noneT from ne _ _ (by decide)), if_neg (fun h => h.elim (show l ≠ trueT from ne _ _ (by decide)) (show l ≠ falseT from ne _ _ (by decide))), if_pos ⟨by rw [hv]; simp, by rw [hv]; rfl⟩, hq, bs_self, ← ev, e]
    rw [if_neg h2] at hv
    by_cases h3 : v.Kind = 3
    · obtain ⟨n0, n1, hS⟩ := vOk_truth h h3
      rw [if_pos h3] at hv; rcases (show v.N = 0 ∨ v.N = 1 by omega) with hN | hN
      · have ev : v = ⟨3, 0, ⟨#[]⟩⟩ := by rw [← h3, ← hN, ← hS]
        rw [if_neg (by omega)] at hv; rw [if_neg (by rw [hv]; decide), if_pos (.inr hv), show (5 : Int) - (l.length : Int) = 0 by rw [hv]; rfl, ← ev, e]
      · have ev : v = ⟨3, 1, ⟨#[]⟩⟩ := by rw [← h3, ← hN, ← hS]
        rw [if_pos hN] at hv; rw [if_neg (by rw [hv]; decide), if_pos (.inl hv), show (5 : Int) - (l.length : Int) = 1 by rw [hv]; rfl, ← ev, e]
    · rw [if_neg h3] at hv
      have ev : v = v00 := vOk_other h h1 h2 h3; rw [if_pos hv, ev]
  · have hn : ∀ v, vOk v = true → valT v ≠ l := fun v h1 h2 => hv ⟨v, h1, h2⟩
    refine ⟨(v00, false), ?_, .inr ⟨rfl, hn⟩⟩; have e1 : l ≠ noneT := fun h => hn v00 rfl (by rw [h]; rfl); rw [if_neg e1]
    by_cases h0 : l = []
    · subst h0
      rw [if_neg (by decide), if_neg (by decide), if_neg (by decide)]; unfold tR; rw [if_neg]; intro h; have := valT_nil.1 h; revert this; decide
    · rw [tR_no hn h0, tR_no hn h0, tR_no hn h0, tR_no hn h0]
      split
      · rfl
      · split
        · rfl
        · split <;> rfl
theorem E_eqV (v : V) : m_laws_eqValue v v = some true := by
  unfold m_laws_eqValue; rw [neF rfl, cond_false, neF rfl, cond_false, sEq_eq, decide_eq_true rfl]; rfl
theorem pure_FnExactValueRead (a0 : ByteArray) (b0 : B_string a0) : m_laws_FnExactValueRead a0 = some true := by
  unfold m_laws_FnExactValueRead
  by_cases hl : (a0.size : Int) > 1048576
  · rw [decide_eq_true hl, cond_true]
  rw [decide_eq_false hl, cond_false]; have hs : a0.data.toList.length = a0.size := Array.length_toList; obtain ⟨r, h1, h2⟩ := E_spec_rd (l := a0.data.toList) (by omega); obtain ⟨q, k1, k2⟩ := E_impl_rd (l := a0.data.toList) (by omega); have e := Rd_unique h2 k2; subst e; rw [bs_self] at h1 k1; rw [h1, Option.bind_some, ltE, k1, Option.bind_some, ltE, E_eqV, Option.bind_some, Bool.not_true, cond_false, show (r.2 != r.2) = false by cases r.2 <;> rfl]; rfl
end Go.Proofs.YtdkpmckpcejceaaDoor
