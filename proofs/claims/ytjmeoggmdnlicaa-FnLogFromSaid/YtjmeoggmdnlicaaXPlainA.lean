/- What the mirrors come to, in plain Lean: the law itself at the end. -/
import Derived.Test.YtjmeoggmdnlicaaXW5
import Derived.Test.YtjmeoggmdnlicaaLd
set_option linter.unusedVariables false
set_option linter.unusedSimpArgs false
set_option linter.unnecessarySimpa false
namespace Go.Proofs.Ytjmeoggmdnlicaa
open Go.Proofs Go.Lift
abbrev V := S_impl_Value
abbrev Row := List V
abbrev Rows := List Row
def lower (l : List UInt8) : Bool := l.all fun b => decide (97 ≤ b.toNat) && decide (b.toNat ≤ 122)
def vOk (v : V) : Bool :=
  if v.Kind = 0 then decide (v = ⟨0, 0, ⟨#[]⟩⟩)
  else if v.Kind = 1 then decide (v.S = ⟨#[]⟩) && (decide (-9999 ≤ v.N) && decide (v.N ≤ 9999))
  else if v.Kind = 2 then decide (v.N = 0) && decide (v.S.size ≤ 6) && lower v.S.data.toList
  else if v.Kind = 3 then decide (v.S = ⟨#[]⟩) && (decide (0 ≤ v.N) && decide (v.N ≤ 1))
  else false
def rowOk (l : Row) : Bool := decide (l.length ≤ 4) && l.all vOk
def vSm (v : V) : Prop := v.S.size ≤ 1100000
def rSm (l : Row) : Prop := l.length ≤ 1100000 ∧ ∀ v ∈ l, vSm v
theorem E_sameRow {a b : Row} (ha : a.length ≤ 900000000) : m_laws_sameRow a b = some (decide (a = b)) := by
  unfold m_laws_sameRow
  by_cases h : a.length = b.length
  · have hc : ((a.length : Int) != (b.length : Int)) = false := by simp [h]
    rw [hc, cond_false, ← all2_eq h]; refine scan2 a b h (fun n k => m_laws_sameRow_l1 n a b k) (fun n k x y hx hy => ?_) (fun n => ?_) _ (by omega)
    · have := lt_of_at hx
      simp only [m_laws_sameRow_l1, dlt this, at_of hx, at_of hy, ck1 (show k < 1000000000000 by omega), Option.bind_some, cond_true]; cases decide (x = y) <;> rfl
    · simp only [m_laws_sameRow_l1, dnlt]; rfl
  · have hc : ((a.length : Int) != (b.length : Int)) = true := by simp; omega
    rw [hc, cond_true]; have : a ≠ b := fun e => h (by rw [e]); simp [this]
theorem E_IndexFunc_V {l : Row} {p : V → Option Bool} {q : V → Bool} (hl : l.length ≤ 900000000) (hp : ∀ v ∈ l, p v = some (q v)) : m_slices_ContainsFunc_Limpl_Value_impl_Value l p = some (l.any q) := by
  unfold m_slices_ContainsFunc_Limpl_Value_impl_Value m_slices_IndexFunc_Limpl_Value_impl_Value
  have key : ∀ (ys : Row) (k n : Nat), l.drop k = ys → k ≤ l.length → ys.length < n → ∃ i : Int, m_slices_IndexFunc_Limpl_Value_impl_Value_l1 p n l (l.length : Int) (k : Int) = some i ∧ decide (i ≥ 0) = ys.any q := by
    intro ys
    induction ys with
    | nil =>
      intro k n hd hk hn
      have : k = l.length := by
        have := congrArg List.length hd; simp at this; omega
      subst this; obtain ⟨m, rfl⟩ : ∃ m, n = m + 1 := ⟨n - 1, by simp at hn; omega⟩; exact ⟨-1, by simp only [m_slices_IndexFunc_Limpl_Value_impl_Value_l1, dnlt]; rfl, rfl⟩
    | cons y ys ih =>
      intro k n hd hk hn
      have hlt : k < l.length := by
        have := congrArg List.length hd; simp at this; omega
      have hc := List.drop_eq_getElem_cons hlt; rw [hd] at hc; simp only [List.cons.injEq] at hc; have hx : l[k]? = some y := by rw [List.getElem?_eq_getElem hlt, hc.1]
      obtain ⟨m, rfl⟩ : ∃ m, n = m + 1 := ⟨n - 1, by simp at hn; omega⟩; simp only [m_slices_IndexFunc_Limpl_Value_impl_Value_l1, dlt hlt, at_of hx, hp y (List.mem_of_getElem? hx), ck1 (show k < 1000000000000 by omega), Option.bind_some, cond_true]; cases hq : q y
      · obtain ⟨i, h1, h2⟩ := ih (k + 1) m hc.2.symm (by omega) (by simp at hn; omega)
        exact ⟨i, by simpa using h1, by rw [h2]; simp [hq]⟩
      · exact ⟨(k : Int), rfl, by simp [hq]⟩
  obtain ⟨i, h1, h2⟩ := key l 0 _ rfl (by omega) (show l.length < (((l.length : Int) - 0).toNat + 1) by omega); rw [show ((0 : Nat) : Int) = 0 from rfl] at h1; rw [h1]; simp only [Option.bind_some, h2]
theorem E_between (a b c : Int) : m_impl_between a b c = some (decide (b ≤ a) && decide (a ≤ c)) := by
  unfold m_impl_between m_impl_between_j1
  by_cases h : a ≥ b <;> simp [h]
theorem E_l1In (a b c : Int) : m_spec_l1In a b c = some (decide (b ≤ a) && decide (a ≤ c)) := by
  unfold m_spec_l1In m_spec_l1In_j1
  by_cases h : a ≥ b <;> simp [h]
theorem lower_any (l : List UInt8) : lower l = !(l.any fun b => !(decide (97 ≤ (b.toNat : Int)) && decide ((b.toNat : Int) ≤ 122))) := by
  unfold lower; rw [List.all_eq_not_any_not]
  congr 2
  funext b
  congr 1
  have h1 : decide (97 ≤ b.toNat) = decide (97 ≤ (b.toNat : Int)) := by rw [decide_eq_decide]; omega
  have h2 : decide (b.toNat ≤ 122) = decide ((b.toNat : Int) ≤ 122) := by rw [decide_eq_decide]; omega
  rw [h1, h2]
theorem E_letters {s : ByteArray} (h : s.size ≤ 900000000) : m_impl_letters s = some (lower s.data.toList) := by
  unfold m_impl_letters sBytes?; rw [if_pos (by omega)]; simp only [Option.bind_some]; have hl : s.data.toList.length ≤ 900000000 := h
  have := scanA (p := fun b : UInt8 => !(decide (97 ≤ (b.toNat : Int)) && decide ((b.toNat : Int) ≤ 122))) (r0 := false) (r1 := true) s.data.toList (fun n k => m_impl_letters_l1 n s.data.toList (s.data.toList.length : Int) k) (fun n k x hx => by
    have := lt_of_at hx; simp only [m_impl_letters_l1, dlt this, at_of hx, E_between, ck1 (show k < 1000000000000 by omega), Option.bind_some, cond_true]) (fun n => by simp only [m_impl_letters_l1, dnlt]; rfl) _ fuel0
  rw [this, lower_any]; cases s.data.toList.any fun b => !(decide (97 ≤ (b.toNat : Int)) && decide ((b.toNat : Int) ≤ 122)) <;> rfl
theorem sAt_of {s : ByteArray} {k : Nat} {x : UInt8} (h : s.data.toList[k]? = some x) : sAt? s (k : Int) = some x := by
  unfold sAt?; rw [if_pos (by omega)]; obtain ⟨h1, h2⟩ := List.getElem?_eq_some_iff.1 h; have hs : k < s.size := by have := h1; rwa [Array.length_toList] at this
  have : s[k]? = some (s[k]'hs) := by simp [hs]
  rw [Int.toNat_natCast, this]
  congr 1
theorem E_l1Text {s : ByteArray} (h : s.size ≤ 900000000) : m_spec_l1Text s = some (lower s.data.toList && decide (s.size ≤ 6)) := by
  unfold m_spec_l1Text; have hl : s.data.toList.length = s.size := rfl; rw [← hl]
  have := scanA (p := fun b : UInt8 => !(decide (97 ≤ (b.toNat : Int)) && decide ((b.toNat : Int) ≤ 122))) (r0 := false) (r1 := decide ((s.size : Int) ≤ 6)) s.data.toList (fun n k => m_spec_l1Text_l1 n s k) (fun n k x hx => by
    have := lt_of_at hx; have hd : decide ((k : Int) < (s.size : Int)) = true := by rw [← hl]; exact dlt this
    simp only [m_spec_l1Text_l1, m_spec_l1Text_j1, hd, sAt_of hx, ck1 (show k < 1000000000000 by omega), Option.bind_some, cond_true]; have e1 : ((97 : UInt8).toNat : Int) = 97 := rfl; have e2 : ((122 : UInt8).toNat : Int) = 122 := rfl; rw [e1, e2]
    by_cases h1 : (x.toNat : Int) < 97
    · have : ¬ (97 ≤ (x.toNat : Int)) := by omega
      simp [h1, this]
    · have h1' : 97 ≤ (x.toNat : Int) := by omega
      by_cases h2 : (x.toNat : Int) > 122
      · have : ¬ ((x.toNat : Int) ≤ 122) := by omega
        simp [h1, h2, this]
      · have : (x.toNat : Int) ≤ 122 := by omega
        simp [h1, h2, this, h1']) (fun n => by simp only [m_spec_l1Text_l1, hl, dnlt]; rfl) _ fuel0
  rw [this, lower_any]; have e : decide ((s.size : Int) ≤ 6) = decide (s.size ≤ 6) := by rw [decide_eq_decide]; omega
  rw [e]; cases s.data.toList.any fun b => !(decide (97 ≤ (b.toNat : Int)) && decide ((b.toNat : Int) ≤ 122)) <;> simp
theorem E_Value_ok {v : V} (h : v.S.size ≤ 900000000) : m_impl_Value_ok v = some (vOk v) := by
  unfold m_impl_Value_ok m_impl_Value_ok_j1 m_impl_Value_ok_j2 m_impl_Value_ok_j3 vOk; simp only [E_between, E_letters h, Option.bind_some, sEq_eq]
  by_cases h0 : v.Kind = 0
  · simp [h0]
  · by_cases h1 : v.Kind = 1
    · by_cases hs : v.S = ⟨#[]⟩ <;> simp [beqF h0, h0, h1, hs]
    · by_cases h2 : v.Kind = 2
      · by_cases hn : v.N = 0
        · by_cases hs : v.S.size ≤ 6
          · have : (v.S.size : Int) ≤ 6 := by omega
            simp [beqF h0, beqF h1, h0, h1, h2, hn, hs, this]
          · have : ¬ (v.S.size : Int) ≤ 6 := by omega
            simp [beqF h0, beqF h1, h0, h1, h2, hn, hs, this]
        · simp [beqF h0, beqF h1, h0, h1, h2, beqF hn, hn]
      · by_cases h3 : v.Kind = 3
        · by_cases hs : v.S = ⟨#[]⟩ <;> simp [beqF h0, beqF h1, beqF h2, h0, h1, h2, h3, hs]
        · simp [beqF h0, beqF h1, beqF h2, beqF h3, h0, h1, h2, h3]
theorem E_spec_ValueOk {v : V} (h : v.S.size ≤ 900000000) : m_spec_ValueOk v = some (vOk v) := by
  unfold m_spec_ValueOk m_spec_ValueOk_j1 m_spec_ValueOk_j2 m_spec_ValueOk_j3 m_spec_ValueOk_j4 vOk; simp only [E_l1In, E_l1Text h, Option.bind_some, sEq_eq]; obtain ⟨k, n, s⟩ := v; simp only [S_impl_Value.mk.injEq]
  by_cases h0 : k = 0
  · by_cases hn : n = 0
    · simp [h0, hn]
    · simp [h0, hn, beqF hn]
  · by_cases h1 : k = 1
    · by_cases hs : s = ⟨#[]⟩ <;> by_cases ha : -9999 ≤ n <;> by_cases hb : n ≤ 9999 <;> simp [beqF h0, h0, h1, hs, ha, hb]
    · by_cases h2 : k = 2
      · by_cases hn : n = 0
        · simp [beqF h0, beqF h1, h0, h1, h2, hn, Bool.and_comm]
        · simp [beqF h0, beqF h1, h0, h1, h2, beqF hn, hn]
      · by_cases h3 : k = 3
        · by_cases hs : s = ⟨#[]⟩ <;> by_cases ha : 0 ≤ n <;> by_cases hb : n ≤ 1 <;> simp [beqF h0, beqF h1, beqF h2, h0, h1, h2, h3, hs, ha, hb]
        · simp [beqF h0, beqF h1, beqF h2, beqF h3, h0, h1, h2, h3]
theorem E_impl_RowOk {l : Row} (h : rSm l) : m_impl_RowOk l = some (rowOk l) := by
  unfold m_impl_RowOk m_impl_RowOk_j1 rowOk; obtain ⟨h1, h2⟩ := h; rw [E_IndexFunc_V (q := fun v => !(vOk v)) (by omega) (fun v hv => by unfold m_impl_RowOk_1; rw [E_Value_ok (by have := h2 v hv; unfold vSm at this; omega)]; rfl)]; simp only [Option.bind_some]; rw [List.all_eq_not_any_not]
  by_cases h : l.length ≤ 4
  · have : (l.length : Int) ≤ 4 := by omega
    simp [h, this]
  · have : ¬ (l.length : Int) ≤ 4 := by omega
    simp [h, this]
theorem E_spec_RowOk {l : Row} (h : rSm l) : m_spec_RowOk l = some (rowOk l) := by
  unfold m_spec_RowOk rowOk; obtain ⟨h1, h2⟩ := h
  have := scanA (p := fun v => !(vOk v)) (r0 := false) (r1 := decide ((l.length : Int) ≤ 4)) l (fun n k => m_spec_RowOk_l1 n l k) (fun n k x hx => by
    have := lt_of_at hx; have hsm := h2 x (List.mem_of_getElem? hx); unfold vSm at hsm; simp only [m_spec_RowOk_l1, dlt this, at_of hx, E_spec_ValueOk (show x.S.size ≤ 900000000 by omega), ck1 (show k < 1000000000000 by omega), Option.bind_some, cond_true]) (fun n => by simp only [m_spec_RowOk_l1, dnlt]; rfl) _ fuel0
  rw [this, List.all_eq_not_any_not]; have e : decide ((l.length : Int) ≤ 4) = decide (l.length ≤ 4) := by rw [decide_eq_decide]; omega
  rw [e]; cases l.any fun v => !(vOk v) <;> simp
theorem E_alive : m_laws_alive = some true := by
  unfold m_laws_alive m_laws_alive_j1 m_impl_ValueOk; rw [E_Value_ok (by decide), E_Value_ok (by decide)]; rfl
theorem E_clone {l : Row} (h : l.length ≤ 900000000) : m_impl_clone_impl_Value l = some l := by
  unfold m_impl_clone_impl_Value appN?; cases l with
  | nil => rfl
  | cons x l =>
    have e : (((x :: l).length : Int) == 0) = false := by simp; omega
    rw [e, cond_false, if_pos ⟨by simp, by omega⟩, Option.bind_some]; rfl
theorem cut_of {α : Type} {l : List α} {lo hi : Nat} (h : lo ≤ hi) (h2 : hi ≤ l.length) : cut? l (lo : Int) (hi : Int) = some ((l.take hi).drop lo) := by
  unfold cut?; rw [if_pos (by omega)]; simp
abbrev Rd := S_spec_l20Rd
def Rd.ok (o : Rd) : Prop := 0 ≤ o.p ∧ o.p ≤ 1000000000
theorem tmod_b {m n : Int} (h : 0 ≤ m) (hn : 0 < n) : 0 ≤ m.tmod n ∧ m.tmod n < n := ⟨Int.tmod_nonneg n h, Int.tmod_lt_of_pos m hn⟩
theorem tdiv_b {m n : Int} (h : 0 ≤ m) (hn : 0 < n) : 0 ≤ m.tdiv n ∧ m.tdiv n ≤ m := ⟨Int.tdiv_nonneg h (Int.le_of_lt hn), Int.tdiv_le_self _ h⟩
theorem T_pick {o : Rd} {n : Int} (ho : 0 ≤ o.p ∧ o.p ≤ 1000000000) : Tot (m_Pspec_l20Rd_pick o n) fun r => 0 ≤ r.1 ∧ (r.1 < n ∨ r.1 = 0) ∧ r.2.p = o.p + 1 := by
  unfold m_Pspec_l20Rd_pick; refine Tot.ck (by omega) (by omega) (Tot.lt ?_); refine Tot.bif (fun h => ?_) (fun h => ?_)
  · unfold m_Pspec_l20Rd_pick_j1
    exact Tot.ret ⟨Int.le_refl _, .inr rfl, rfl⟩
  · simp only [decide_eq_false_iff_not] at h
    unfold m_Pspec_l20Rd_pick_j1; refine Tot.bif (fun h2 => Tot.ret ⟨Int.le_refl _, .inr rfl, rfl⟩) (fun h2 => ?_); have hb : 0 < (o.b.length : Int) := by simp at h2; have := List.length_pos_iff.2 h2; omega
    refine Tot.ck (by simp only; omega) (by simp only; omega) ?_; have e : (o.p + 1 - 1) = o.p := by omega
    simp only [e]; refine Tot.bif (fun h3 => ?_) (fun h3 => ?_)
    · simp only [decide_eq_true_eq] at h3
      refine Tot.at (by omega) h3 (fun x _ => ?_); refine Tot.rem (by omega) (Tot.ret ?_); have := tmod_b (m := (x.toNat : Int)) (n := n) (by omega) (by omega); exact ⟨this.1, .inl this.2, rfl⟩
    · have m1 := tmod_b (m := o.p) (n := o.b.length) (by omega) hb
      refine Tot.rem (by omega) (Tot.at m1.1 m1.2 (fun x _ => ?_)); have hx := x.toNat_lt; refine Tot.ck (by omega) (by omega) (Tot.ck (by omega) (by omega) (Tot.ck (by omega) (by omega) ?_)); have m2 := tmod_b (m := o.p * 7 + 3) (n := o.b.length) (by omega) hb; refine Tot.rem (by omega) (Tot.at m2.1 m2.2 (fun y _ => ?_)); have hy := y.toNat_lt; refine Tot.ck (by omega) (by omega) (Tot.ck (by omega) (by omega) (Tot.ck (by omega) (by omega) (Tot.ck (by omega) (by omega) ?_))); have d1 := tdiv_b (m := o.p) (n := o.b.length) (by omega) hb; refine Tot.quo (by omega) (by omega) (by omega) (Tot.ck (by omega) (by omega) (Tot.ck (by omega) (by omega) ?_)); have hz : 0 ≤ (x.toNat : Int) * 131 + (y.toNat : Int) * 1117 + o.p * 29 + o.p.tdiv o.b.length * 53 ∧ (x.toNat : Int) * 131 + (y.toNat : Int) * 1117 + o.p * 29 + o.p.tdiv o.b.length * 53 < 1000000000000 := by omega
      generalize (x.toNat : Int) * 131 + (y.toNat : Int) * 1117 + o.p * 29 + o.p.tdiv o.b.length * 53 = z at hz ⊢; have d2 := tdiv_b (m := z) (n := 64) (by omega) (by omega); refine Tot.quo (by omega) (by omega) (by omega) (Tot.xor (by omega) (fun u h4 h5 => Tot.rem (by omega) (Tot.ret ?_))); have := tmod_b (m := u) (n := n) (by omega) (by omega); exact ⟨this.1, .inl this.2, rfl⟩
theorem T_odd {o : Rd} {n : Int} (ho : 0 ≤ o.p ∧ o.p ≤ 1000000000) (hn : -900000000 ≤ n ∧ n ≤ 900000000) : Tot (m_Pspec_l20Rd_odd o n) fun r => o.p ≤ r.2.p ∧ r.2.p ≤ o.p + 1 := by
  unfold m_Pspec_l20Rd_odd m_Pspec_l20Rd_odd_j1; refine Tot.bif (fun h => ?_) (fun h => Tot.ret ⟨Int.le_refl _, by simp only; omega⟩); refine Tot.bind (T_pick ho) (fun r hr => ?_); exact Tot.ck (by omega) (by omega) (Tot.ret ⟨by simp only; omega, by simp only; omega⟩)
def vDr (v : V) : Prop := v.S.size ≤ 20 ∧ -10000 ≤ v.N ∧ v.N ≤ 10000 ∧ -10 ≤ v.Kind ∧ v.Kind ≤ 10
theorem T_l20Value_j3 {n : Int} {o : Rd} {v w : V} (ho : 0 ≤ o.p ∧ o.p ≤ 1000000000 - 10) (hn : -900000000 ≤ n ∧ n ≤ 900000000) (hv : w.S.size ≤ 10 ∧ -10000 ≤ w.N ∧ w.N ≤ 10000 ∧ -10 ≤ w.Kind ∧ w.Kind ≤ 10) : Tot (m_spec_l20Value_j3 n o v w) fun r => vDr r.1 ∧ o.p ≤ r.2.p ∧ r.2.p ≤ o.p + 5 := by
  unfold m_spec_l20Value_j3 m_spec_l20Value_j4; refine Tot.bind (T_odd (by omega) hn) (fun r hr => ?_); refine Tot.bif (fun _ => ?_) (fun _ => ?_)
  · refine Tot.bind (T_pick (by omega)) (fun q hq => ?_)
    refine Tot.bif (fun _ => ?_) (fun _ => Tot.bif (fun _ => ?_) (fun _ => Tot.bif (fun _ => ?_) (fun _ => ?_)))
    · refine Tot.lt (Tot.lt (Tot.ret ⟨⟨by simp only; omega, by simp only; omega, by simp only; omega, by simp only; omega, by simp only; omega⟩, by simp only; omega, by simp only; omega⟩))
    · refine Tot.cat (by rw [show ByteArray.size ⟨#[97, 98, 99, 100, 101, 102, 103]⟩ = 7 from rfl]; omega) (Tot.lt (Tot.lt (Tot.ret ⟨⟨?_, by simp only; omega, by simp only; omega, by simp only; omega, by simp only; omega⟩, by simp only; omega, by simp only; omega⟩)))
      simp only [ByteArray.size_append]; rw [show ByteArray.size ⟨#[97, 98, 99, 100, 101, 102, 103]⟩ = 7 from rfl]; omega
    · refine Tot.bind (T_pick (by omega)) (fun u hu => ?_)
      refine Tot.ck (by omega) (by omega) (Tot.lt (Tot.lt (Tot.ret ⟨⟨by simp only; omega, by simp only; omega, by simp only; omega, by simp only; omega, by simp only; omega⟩, by simp only; omega, by simp only; omega⟩)))
    · refine Tot.cat (by rw [show ByteArray.size ⟨#[65]⟩ = 1 from rfl]; omega) (Tot.lt (Tot.lt (Tot.ret ⟨⟨?_, by simp only; omega, by simp only; omega, by simp only; omega, by simp only; omega⟩, by simp only; omega, by simp only; omega⟩)))
      simp only [ByteArray.size_append]; rw [show ByteArray.size ⟨#[65]⟩ = 1 from rfl]; omega
  · exact Tot.lt (Tot.ret ⟨⟨by simp only; omega, by simp only; omega, by simp only; omega, by simp only; omega, by simp only; omega⟩, by simp only; omega, by simp only; omega⟩)
theorem T_l20Value_l1 {n : Int} {v : V} (hn : -900000000 ≤ n ∧ n ≤ 900000000) {p : Int} (hp : 0 ≤ p ∧ p ≤ 1000000000 - 20) : ∀ (f : Nat) (t : Int) (s : Rd × V), 0 ≤ t → t < f → (t ≤ 4 ∧ p ≤ s.1.p ∧ s.1.p + t ≤ p + 4 ∧ (s.2.S.size : Int) + t ≤ 4 ∧ -10000 ≤ s.2.N ∧ s.2.N ≤ 10000 ∧ -10 ≤ s.2.Kind ∧ s.2.Kind ≤ 10) →
    Tot (m_spec_l20Value_l1 f n t s.1 v s.2) fun r => vDr r.1 ∧ p ≤ r.2.p ∧ r.2.p ≤ p + 9 := by
  refine Tot.down (fun f t (s : Rd × V) => m_spec_l20Value_l1 f n t s.1 v s.2) _ (fun f s h => ?_) (fun f t s ht h ih => ?_)
  · rw [m_spec_l20Value_l1, show decide ((0 : Int) > 0) = false from rfl, cond_false]
    exact (T_l20Value_j3 (by omega) hn ⟨by omega, by omega, by omega, by omega, by omega⟩).mono fun r hr => ⟨hr.1, by omega, by omega⟩
  · rw [m_spec_l20Value_l1, decide_eq_true (show t > 0 by omega), cond_true]
    refine Tot.bind (T_pick (by omega)) (fun r hr => ?_); refine Tot.ck (by omega) (by omega) (Tot.cat ?_ (Tot.lt (Tot.ck (by omega) (by omega) ?_)))
    · rw [show (bStr [Lift.byteOf (97 + r.1)]).size = 1 from rfl]; omega
    · refine ih (r.2, { s.2 with S := s.2.S ++ bStr [Lift.byteOf (97 + r.1)] }) ⟨by omega, by simp only; omega, by simp only; omega, ?_, by simp only; omega, by simp only; omega, by simp only; omega, by simp only; omega⟩
      simp only [ByteArray.size_append]; rw [show (bStr [Lift.byteOf (97 + r.1)]).size = 1 from rfl]; omega
theorem T_l20Value {o : Rd} {n : Int} (ho : 0 ≤ o.p ∧ o.p ≤ 1000000000 - 100) (hn : -900000000 ≤ n ∧ n ≤ 900000000) : Tot (m_spec_l20Value o n) fun r => vDr r.1 ∧ o.p ≤ r.2.p ∧ r.2.p ≤ o.p + 15 := by
  unfold m_spec_l20Value; have e0 : ByteArray.size ⟨#[]⟩ = 0 := rfl
  have j2 : ∀ (b : Bool) (q : Rd) (v w : V), o.p ≤ q.p → q.p ≤ o.p + 2 → w.S.size = 0 → w.N = 0 → w.Kind = 0 → Tot (m_spec_l20Value_j2 n b q v w) fun r => vDr r.1 ∧ o.p ≤ r.2.p ∧ r.2.p ≤ o.p + 15 := by
    intro b q v w h1 h2 h3 h4 h5; unfold m_spec_l20Value_j2; refine Tot.bif (fun _ => Tot.lt ?_) (fun _ => ?_)
    · refine Tot.bind (T_pick (by omega)) (fun r hr => ?_)
      exact (T_l20Value_l1 (v := v) hn (p := r.2.p) (by omega) _ r.1 (r.2, ⟨2, 0, ⟨#[]⟩⟩) (by omega) (by omega) ⟨by omega, by simp only; omega, by simp only; omega, by simp only [e0]; omega, by first | decide | omega | (simp only; omega), by first | decide | omega | (simp only; omega), by first | decide | omega | (simp only; omega), by first | decide | omega | (simp only; omega)⟩).mono fun x hx => ⟨hx.1, by omega, by omega⟩
    · refine Tot.bind (T_pick (by omega)) (fun r hr => Tot.lt ?_)
      exact (T_l20Value_j3 (by omega) hn ⟨by simp only [e0]; omega, by simp only; omega, by simp only; omega, by first | decide | omega | (simp only; omega), by first | decide | omega | (simp only; omega)⟩).mono fun x hx => ⟨hx.1, by omega, by omega⟩
  have j1 : ∀ (t : Int) (b : Bool) (q : Rd) (v w : V), o.p ≤ q.p → q.p ≤ o.p + 1 → w.S.size = 0 → w.N = 0 → w.Kind = 0 → Tot (m_spec_l20Value_j1 n t b q v w) fun r => vDr r.1 ∧ o.p ≤ r.2.p ∧ r.2.p ≤ o.p + 15 := by
    intro t b q v w h1 h2 h3 h4 h5; unfold m_spec_l20Value_j1; refine Tot.bif (fun _ => ?_) (fun _ => Tot.bif (fun _ => j2 _ _ _ _ h1 (by omega) h3 h4 h5) (fun _ => j2 _ _ _ _ h1 (by omega) h3 h4 h5)); refine Tot.bind (T_pick (by omega)) (fun r hr => Tot.ck (by omega) (by omega) (Tot.lt ?_)); refine Tot.bind (T_pick (by omega)) (fun u hu => Tot.bif (fun _ => ?_) (fun _ => ?_))
    · refine Tot.bind (T_pick (by omega)) (fun x hx => Tot.at (by omega) (by simp only [List.length_cons, List.length_nil]; omega) (fun y hy => Tot.lt ?_))
      have hy' : -10000 ≤ y ∧ y ≤ 10000 := by simp at hy; omega
      exact (T_l20Value_j3 (by omega) hn ⟨by simp only [e0]; omega, by simp only; omega, by simp only; omega, by first | decide | omega | (simp only; omega), by first | decide | omega | (simp only; omega)⟩).mono fun x hx => ⟨hx.1, by omega, by omega⟩
    · exact (T_l20Value_j3 (by omega) hn ⟨by simp only [e0]; omega, by simp only; omega, by simp only; omega, by first | decide | omega | (simp only; omega), by first | decide | omega | (simp only; omega)⟩).mono fun x hx => ⟨hx.1, by omega, by omega⟩
  refine Tot.lt (Tot.bind (T_pick (by omega)) (fun r hr => ?_)); refine Tot.bif (fun _ => ?_) (fun _ => Tot.bif (fun _ => ?_) (fun _ => Tot.bif (fun _ => ?_) (fun _ => ?_)))
  · exact (T_l20Value_j3 (by omega) hn ⟨by simp only [e0]; omega, by simp only; omega, by simp only; omega, by first | decide | omega | (simp only; omega), by first | decide | omega | (simp only; omega)⟩).mono fun x hx => ⟨hx.1, by omega, by omega⟩
  · exact j1 _ _ _ _ _ (by omega) (by omega) rfl rfl rfl
  · exact j1 _ _ _ _ _ (by omega) (by omega) rfl rfl rfl
  · exact j1 _ _ _ _ _ (by omega) (by omega) rfl rfl rfl
def cDr (c : S_impl_Column) : Prop := -10 ≤ c.Kind ∧ c.Kind ≤ 10
theorem T_l20Like {o : Rd} {c : S_impl_Column} (ho : 0 ≤ o.p ∧ o.p ≤ 1000000000 - 100) : Tot (m_spec_l20Like o c) fun r => vDr r.1 ∧ o.p ≤ r.2.p ∧ r.2.p ≤ o.p + 3 := by
  unfold m_spec_l20Like; have e0 : ByteArray.size ⟨#[]⟩ = 0 := rfl
  have j1 : ∀ (b : Bool) (q : Rd) (v : V), o.p ≤ q.p → q.p ≤ o.p + 1 → Tot (m_spec_l20Like_j1 c b q v) fun r => vDr r.1 ∧ o.p ≤ r.2.p ∧ r.2.p ≤ o.p + 3 := by
    intro b q v h1 h2; unfold m_spec_l20Like_j1; refine Tot.bif (fun _ => Tot.lt (Tot.ret ⟨⟨by first | decide | omega | (simp only; omega), by first | decide | omega | (simp only; omega), by first | decide | omega | (simp only; omega), by first | decide | omega | (simp only; omega), by first | decide | omega | (simp only; omega)⟩, h1, by simp only; omega⟩)) (fun _ => Tot.bif (fun _ => ?_) (fun _ => Tot.bif (fun _ => ?_) (fun _ => ?_)))
    · refine Tot.bind (T_pick (by omega)) (fun r hr => Tot.lt (Tot.ret ⟨⟨by simp only [e0]; omega, by simp only; omega, by simp only; omega, by simp only; omega, by simp only; omega⟩, by simp only; omega, by simp only; omega⟩))
    · refine Tot.bind (T_pick (by omega)) (fun r hr => Tot.at (by omega) (by simp only [List.length_cons, List.length_nil]; omega) (fun y hy => Tot.lt (Tot.ret ⟨⟨?_, by simp only; omega, by simp only; omega, by simp only; omega, by simp only; omega⟩, by simp only; omega, by simp only; omega⟩)))
      simp only [List.mem_cons, List.mem_nil_iff, or_false] at hy; rcases hy with rfl | rfl | rfl | rfl <;> exact Nat.le_of_ble_eq_true rfl
    · refine Tot.bind (T_pick (by omega)) (fun r hr => Tot.lt (Tot.ret ⟨⟨by simp only [e0]; omega, by simp only; omega, by simp only; omega, by simp only; omega, by simp only; omega⟩, by simp only; omega, by simp only; omega⟩))
  refine Tot.bif (fun _ => Tot.bind (T_pick (by omega)) (fun r hr => j1 _ _ _ (by omega) (by omega))) (fun _ => j1 _ _ _ (by omega) (by omega))
theorem T_l20Columns {o : Rd} {n : Int} (ho : 0 ≤ o.p ∧ o.p ≤ 1000000000 - 100) (hn : -900000000 ≤ n ∧ n ≤ 900000000) : Tot (m_spec_l20Columns o n) fun r => (1 ≤ r.1.length ∧ r.1.length ≤ 6 ∧ ∀ c ∈ r.1, cDr c) ∧ o.p ≤ r.2.p ∧ r.2.p ≤ o.p + 20 := by
  unfold m_spec_l20Columns; refine Tot.bind (T_pick (by omega)) (fun r hr => Tot.ck (by omega) (by omega) ?_); refine Tot.down (fun f t (s : Rd × List S_impl_Column) => m_spec_l20Columns_l1 f n t s.1 s.2) (fun t s => t ≤ 3 ∧ r.2.p ≤ s.1.p ∧ s.1.p + 2 * t ≤ r.2.p + 6 ∧ (s.2.length : Int) + t = 1 + r.1 ∧ ∀ c ∈ s.2, cDr c) (fun f s h => ?_) (fun f t s ht h ih => ?_) _ (1 + r.1) (r.2, []) (by omega) (by omega) ⟨by omega, by simp only; omega, by simp only; omega, by first | (simp; done) | (simp; omega), by simp⟩
  · obtain ⟨g1, g2, g3, g4, g5⟩ := h
    rw [m_spec_l20Columns_l1, show decide ((0 : Int) > 0) = false from rfl, cond_false]; unfold m_spec_l20Columns_j1 m_spec_l20Columns_j2; refine Tot.bind (T_odd (by omega) hn) (fun q hq => Tot.bif (fun _ => ?_) (fun _ => Tot.ret ⟨⟨by simp only; omega, by simp only; omega, g5⟩, by simp only; omega, by simp only; omega⟩)); refine Tot.bind (T_pick (by omega)) (fun u hu => Tot.ck (by omega) (by omega) (Tot.app (by simp only [List.length_cons, List.length_nil]; omega) (Tot.ret ⟨⟨by first | (simp; done) | (simp; omega), by first | (simp; done) | (simp; omega), ?_⟩, by simp only; omega, by simp only; omega⟩))); intro c hc; simp only [List.mem_append, List.mem_cons, List.mem_nil_iff, or_false] at hc; rcases hc with hc | rfl | rfl | rfl
    · exact g5 c hc
    · exact ⟨by simp only; omega, by simp only; omega⟩
    · exact ⟨by first | decide | omega | (simp only; omega), by first | decide | omega | (simp only; omega)⟩
    · exact ⟨by first | decide | omega | (simp only; omega), by first | decide | omega | (simp only; omega)⟩
  · obtain ⟨g1, g2, g3, g4, g5⟩ := h
    rw [m_spec_l20Columns_l1, decide_eq_true (show t > 0 by omega), cond_true]; refine Tot.bind (T_pick (by omega)) (fun x hx => Tot.at (by omega) (by simp only [List.length_cons, List.length_nil]; omega) (fun y hy => ?_)); have hy' : -10 ≤ y ∧ y ≤ 10 := by simp at hy; omega
    refine Tot.bind (T_pick (by omega)) (fun z hz => Tot.app (by simp only [List.length_cons, List.length_nil]; omega) (Tot.ck (by omega) (by omega) ?_)); refine ih (z.2, s.2 ++ [⟨y, decide (z.1 > 0)⟩]) ⟨by omega, by simp only; omega, by simp only; omega, by first | (simp; done) | (simp; omega), ?_⟩; intro c hc; simp only [List.mem_append, List.mem_cons, List.mem_nil_iff, or_false] at hc; rcases hc with hc | rfl
    · exact g5 c hc
    · exact hy'
def rDr (r : Row) : Prop := r.length ≤ 9 ∧ ∀ v ∈ r, vDr v
theorem T_l20Fit {o : Rd} {cs : List S_impl_Column} {n : Int} (ho : 0 ≤ o.p ∧ o.p ≤ 1000000000 - 1000) (hn : -900000000 ≤ n ∧ n ≤ 900000000) (hc : cs.length ≤ 6) : Tot (m_spec_l20Fit o cs n) fun r => rDr r.1 ∧ o.p ≤ r.2.p ∧ r.2.p ≤ o.p + 80 := by
  unfold m_spec_l20Fit; refine Tot.up (cs.length : Int) (fun f t (s : Rd × Row) => m_spec_l20Fit_l1 f cs n t s.1 s.2) (fun t s => o.p ≤ s.1.p ∧ s.1.p ≤ o.p + 3 * t ∧ (s.2.length : Int) = t ∧ ∀ v ∈ s.2, vDr v) (fun f s h => ?_) (fun f t s h0 ht h ih => ?_) _ 0 (o, []) (by omega) (by omega) (by omega) ⟨by simp only; omega, by simp only; omega, by simp, by simp⟩
  · obtain ⟨g1, g2, g3, g4⟩ := h
    rw [m_spec_l20Fit_l1, show decide ((cs.length : Int) < cs.length) = false by simp, cond_false]; unfold m_spec_l20Fit_j1 m_spec_l20Fit_j2; refine Tot.bind (T_odd (by omega) hn) (fun q hq => Tot.bif (fun _ => ?_) (fun _ => Tot.ret ⟨⟨by simp only; omega, g4⟩, by simp only; omega, by simp only; omega⟩)); refine Tot.bind (T_pick (by omega)) (fun u hu => Tot.bif (fun _ => ?_) (fun _ => Tot.bif (fun _ => ?_) (fun _ => ?_)))
    · refine Tot.app (by simp only [List.length_cons, List.length_nil]; omega) (Tot.ret ⟨⟨by first | (simp; done) | (simp; omega), ?_⟩, by simp only; omega, by simp only; omega⟩)
      intro c hc; simp only [List.mem_append, List.mem_cons, List.mem_nil_iff, or_false] at hc; rcases hc with hc | rfl
      · exact g4 c hc
      · exact ⟨by first | decide | omega | (simp only; omega), by first | decide | omega | (simp only; omega), by first | decide | omega | (simp only; omega), by first | decide | omega | (simp only; omega), by first | decide | omega | (simp only; omega)⟩
    · refine Tot.bif (fun h3 => ?_) (fun _ => Tot.ret ⟨⟨by simp only; omega, g4⟩, by simp only; omega, by simp only; omega⟩)
      simp only [gt_iff_lt, decide_eq_true_eq] at h3; refine Tot.bind (T_pick (by omega)) (fun x hx => Tot.bind (T_l20Value (by omega) (by omega)) (fun y hy => Tot.at (by omega) (by omega) (fun _ _ => Tot.at (by omega) (by omega) (fun _ _ => Tot.lt (Tot.ret ⟨⟨by first | (simp; done) | (simp; omega), ?_⟩, by simp only; omega, by simp only; omega⟩))))); intro c hc; rcases List.mem_or_eq_of_mem_set hc with hc | rfl
      · exact g4 c hc
      · exact hy.1
    · refine Tot.bind (T_l20Value (by omega) (by omega)) (fun x hx => Tot.bind (T_l20Value (by omega) (by omega)) (fun y hy => Tot.bind (T_l20Value (by omega) (by omega)) (fun z hz => Tot.app (by simp only [List.length_cons, List.length_nil]; omega) (Tot.ret ⟨⟨by first | (simp; done) | (simp; omega), ?_⟩, by simp only; omega, by simp only; omega⟩))))
      intro c hc; simp only [List.mem_append, List.mem_cons, List.mem_nil_iff, or_false] at hc; rcases hc with hc | rfl | rfl | rfl
      · exact g4 c hc
      · exact hx.1
      · exact hy.1
      · exact hz.1
  · obtain ⟨g1, g2, g3, g4⟩ := h
    rw [m_spec_l20Fit_l1, decide_eq_true ht, cond_true]; refine Tot.at h0 ht (fun c hc => Tot.bind (T_l20Like (by omega)) (fun x hx => Tot.app (by simp only [List.length_cons, List.length_nil]; omega) (Tot.ck (by omega) (by omega) ?_))); refine ih (x.2, s.2 ++ [x.1]) ⟨by simp only; omega, by simp only; omega, by first | (simp; done) | (simp; omega), ?_⟩; intro c hc; simp only [List.mem_append, List.mem_cons, List.mem_nil_iff, or_false] at hc; rcases hc with hc | rfl
    · exact g4 c hc
    · exact hx.1
theorem rDr_sm {r : Row} (h : rDr r) : rSm r := ⟨by have := h.1; omega, fun v hv => by have := (h.2 v hv).1; unfold vSm; omega⟩
theorem T_l20Open {l : List UInt8} : Tot (m_spec_l20Open l) fun r => r.p = 0 := by
  unfold m_spec_l20Open m_spec_l20Open_j1; refine Tot.bif (fun h => ?_) (fun _ => Tot.ret rfl); simp only [gt_iff_lt, decide_eq_true_eq] at h; exact Tot.cut (by omega) (Tot.ret rfl)
structure TO {α : Type} (p : α → α → Int) : Prop where
  eq0 : ∀ a b, p a b = 0 ↔ a = b
  anti : ∀ a b, p a b < 0 ↔ 0 < p b a
  trans : ∀ a b c, p a b < 0 → p b c < 0 → p a c < 0
theorem TO.le_trans {α : Type} {p : α → α → Int} (h : TO p) {a b c : α} (h1 : p a b ≤ 0) (h2 : p b c ≤ 0) : p a c ≤ 0 := by
  rcases Int.lt_or_eq_of_le h1 with h1 | h1
  · rcases Int.lt_or_eq_of_le h2 with h2 | h2
    · exact Int.le_of_lt (h.trans _ _ _ h1 h2)
    · rw [← (h.eq0 _ _).1 h2]; omega
  · rw [(h.eq0 _ _).1 h1]; exact h2
theorem TO.total {α : Type} {p : α → α → Int} (h : TO p) (a b : α) : 0 < p a b ↔ p b a < 0 := (h.anti b a).symm
theorem L_slices_Clip_Lbyte_byte_o {l : List UInt8} : m_slices_Clip_Lbyte_byte_o l = some l := rfl
theorem L_slices_Equal_Lbyte_byte {a b : List UInt8} (ha : a.length ≤ 900000000) : m_slices_Equal_Lbyte_byte a b = some (decide (a = b)) := by
  unfold m_slices_Equal_Lbyte_byte
  by_cases hl : a.length = b.length
  · have : ((a.length : Int) != (b.length : Int)) = false := by simp [hl]
    rw [this, cond_false]; rw [← all2_eq hl]
    exact scan2 (q := fun x y => decide (x = y)) a b hl (fun n k => m_slices_Equal_Lbyte_byte_l1 n a b (a.length : Int) k) (fun n k x y hx hy => by
      have := lt_of_at hx; rw [m_slices_Equal_Lbyte_byte_l1, dlt this, cond_true]; simp only [at_of hx, at_of hy, ck1 (show k < 1000000000000 by omega), Option.bind_some]
      have e : ((x.toNat : Int) != (y.toNat : Int)) = !decide (x = y) := by
        by_cases h : x = y
        · subst h; simp
        · have : (x.toNat : Int) ≠ (y.toNat : Int) := fun e => h (UInt8.toNat_inj.1 (by omega))
          simp [h, this]
      rw [e]; cases decide (x = y) <;> rfl) (fun n => by rw [m_slices_Equal_Lbyte_byte_l1, dnlt]; rfl) _ fuel0
  · have : ((a.length : Int) != (b.length : Int)) = true := by simp; omega
    rw [this, cond_true]
    congr 1
    symm
    rw [decide_eq_false_iff_not]; exact fun h => hl (congrArg _ h)
theorem L_slices_Clip_Limpl_Write_impl_Write_o {l : List S_impl_Write} : m_slices_Clip_Limpl_Write_impl_Write_o l = some l := rfl
theorem L_slices_Clip_Limpl_Entry_impl_Entry_o {l : List S_impl_Entry} : m_slices_Clip_Limpl_Entry_impl_Entry_o l = some l := rfl
def total (left : List Rows) : Nat := left.flatten.length
abbrev Ver := S_impl_Version
abbrev Wr := S_impl_Write
def keyB (n : Int) : Bool := decide (0 ≤ n) && decide (n ≤ 4)
def vb (v : Ver) : Bool := keyB v.Key && ((decide (1 ≤ v.Born) && decide (v.Born ≤ 40)) && ((decide (v.Died = 0) || (decide (v.Born + 1 ≤ v.Died) && decide (v.Died ≤ 40))) && rowOk v.Row))
def vbad (w v : Ver) : Bool := decide (w.Key > v.Key) || (decide (w.Key = v.Key) && (decide (w.Died = 0) || decide (w.Died > v.Born)))
theorem E_keyOk (n : Int) : m_impl_keyOk n = some (keyB n) := by unfold m_impl_keyOk; rw [E_between, Option.bind_some]; rfl
theorem nat01 : ((0 : Nat) : Int) + 1 = 1 := rfl
theorem natS {k : Nat} : ((k : Nat) : Int) + 1 = ((k + 1 : Nat) : Int) := by omega
theorem neF {a b : Int} (h : a = b) : (a != b) = false := by simp [h]
theorem vb_nums {v : Ver} (h : vb v = true) : 0 ≤ v.Key ∧ v.Key ≤ 4 ∧ 1 ≤ v.Born ∧ v.Born ≤ 40 ∧ (v.Died = 0 ∨ (v.Born + 1 ≤ v.Died ∧ v.Died ≤ 40)) ∧ rowOk v.Row = true := by
  unfold vb keyB at h; simp only [Bool.and_eq_true, Bool.or_eq_true, decide_eq_true_eq] at h; exact ⟨h.1.1, h.1.2, h.2.1.1, h.2.1.2, h.2.2.1, h.2.2.2⟩
def wb (w : Wr) : Bool := keyB w.Key && (rowOk w.Row && !(w.Gone && decide ((w.Row.length : Int) > 0)))
def wbad (x w : Wr) : Bool := decide (x.Key ≥ w.Key)
def wOk (l : List Wr) : Bool := l.all wb && adjB wbad l
theorem adj_len {l : List Wr} (h : wOk l = true) : l.length ≤ 5 := by
  unfold wOk at h; rw [Bool.and_eq_true, adjB_iff] at h; obtain ⟨h1, h2⟩ := h
  have key : ∀ (k : Nat) (x : Wr), l[k]? = some x → (k : Int) ≤ x.Key := by
    intro k
    induction k with
    | zero =>
      intro x hx; have := List.all_eq_true.1 h1 x (List.mem_of_getElem? hx); unfold wb keyB at this; simp only [Bool.and_eq_true, decide_eq_true_eq] at this; omega
    | succ k ih =>
      intro x hx; have hlt := lt_of_at hx; have hy : l[k]? = some l[k] := List.getElem?_eq_getElem (by omega); have := h2 k _ _ hy hx; unfold wbad at this; rw [decide_eq_false_iff_not] at this; have := ih _ hy; omega
  rcases Nat.lt_or_ge 5 l.length with h5 | h5
  · have hx : l[5]? = some l[5] := List.getElem?_eq_getElem h5
    have a := key 5 _ hx; have := List.all_eq_true.1 h1 _ (List.mem_of_getElem? hx); unfold wb keyB at this; simp only [Bool.and_eq_true, decide_eq_true_eq] at this; omega
  · exact h5
theorem E_impl_WritesOk {l : List Wr} (hl : l.length ≤ 3000000) (hr : ∀ v ∈ l, rSm v.Row) : m_impl_WritesOk l = some (wOk l) := by
  have main : m_impl_WritesOk l = some (l.all wb && adjB wbad l && decide ((l.length : Int) ≤ 5)) := by
    unfold m_impl_WritesOk
    have head : ∀ n (k : Nat) x (c : Bool) (hc : (bif decide ((k : Int) > 0) then ((ckI ((k : Int) - 1)).bind fun x21 => (at? l x21).bind fun x22 => m_impl_WritesOk_j1 (m_impl_WritesOk_l1 n) l l (l.length : Int) (k : Int) (decide (x22.Key ≥ x.Key))) else (m_impl_WritesOk_j1 (m_impl_WritesOk_l1 n) l l (l.length : Int) (k : Int) false)) = m_impl_WritesOk_j1 (m_impl_WritesOk_l1 n) l l (l.length : Int) (k : Int) c), l[k]? = some x → m_impl_WritesOk_l1 (n + 1) l l (l.length : Int) (k : Int) = m_impl_WritesOk_j1 (m_impl_WritesOk_l1 n) l l (l.length : Int) (k : Int) (!(wb x) || c) := by
      intro n k x c hc hx; have hlt := lt_of_at hx; rw [m_impl_WritesOk_l1, dlt hlt, cond_true, at_of hx, Option.bind_some, ltE, E_keyOk, Option.bind_some]; unfold wb; cases keyB x.Key with
      | false => rw [Bool.not_false, cond_true, Bool.false_and, Bool.not_false, Bool.true_or]
      | true =>
        rw [Bool.not_true, cond_false, E_impl_RowOk (hr x (List.mem_of_getElem? hx)), Option.bind_some, Bool.true_and]; cases rowOk x.Row with
        | false => rw [Bool.not_false, cond_true, Bool.false_and, Bool.not_false, Bool.true_or]
        | true =>
          rw [Bool.not_true, cond_false, Bool.true_and, Bool.not_not]; cases x.Gone with
          | true =>
            rw [cond_true, Bool.true_and]
            by_cases h : (x.Row.length : Int) > 0
            · rw [decide_eq_true h, cond_true, Bool.true_or]
            · rw [decide_eq_false h, cond_false, Bool.false_or]; exact hc
          | false => rw [cond_false, Bool.false_and, Bool.false_or]; exact hc
    refine scanPrev (p := wb) (bad := wbad) l (fun n k => m_impl_WritesOk_l1 n l l (l.length : Int) k) (fun n x hx => ?_) (fun n k x y hx hy hp => ?_) (fun n => ?_) _ fuel0
    · show m_impl_WritesOk_l1 (n + 1) l l (l.length : Int) ((0 : Nat) : Int) = _
      rw [head n 0 x false (by rw [dgt00, cond_false]) hx]; unfold m_impl_WritesOk_j1; cases wb x with
      | false => simp only [cond_true, cond_false, Bool.not_true, Bool.not_false, Bool.not_not, Bool.true_and, Bool.false_and, Bool.and_true, Bool.and_false, Bool.true_or, Bool.false_or, Bool.or_true, Bool.or_false]
      | true => simp only [cond_true, cond_false, Bool.not_true, Bool.not_false, Bool.not_not, Bool.true_and, Bool.false_and, Bool.and_true, Bool.and_false, Bool.true_or, Bool.false_or, Bool.or_true, Bool.or_false]; rw [ck1 (by omega), Option.bind_some, nat01]
    · have hlt := lt_of_at hx
      rw [head n (k + 1) x (wbad y x) (by rw [dgt0, cond_true, ckdd (by omega), Option.bind_some, at_of hy, Option.bind_some, wbad]) hx]; unfold m_impl_WritesOk_j1; cases wb x with
      | false => simp only [cond_true, cond_false, Bool.not_true, Bool.not_false, Bool.not_not, Bool.true_and, Bool.false_and, Bool.and_true, Bool.and_false, Bool.true_or, Bool.false_or, Bool.or_true, Bool.or_false]
      | true =>
        rw [Bool.not_true, Bool.false_or, Bool.true_and]; cases wbad y x with
        | true => simp only [cond_true, cond_false, Bool.not_true, Bool.not_false, Bool.not_not, Bool.true_and, Bool.false_and, Bool.and_true, Bool.and_false, Bool.true_or, Bool.false_or, Bool.or_true, Bool.or_false]
        | false => rw [cond_false, ck1 (by omega), Option.bind_some, natS]; simp only [cond_true, cond_false, Bool.not_true, Bool.not_false, Bool.not_not, Bool.true_and, Bool.false_and, Bool.and_true, Bool.and_false, Bool.true_or, Bool.false_or, Bool.or_true, Bool.or_false]
    · rw [m_impl_WritesOk_l1, dnlt, cond_false, m_impl_WritesOk_j2]
  rw [main]
  congr 1
  cases h : wOk l with
  | false => unfold wOk at h; rw [h]; rfl
  | true =>
    have := adj_len h; unfold wOk at h; rw [h, decide_eq_true (by omega)]; rfl
theorem E_spec_WritesOk {l : List Wr} (hl : l.length ≤ 3000000) (hr : ∀ v ∈ l, rSm v.Row) : m_spec_WritesOk l = some (wOk l) := by
  have main : m_spec_WritesOk l = some (l.all wb && adjB wbad l && true) := by
    unfold m_spec_WritesOk
    have head : ∀ n (k : Nat) x (c : Bool) (hc : (bif decide ((k : Int) > 0) then ((ckI ((k : Int) - 1)).bind fun x21 => (at? l x21).bind fun x22 => m_spec_WritesOk_j1 (m_spec_WritesOk_l1 n) l (k : Int) (decide (x22.Key ≥ x.Key))) else (m_spec_WritesOk_j1 (m_spec_WritesOk_l1 n) l (k : Int) false)) = m_spec_WritesOk_j1 (m_spec_WritesOk_l1 n) l (k : Int) c), l[k]? = some x → m_spec_WritesOk_l1 (n + 1) l (k : Int) = m_spec_WritesOk_j1 (m_spec_WritesOk_l1 n) l (k : Int) (!(wb x) || c) := by
      intro n k x c hc hx; have hlt := lt_of_at hx; rw [m_spec_WritesOk_l1, dlt hlt, cond_true, at_of hx, Option.bind_some, ltE, E_l1In, Option.bind_some]; show (bif !(keyB x.Key) then _ else _) = _; unfold wb; cases keyB x.Key with
      | false => rw [Bool.not_false, cond_true, Bool.false_and, Bool.not_false, Bool.true_or]
      | true =>
        rw [Bool.not_true, cond_false, E_spec_RowOk (hr x (List.mem_of_getElem? hx)), Option.bind_some, Bool.true_and]; cases rowOk x.Row with
        | false => rw [Bool.not_false, cond_true, Bool.false_and, Bool.not_false, Bool.true_or]
        | true =>
          rw [Bool.not_true, cond_false, Bool.true_and, Bool.not_not]; cases x.Gone with
          | true =>
            rw [cond_true, Bool.true_and]
            by_cases h : (x.Row.length : Int) > 0
            · rw [decide_eq_true h, cond_true, Bool.true_or]
            · rw [decide_eq_false h, cond_false, Bool.false_or]; exact hc
          | false => rw [cond_false, Bool.false_and, Bool.false_or]; exact hc
    refine scanPrev (p := wb) (bad := wbad) l (fun n k => m_spec_WritesOk_l1 n l k) (fun n x hx => ?_) (fun n k x y hx hy hp => ?_) (fun n => ?_) _ fuel0
    · show m_spec_WritesOk_l1 (n + 1) l ((0 : Nat) : Int) = _
      rw [head n 0 x false (by rw [dgt00, cond_false]) hx]; unfold m_spec_WritesOk_j1; cases wb x with
      | false => simp only [cond_true, cond_false, Bool.not_true, Bool.not_false, Bool.not_not, Bool.true_and, Bool.false_and, Bool.and_true, Bool.and_false, Bool.true_or, Bool.false_or, Bool.or_true, Bool.or_false]
      | true => simp only [cond_true, cond_false, Bool.not_true, Bool.not_false, Bool.not_not, Bool.true_and, Bool.false_and, Bool.and_true, Bool.and_false, Bool.true_or, Bool.false_or, Bool.or_true, Bool.or_false]; rw [ck1 (by omega), Option.bind_some, nat01]
    · have hlt := lt_of_at hx
      rw [head n (k + 1) x (wbad y x) (by rw [dgt0, cond_true, ckdd (by omega), Option.bind_some, at_of hy, Option.bind_some, wbad]) hx]; unfold m_spec_WritesOk_j1; cases wb x with
      | false => simp only [cond_true, cond_false, Bool.not_true, Bool.not_false, Bool.not_not, Bool.true_and, Bool.false_and, Bool.and_true, Bool.and_false, Bool.true_or, Bool.false_or, Bool.or_true, Bool.or_false]
      | true =>
        rw [Bool.not_true, Bool.false_or, Bool.true_and]; cases wbad y x with
        | true => simp only [cond_true, cond_false, Bool.not_true, Bool.not_false, Bool.not_not, Bool.true_and, Bool.false_and, Bool.and_true, Bool.and_false, Bool.true_or, Bool.false_or, Bool.or_true, Bool.or_false]
        | false => rw [cond_false, ck1 (by omega), Option.bind_some, natS]; simp only [cond_true, cond_false, Bool.not_true, Bool.not_false, Bool.not_not, Bool.true_and, Bool.false_and, Bool.and_true, Bool.and_false, Bool.true_or, Bool.false_or, Bool.or_true, Bool.or_false]
    · rw [m_spec_WritesOk_l1, dnlt, cond_false, m_spec_WritesOk_j2]
  rw [main, Bool.and_true]; rfl
theorem E_writesCopy {l : List Wr} (hl : l.length ≤ 3000000) (hr : ∀ v ∈ l, v.Row.length ≤ 3000000) : m_impl_writesCopy l = some l := by
  unfold m_impl_writesCopy
  have := scanM (f := fun v : Wr => v) (J := fun o => m_impl_writesCopy_j1 o) l (fun n k o => m_impl_writesCopy_l1 n l (l.length : Int) k o) (fun n k x o hx ho => by
    have hlt := lt_of_at hx; rw [m_impl_writesCopy_l1, dlt hlt, cond_true, at_of hx, Option.bind_some, ltE, E_clone (Nat.le_trans (hr x (List.mem_of_getElem? hx)) (by decide)), Option.bind_some, ltE, app_of (by simp; omega), Option.bind_some, ck1 (by omega), Option.bind_some]) (fun n o ho => by
    rw [m_impl_writesCopy_l1, dnlt, cond_false]) _ fuel0
  rw [this, List.map_id']; unfold m_impl_writesCopy_j1; rw [L_slices_Clip_Limpl_Write_impl_Write_o, Option.bind_some]
theorem E_sameWrites {a b : List Wr} (ha : a.length ≤ 3000000) (hr : ∀ v ∈ a, v.Row.length ≤ 3000000) : m_laws_sameWrites a b = some (decide (a = b)) := by
  unfold m_laws_sameWrites
  by_cases h : a.length = b.length
  · rw [lenEq h, cond_false]
    refine scanEq h (fun n k => m_laws_sameWrites_l1 n a b k) (fun n k x y hx hy => ?_) (fun n => by rw [m_laws_sameWrites_l1, dnlt, cond_false, m_laws_sameWrites_j2]) _ fuel0; have hlt := lt_of_at hx; have stop : m_laws_sameWrites_j1 (m_laws_sameWrites_l1 n) a b (k : Int) true = some false := by unfold m_laws_sameWrites_j1; rw [cond_true]
    have next : m_laws_sameWrites_j1 (m_laws_sameWrites_l1 n) a b (k : Int) false = m_laws_sameWrites_l1 n a b ((k : Int) + 1) := by unfold m_laws_sameWrites_j1; rw [cond_false, ck1 (by omega), Option.bind_some]
    rw [m_laws_sameWrites_l1, dlt hlt, cond_true, at_of hx, Option.bind_some, at_of hy, Option.bind_some]
    by_cases h1 : x.Key = y.Key
    · rw [neF h1, cond_false, Option.bind_some, Option.bind_some]
      by_cases h2 : x.Gone = y.Gone
      · rw [show (x.Gone != y.Gone) = false by simp [h2], cond_false, Option.bind_some, Option.bind_some, E_sameRow (Nat.le_trans (hr x (List.mem_of_getElem? hx)) (by decide)), Option.bind_some]
        by_cases h4 : x.Row = y.Row
        · have : x = y := by cases x; cases y; simp_all
          rw [decide_eq_true h4, Bool.not_true, next, decide_eq_true this, cond_true]
        · rw [decide_eq_false h4, Bool.not_false, stop, decide_eq_false (fun e => h4 (by rw [e])), cond_false]
      · rw [show (x.Gone != y.Gone) = true by simp [h2], cond_true, stop, decide_eq_false (fun e => h2 (by rw [e])), cond_false]
    · rw [beqF' h1, cond_true, stop, decide_eq_false (fun e => h1 (by rw [e])), cond_false]
  · rw [(lenNe h).1, cond_true, (lenNe h).2]
def endV (k t : Int) (v : Ver) : Ver := if v.Key = k ∧ v.Died = 0 then { v with Died := t } else v
def newV (w : Wr) (t : Int) : Ver := ⟨w.Key, t, 0, w.Row⟩
def insW (w : Wr) (t : Int) : List Ver → List Ver
  | [] => [newV w t]
  | v :: l => if v.Key > w.Key then newV w t :: endV w.Key t v :: l.map (endV w.Key t) else endV w.Key t v :: insW w t l
def put1 (l : List Ver) (w : Wr) (t : Int) : List Ver := if w.Gone then l.map (endV w.Key t) else insW w t l
def step1 (o : List Ver) (w : Wr) (t : Int) : List Ver := if w.Gone then o.map (endV w.Key t) else o.map (endV w.Key t) ++ [newV w t]
theorem endV_row (k t : Int) (v : Ver) : (endV k t v).Row = v.Row ∧ (endV k t v).Key = v.Key ∧ (endV k t v).Born = v.Born := by unfold endV; split <;> exact ⟨rfl, rfl, rfl⟩
theorem insW_perm (w : Wr) (t : Int) : ∀ l : List Ver, (insW w t l).Perm (l.map (endV w.Key t) ++ [newV w t])
  | [] => .refl _
  | v :: l => by
    rw [insW]
    split
    · exact (List.perm_append_comm (l₁ := [newV w t]) (l₂ := endV w.Key t v :: l.map (endV w.Key t)))
    · exact (insW_perm w t l).cons _
theorem put1_perm (l : List Ver) (w : Wr) (t : Int) : (put1 l w t).Perm (step1 l w t) := by
  unfold put1 step1; split
  · exact .refl _
  · exact insW_perm w t l
theorem vbad_iff {x y : Ver} : vbad x y = false ↔ x.Key < y.Key ∨ (x.Key = y.Key ∧ x.Died ≠ 0 ∧ x.Died ≤ y.Born) := by
  unfold vbad; simp only [Bool.or_eq_false_iff, Bool.and_eq_false_iff, decide_eq_false_iff_not]; omega
structure VInv (o : List Ver) : Prop where
  vb : ∀ v ∈ o, vb v = true
  ord : OrdB vbad o
def turnsB4 (o : List Ver) (w : Wr) (t : Int) : Prop := ∀ v ∈ o, v.Key = w.Key → v.Born < t ∧ v.Died ≤ t
theorem endV_bad {k t : Int} {x y : Ver} (h : vbad x y = false) : vbad (endV k t x) (endV k t y) = false := by
  obtain ⟨_, a1, a2⟩ := endV_row k t x; obtain ⟨_, b1, b2⟩ := endV_row k t y; rw [vbad_iff] at *; rw [a1, b1, b2]; rcases h with h | ⟨h1, h2, h3⟩
  · exact .inl h
  · refine .inr ⟨h1, ?_⟩
    have : endV k t x = x := by unfold endV; rw [if_neg (fun h => h2 h.2)]
    rw [this]; exact ⟨h2, h3⟩
theorem map_end_ord {k t : Int} {o : List Ver} (h : OrdB vbad o) : OrdB vbad (o.map (endV k t)) := by
  unfold OrdB at *; rw [List.pairwise_map]; exact h.imp fun h => endV_bad h
theorem insW_mem {w : Wr} {t : Int} {l : List Ver} {u : Ver} : u ∈ insW w t l ↔ (∃ v ∈ l, u = endV w.Key t v) ∨ u = newV w t := by
  rw [(insW_perm w t l).mem_iff, List.mem_append, List.mem_map, List.mem_singleton]; constructor
  · rintro (⟨v, h1, h2⟩ | h)
    · exact .inl ⟨v, h1, h2.symm⟩
    · exact .inr h
  · rintro (⟨v, h1, h2⟩ | h)
    · exact .inl ⟨v, h1, h2.symm⟩
    · exact .inr h
theorem insW_ord {w : Wr} {t : Int} (ht : 1 ≤ t) : ∀ {o : List Ver}, OrdB vbad o → turnsB4 o w t → OrdB vbad (insW w t o)
  | [], _, _ => List.pairwise_singleton _ _
  | v :: l, h, hb => by
    obtain ⟨h1, h2⟩ := List.pairwise_cons.1 h; have hm := map_end_ord (k := w.Key) (t := t) h; rw [insW]
    by_cases hk : v.Key > w.Key
    · rw [if_pos hk]
      refine List.pairwise_cons.2 ⟨?_, hm⟩; intro u hu; have hu' : u ∈ (v :: l).map (endV w.Key t) := hu; obtain ⟨x, hx, rfl⟩ := List.mem_map.1 hu'; rw [vbad_iff, (endV_row w.Key t x).2.1]; left; show w.Key < x.Key; rcases List.mem_cons.1 hx with rfl | hx
      · omega
      · have := vbad_iff.1 (h1 x hx); omega
    · rw [if_neg hk]
      refine List.pairwise_cons.2 ⟨?_, insW_ord ht h2 (fun u hu hk => hb u (by simp [hu]) hk)⟩; intro u hu; rcases insW_mem.1 hu with ⟨x, hx, rfl⟩ | rfl
      · exact endV_bad (h1 x hx)
      · rw [vbad_iff, (endV_row w.Key t v).2.1]
        rcases Int.lt_or_eq_of_le (show v.Key ≤ w.Key by omega) with h3 | h3
        · exact .inl h3
        · obtain ⟨b1, b2⟩ := hb v (by simp) h3
          refine .inr ⟨h3, ?_⟩; unfold endV newV
          by_cases hd : v.Died = 0
          · rw [if_pos ⟨h3, hd⟩]; exact ⟨show t ≠ 0 by omega, show t ≤ t by omega⟩
          · rw [if_neg (fun h => hd h.2)]; exact ⟨hd, b2⟩
theorem endV_vb {k t : Int} {v : Ver} (h : vb v = true) (hb : v.Key = k → v.Born < t ∧ v.Died ≤ t) (ht : 1 ≤ t ∧ t ≤ 40) : vb (endV k t v) = true := by
  unfold endV
  split
  · rename_i hc
    have hn := vb_nums h; have := hb hc.1; unfold vb keyB; simp only [Bool.and_eq_true, Bool.or_eq_true, decide_eq_true_eq]; exact ⟨⟨hn.1, hn.2.1⟩, ⟨hn.2.2.1, hn.2.2.2.1⟩, .inr ⟨by omega, ht.2⟩, hn.2.2.2.2.2⟩
  · exact h
theorem wb_nums {w : Wr} (h : wb w = true) : 0 ≤ w.Key ∧ w.Key ≤ 4 ∧ rowOk w.Row = true ∧ (w.Gone = true → w.Row = []) := by
  unfold wb keyB at h; simp only [Bool.and_eq_true, decide_eq_true_eq, Bool.not_eq_true', Bool.and_eq_false_iff, decide_eq_false_iff_not] at h; refine ⟨h.1.1, h.1.2, h.2.1, fun hg => ?_⟩; rcases h.2.2 with h3 | h3
  · rw [hg] at h3; cases h3
  · exact List.length_eq_zero_iff.1 (by omega)
theorem put1_inv {o : List Ver} {w : Wr} {t : Int} (h : VInv o) (hw : wb w = true) (ht : 1 ≤ t ∧ t ≤ 40) (hb : turnsB4 o w t) : VInv (put1 o w t) := by
  have hwn := wb_nums hw; constructor
  · intro u hu
    have hu := (put1_perm o w t).mem_iff.1 hu; unfold step1 at hu
    have key : ∀ u ∈ o.map (endV w.Key t), vb u = true := by
      intro u hu; obtain ⟨v, hv, rfl⟩ := List.mem_map.1 hu; exact endV_vb (h.vb v hv) (hb v hv) ht
    split at hu
    · exact key u hu
    · rcases List.mem_append.1 hu with hu | hu
      · exact key u hu
      · rw [List.mem_singleton.1 hu]
        unfold vb keyB newV; simp only [Bool.and_eq_true, Bool.or_eq_true, decide_eq_true_eq]; exact ⟨⟨hwn.1, hwn.2.1⟩, ht, .inl trivial, hwn.2.2.1⟩
  · unfold put1
    split
    · exact map_end_ord h.ord
    · exact insW_ord ht.1 h.ord hb
theorem put1_turns {o : List Ver} {w w' : Wr} {t : Int} (hk : w.Key ≠ w'.Key) (hb : turnsB4 o w' t) : turnsB4 (put1 o w t) w' t := by
  intro u hu hk'; have hu := (put1_perm o w t).mem_iff.1 hu; unfold step1 at hu
  have key : ∀ u ∈ o.map (endV w.Key t), u.Key = w'.Key → u.Born < t ∧ u.Died ≤ t := by
    intro u hu hk'; obtain ⟨v, hv, rfl⟩ := List.mem_map.1 hu; have hvk : v.Key = w'.Key := by rw [← hk', (endV_row _ _ _).2.1]
    have : endV w.Key t v = v := by unfold endV; rw [if_neg (fun h => hk (by rw [← hvk, h.1]))]
    rw [this]; exact hb v hv hvk
  split at hu
  · exact key u hu hk'
  · rcases List.mem_append.1 hu with hu | hu
    · exact key u hu hk'
    · rw [List.mem_singleton.1 hu] at hk'; exact absurd hk' hk
structure WInv (o : List Ver) (ws : List Wr) (t : Int) : Prop where
  inv : VInv o
  wb : ∀ w ∈ ws, wb w = true
  keys : ws.Pairwise fun x y => x.Key < y.Key
  time : 1 ≤ t ∧ t ≤ 40
  turns : ∀ w ∈ ws, turnsB4 o w t
theorem WInv.next {o : List Ver} {w : Wr} {ws : List Wr} {t : Int} (h : WInv o (w :: ws) t) : WInv (put1 o w t) ws t where
  inv := put1_inv h.inv (h.wb w (by simp)) h.time (h.turns w (by simp))
  wb := fun u hu => h.wb u (by simp [hu])
  keys := (List.pairwise_cons.1 h.keys).2
  time := h.time
  turns := fun u hu => put1_turns (by have := (List.pairwise_cons.1 h.keys).1 u hu; omega) (h.turns u (by simp [hu]))
theorem wOk_inv {ws : List Wr} : wOk ws = true ↔ (∀ w ∈ ws, wb w = true) ∧ ws.Pairwise fun x y => x.Key < y.Key := by
  unfold wOk; rw [Bool.and_eq_true, adjB_iff, List.all_eq_true]
  have e : OrdB wbad ws ↔ ws.Pairwise fun x y => x.Key < y.Key := by
    unfold OrdB wbad; constructor
    · intro h; exact h.imp fun h => by rw [decide_eq_false_iff_not] at h; omega
    · intro h; exact h.imp fun h => by rw [decide_eq_false_iff_not]; omega
  constructor
  · rintro ⟨h1, h2⟩
    exact ⟨h1, e.1 (h2.ord fun x y z h3 h4 => by unfold wbad at *; rw [decide_eq_false_iff_not] at *; omega)⟩
  · rintro ⟨h1, h2⟩
    exact ⟨h1, (e.2 h2).adj⟩
theorem odd_0 (o : Rd) : m_Pspec_l20Rd_odd o 0 = some (false, o) := by
  unfold m_Pspec_l20Rd_odd m_Pspec_l20Rd_odd_j1; rw [show decide ((0 : Int) > 0) = false from rfl, cond_false]
theorem T_l20Small {o : Rd} (ho : 0 ≤ o.p ∧ o.p ≤ 1000000000) : Tot (m_spec_l20Small o) fun r => (rowOk r.1 = true ∧ rDr r.1) ∧ o.p ≤ r.2.p ∧ r.2.p ≤ o.p + 1 := by
  unfold m_spec_l20Small; refine Tot.bind (T_pick ho) fun x hx => Tot.ret ⟨⟨?_, by show [_].length ≤ 9; simp, fun v hv => ?_⟩, by show o.p ≤ x.2.p; omega, by show x.2.p ≤ o.p + 1; omega⟩
  · unfold rowOk vOk
    simp; omega
  · have hv : v ∈ [(⟨1, x.1, ⟨#[]⟩⟩ : V)] := hv
    rw [List.mem_singleton.1 hv]; exact ⟨Nat.zero_le _, by show -10000 ≤ x.1; omega, by show x.1 ≤ 10000; omega, by show (-10 : Int) ≤ 1; omega, by show (1 : Int) ≤ 10; omega⟩
theorem T_l20Any {o : Rd} {n : Int} (ho : 0 ≤ o.p ∧ o.p ≤ 1000000000 - 2000) (hn : -3000000 ≤ n ∧ n ≤ 3000000) : Tot (m_spec_l20Any o n) fun r => rDr r.1 ∧ o.p ≤ r.2.p ∧ r.2.p ≤ o.p + 100 := by
  unfold m_spec_l20Any; refine Tot.bind (T_l20Columns (by omega) (by omega)) fun c hc => Tot.bind (T_l20Fit (by omega) (by omega) (by omega)) fun r hr => Tot.ret ⟨hr.1, by show o.p ≤ r.2.p; omega, by show r.2.p ≤ o.p + 100; omega⟩
def wsDr (ws : List Wr) : Prop := ws.length ≤ 6 ∧ ∀ w ∈ ws, rDr w.Row
theorem T_l20Writes {o : Rd} {n : Int} (ho : 0 ≤ o.p ∧ o.p ≤ 1000000000 - 10000) (hn : -3000000 ≤ n ∧ n ≤ 3000000) : Tot (m_spec_l20Writes o n) fun r => (wsDr r.1 ∧ (n = 0 → wOk r.1 = true)) ∧ o.p ≤ r.2.p ∧ r.2.p ≤ o.p + 200 := by
  unfold m_spec_l20Writes; refine Tot.up 5 (fun f t (s : Rd × List Wr) => m_spec_l20Writes_l1 f n t s.1 s.2) (fun t s => o.p ≤ s.1.p ∧ s.1.p ≤ o.p + 3 * t ∧ (s.2.length : Int) ≤ t ∧ (∀ w ∈ s.2, wb w = true ∧ w.Key < t ∧ rDr w.Row) ∧ s.2.Pairwise fun x y => x.Key < y.Key) (fun f s h => ?_) (fun f t s h0 ht h ih => ?_) _ 0 (o, []) (by omega) (by omega) (by decide) ⟨by show o.p ≤ o.p; omega, by show o.p ≤ o.p + 3 * 0; omega, by simp, by simp, List.Pairwise.nil⟩
  · obtain ⟨g1, g2, g3, g4, g5⟩ := h
    rw [m_spec_l20Writes_l1, decide_eq_false (by omega), cond_false]; unfold m_spec_l20Writes_j3 m_spec_l20Writes_j4; have ws : wsDr s.2 := ⟨by omega, fun w hw => (g4 w hw).2.2⟩
    have add : ∀ w : Wr, rDr w.Row → wsDr (s.2 ++ [w]) := fun w hw => ⟨by simp; omega, fun u hu => by
      rcases List.mem_append.1 hu with hu | hu
      · exact (g4 u hu).2.2
      · rw [List.mem_singleton.1 hu]; exact hw⟩
    rcases Int.lt_or_eq_of_le (show s.1.p ≤ o.p + 15 by omega) with hp | hp <;>
    · by_cases hn0 : n = 0
      · subst hn0
        rw [odd_0, Option.bind_some, cond_false]; exact Tot.ret ⟨⟨ws, fun _ => wOk_inv.2 ⟨fun w hw => (g4 w hw).1, g5⟩⟩, by show o.p ≤ s.1.p; omega, by show s.1.p ≤ o.p + 200; omega⟩
      · refine Tot.bind (T_odd (by omega) (by omega)) fun q hq => Tot.bif (fun _ => ?_) (fun _ => Tot.ret ⟨⟨ws, fun h => absurd h hn0⟩, by show o.p ≤ q.2.p; omega, by show q.2.p ≤ o.p + 200; omega⟩)
        refine Tot.bind (T_pick (by omega)) fun x hx => Tot.bif (fun _ => ?_) (fun _ => Tot.bif (fun _ => ?_) (fun _ => ?_))
        · exact Tot.bind (T_pick (by omega)) fun y hy => Tot.ck (by omega) (by omega) (Tot.app (by simp; omega) (Tot.ret ⟨⟨add _ ⟨by show ([] : Row).length ≤ 9; simp, by intro v hv; cases hv⟩, fun h => absurd h hn0⟩, by show o.p ≤ y.2.p; omega, by show y.2.p ≤ o.p + 200; omega⟩))
        · exact Tot.bind (T_l20Small (by omega)) fun y hy => Tot.app (by simp; omega) (Tot.ret ⟨⟨add _ hy.1.2, fun h => absurd h hn0⟩, by show o.p ≤ y.2.p; omega, by show y.2.p ≤ o.p + 200; omega⟩)
        · exact Tot.bind (T_l20Any (by omega) (by omega)) fun y hy => Tot.app (by simp; omega) (Tot.ret ⟨⟨add _ hy.1, fun h => absurd h hn0⟩, by show o.p ≤ y.2.p; omega, by show y.2.p ≤ o.p + 200; omega⟩)
  · obtain ⟨g1, g2, g3, g4, g5⟩ := h
    rw [m_spec_l20Writes_l1, decide_eq_true ht, cond_true]
    have put : ∀ (r : Rd) (w : Wr), s.1.p ≤ r.p → r.p ≤ s.1.p + 3 → w.Key = t → wb w = true → rDr w.Row → Tot (m_spec_l20Writes_j1 (m_spec_l20Writes_l1 f) n t r w s.2) fun r => (wsDr r.1 ∧ (n = 0 → wOk r.1 = true)) ∧ o.p ≤ r.2.p ∧ r.2.p ≤ o.p + 200 := by
      intro r w h1 h2 h3 h4 h5; unfold m_spec_l20Writes_j1 m_spec_l20Writes_j2; refine Tot.app (by simp; omega) (Tot.ck (by omega) (by omega) (ih (r, s.2 ++ [w]) ⟨by show o.p ≤ r.p; omega, by show r.p ≤ o.p + 3 * (t + 1); omega, by simp; omega, fun u hu => ?_, ?_⟩))
      · rcases List.mem_append.1 hu with hu | hu
        · obtain ⟨a, b, c⟩ := g4 u hu; exact ⟨a, by omega, c⟩
        · rw [List.mem_singleton.1 hu]; exact ⟨h4, by omega, h5⟩
      · refine List.pairwise_append.2 ⟨g5, List.pairwise_singleton _ _, fun x hx y hy => ?_⟩
        rw [List.mem_singleton.1 hy]; have := (g4 x hx).2.1; omega
    refine Tot.bind (T_pick (by omega)) fun x hx => Tot.bif (fun _ => Tot.lt ?_) (fun _ => ?_)
    · refine Tot.bind (T_pick (by omega)) fun y hy => Tot.bif (fun _ => Tot.lt ?_) (fun _ => ?_)
      · refine put y.2 _ (by omega) (by omega) rfl ?_ ⟨by show ([] : Row).length ≤ 9; simp, by intro v hv; cases hv⟩
        unfold wb keyB; simp [rowOk]; omega
      · refine Tot.bind (T_l20Small (by omega)) fun z hz => Tot.lt ?_
        refine put z.2 _ (by omega) (by omega) rfl ?_ hz.1.2; unfold wb keyB; simp [hz.1.1]; omega
    · unfold m_spec_l20Writes_j2
      exact Tot.ck (by omega) (by omega) (ih (x.2, s.2) ⟨by show o.p ≤ x.2.p; omega, by show x.2.p ≤ o.p + 3 * (t + 1); omega, by show (s.2.length : Int) ≤ t + 1; omega, fun u hu => by obtain ⟨a, b, c⟩ := g4 u hu; exact ⟨a, by omega, c⟩, g5⟩)
theorem wsDr_sm {l : List Wr} (h : wsDr l) : l.length ≤ 6 ∧ ∀ v ∈ l, rSm v.Row := ⟨h.1, fun v hv => rDr_sm (h.2 v hv)⟩
abbrev En := S_impl_Entry
def eb (e : En) : Bool := (decide (1 ≤ e.Time) && decide (e.Time ≤ 40)) && wOk e.Writes
def ebad (x y : En) : Bool := decide (x.Time ≥ y.Time)
def logOk (l : List En) : Bool := l.all eb && adjB ebad l && decide ((l.length : Int) ≤ 12)
def wsSm (ws : List Wr) : Prop := ws.length ≤ 1100000 ∧ ∀ w ∈ ws, rSm w.Row
def enSm (l : List En) : Prop := l.length ≤ 1100000 ∧ ∀ e ∈ l, wsSm e.Writes
theorem E_impl_LogOk {l : List En} (h : enSm l) : m_impl_LogOk l = some (logOk l) := by
  unfold m_impl_LogOk logOk; obtain ⟨hl, hr⟩ := h; have stop : ∀ n (k : Int), m_impl_LogOk_j1 (m_impl_LogOk_l1 n) l l (l.length : Int) k true = some false := fun n k => by unfold m_impl_LogOk_j1; rw [cond_true]
  have next : ∀ n (k : Nat), k < l.length → m_impl_LogOk_j1 (m_impl_LogOk_l1 n) l l (l.length : Int) (k : Int) false = m_impl_LogOk_l1 n l l (l.length : Int) ((k + 1 : Nat) : Int) := fun n k hk => by unfold m_impl_LogOk_j1; rw [cond_false, ck1 (by omega), Option.bind_some, natS]
  refine scanPrev (p := eb) (bad := ebad) l (fun n k => m_impl_LogOk_l1 n l l (l.length : Int) k) (fun n x hx => ?_) (fun n k x y hx hy hp => ?_) (fun n => ?_) _ fuel0
  · have hlt := lt_of_at hx
    have hw := hr x (List.mem_of_getElem? hx); show m_impl_LogOk_l1 (n + 1) l l (l.length : Int) ((0 : Nat) : Int) = _; rw [m_impl_LogOk_l1, dlt hlt, cond_true, at_of hx, Option.bind_some, ltE, E_between, Option.bind_some]; unfold eb; cases (decide (1 ≤ x.Time) && decide (x.Time ≤ 40)) with
    | false => rw [Bool.not_false, cond_true, stop, Bool.false_and, cond_false]
    | true =>
      rw [Bool.not_true, cond_false, dgt00, cond_false, E_impl_WritesOk (by have := hw.1; omega) hw.2, Option.bind_some, Bool.true_and]; cases wOk x.Writes with
      | false => rw [Bool.not_false, stop, cond_false]
      | true => rw [Bool.not_true, next n 0 hlt, cond_true]; rfl
  · have hlt := lt_of_at hx
    have hw := hr x (List.mem_of_getElem? hx); rw [m_impl_LogOk_l1, dlt hlt, cond_true, at_of hx, Option.bind_some, ltE, E_between, Option.bind_some]; unfold eb ebad; cases (decide (1 ≤ x.Time) && decide (x.Time ≤ 40)) with
    | false => rw [Bool.not_false, cond_true, stop, Bool.false_and, Bool.false_and, cond_false]
    | true =>
      rw [Bool.not_true, cond_false, dgt0, cond_true, ckdd (by omega), Option.bind_some, at_of hy, Option.bind_some, Bool.true_and]
      by_cases hb : y.Time ≥ x.Time
      · rw [decide_eq_true hb, cond_true, stop, Bool.not_true, Bool.and_false, cond_false]
      · rw [decide_eq_false hb, cond_false, E_impl_WritesOk (by have := hw.1; omega) hw.2, Option.bind_some, Bool.not_false, Bool.and_true]
        cases wOk x.Writes with
        | false => rw [Bool.not_false, stop, cond_false]
        | true => rw [Bool.not_true, next n (k + 1) hlt, cond_true]
  · rw [m_impl_LogOk_l1, dnlt, cond_false, m_impl_LogOk_j2]
theorem E_spec_LogOk {l : List En} (h : enSm l) : m_spec_LogOk l = some (logOk l) := by
  unfold m_spec_LogOk logOk; obtain ⟨hl, hr⟩ := h; have stop : ∀ n (k : Int), m_spec_LogOk_j1 (m_spec_LogOk_l1 n) l k true = some false := fun n k => by unfold m_spec_LogOk_j1; rw [cond_true]
  have next : ∀ n (k : Nat), k < l.length → m_spec_LogOk_j1 (m_spec_LogOk_l1 n) l (k : Int) false = m_spec_LogOk_l1 n l ((k + 1 : Nat) : Int) := fun n k hk => by unfold m_spec_LogOk_j1; rw [cond_false, ck1 (by omega), Option.bind_some, natS]
  refine scanPrev (p := eb) (bad := ebad) l (fun n k => m_spec_LogOk_l1 n l k) (fun n x hx => ?_) (fun n k x y hx hy hp => ?_) (fun n => ?_) _ fuel0
  · have hlt := lt_of_at hx
    have hw := hr x (List.mem_of_getElem? hx); show m_spec_LogOk_l1 (n + 1) l ((0 : Nat) : Int) = _; rw [m_spec_LogOk_l1, dlt hlt, cond_true, at_of hx, Option.bind_some, E_l1In, Option.bind_some]; unfold eb; cases (decide (1 ≤ x.Time) && decide (x.Time ≤ 40)) with
    | false => rw [Bool.not_false, cond_true, stop, Bool.false_and, cond_false]
    | true =>
      rw [Bool.not_true, cond_false, Option.bind_some, E_spec_WritesOk (by have := hw.1; omega) hw.2, Option.bind_some, Bool.true_and]; cases wOk x.Writes with
      | false => rw [Bool.not_false, cond_true, stop, cond_false]
      | true => rw [Bool.not_true, cond_false, dgt00, cond_false, next n 0 hlt, cond_true]; rfl
  · have hlt := lt_of_at hx
    have hw := hr x (List.mem_of_getElem? hx); rw [m_spec_LogOk_l1, dlt hlt, cond_true, at_of hx, Option.bind_some, E_l1In, Option.bind_some]; unfold eb ebad; cases (decide (1 ≤ x.Time) && decide (x.Time ≤ 40)) with
    | false => rw [Bool.not_false, cond_true, stop, Bool.false_and, Bool.false_and, cond_false]
    | true =>
      rw [Bool.not_true, cond_false, Option.bind_some, E_spec_WritesOk (by have := hw.1; omega) hw.2, Option.bind_some, Bool.true_and]; cases wOk x.Writes with
      | false => rw [Bool.not_false, cond_true, stop, Bool.false_and, cond_false]
      | true =>
        rw [Bool.not_true, cond_false, dgt0, cond_true, ckdd (by omega), Option.bind_some, at_of hy, Option.bind_some, Option.bind_some, Bool.true_and]
        by_cases hb : y.Time ≥ x.Time
        · rw [decide_eq_true hb, stop, Bool.not_true, cond_false]
        · rw [decide_eq_false hb, next n (k + 1) hlt, Bool.not_false, cond_true]
  · rw [m_spec_LogOk_l1, dnlt, cond_false, m_spec_LogOk_j2]
theorem E_sameLog {a b : List En} (h : enSm a) : m_laws_sameLog a b = some (decide (a = b)) := by
  unfold m_laws_sameLog; obtain ⟨hl, hr⟩ := h
  by_cases h : a.length = b.length
  · rw [lenEq h, cond_false]
    refine scanEq h (fun n k => m_laws_sameLog_l1 n a b k) (fun n k x y hx hy => ?_) (fun n => by rw [m_laws_sameLog_l1, dnlt, cond_false, m_laws_sameLog_j2]) _ fuel0; have hlt := lt_of_at hx; have hw := hr x (List.mem_of_getElem? hx); have stop : m_laws_sameLog_j1 (m_laws_sameLog_l1 n) a b (k : Int) true = some false := by unfold m_laws_sameLog_j1; rw [cond_true]
    have next : m_laws_sameLog_j1 (m_laws_sameLog_l1 n) a b (k : Int) false = m_laws_sameLog_l1 n a b ((k : Int) + 1) := by unfold m_laws_sameLog_j1; rw [cond_false, ck1 (by omega), Option.bind_some]
    rw [m_laws_sameLog_l1, dlt hlt, cond_true, at_of hx, Option.bind_some, at_of hy, Option.bind_some]
    by_cases h1 : x.Time = y.Time
    · rw [neF h1, cond_false, Option.bind_some, Option.bind_some, E_sameWrites (by have := hw.1; omega) (fun v hv => by have := (hw.2 v hv).1; omega), Option.bind_some]
      by_cases h4 : x.Writes = y.Writes
      · have : x = y := by cases x; cases y; simp_all
        rw [decide_eq_true h4, Bool.not_true, next, decide_eq_true this, cond_true]
      · rw [decide_eq_false h4, Bool.not_false, stop, decide_eq_false (fun e => h4 (by rw [e])), cond_false]
    · rw [beqF' h1, cond_true, stop, decide_eq_false (fun e => h1 (by rw [e])), cond_false]
  · rw [(lenNe h).1, cond_true, (lenNe h).2]
structure RI (o : List Ver) (T : Int) : Prop where
  inv : VInv o
  times : ∀ v ∈ o, v.Born ≤ T ∧ v.Died ≤ T
  rows : ∀ v ∈ o, rSm v.Row
theorem RI.w {o : List Ver} {T : Int} {e : En} (h : RI o T) (he : eb e = true) (ht : T < e.Time) : WInv o e.Writes e.Time := by
  unfold eb at he; simp only [Bool.and_eq_true, decide_eq_true_eq] at he; obtain ⟨w1, w2⟩ := wOk_inv.1 he.2; exact ⟨h.inv, w1, w2, he.1, fun w _ v hv _ => by have := h.times v hv; omega⟩
structure Seq (T : Int) (l : List En) : Prop where
  ok : ∀ e ∈ l, eb e = true ∧ wsSm e.Writes ∧ T < e.Time
  asc : l.Pairwise fun x y => x.Time < y.Time
theorem RI.nil : RI [] 0 := ⟨⟨by simp, List.Pairwise.nil⟩, by simp, by simp⟩
theorem Seq.take {T : Int} {l : List En} (h : Seq T l) (n : Nat) : Seq T (l.take n) := ⟨fun e he => h.ok e (List.mem_of_mem_take he), List.Pairwise.sublist (List.take_sublist _ _) h.asc⟩
def lgDr (l : List En) : Prop := l.length ≤ 12 ∧ ∀ e ∈ l, wsDr e.Writes
theorem lgDr_sm {l : List En} (h : lgDr l) : enSm l := ⟨by have := h.1; omega, fun e he => by
  obtain ⟨a, b⟩ := wsDr_sm (h.2 e he); exact ⟨by omega, b⟩⟩
theorem T_l20Log {o : Rd} {n : Int} (ho : 0 ≤ o.p ∧ o.p ≤ 1000000000 - 100000) (hn : -3000000 ≤ n ∧ n ≤ 3000000) : Tot (m_spec_l20Log o n) fun r => lgDr r.1 ∧ o.p ≤ r.2.p ∧ r.2.p ≤ o.p + 3000 := by
  unfold m_spec_l20Log; refine Tot.bind (T_pick (by omega)) fun x0 hx0 => ?_; refine Tot.down (fun f t (s : Int × Rd × List En) => m_spec_l20Log_l1 f n s.1 t s.2.1 s.2.2) (fun t s => t ≤ 6 ∧ o.p ≤ s.2.1.p ∧ s.2.1.p ≤ o.p + 1 + 202 * (6 - t) ∧ 0 ≤ s.1 ∧ s.1 ≤ 3 * (6 - t) ∧ (s.2.2.length : Int) ≤ 6 - t ∧ ∀ e ∈ s.2.2, wsDr e.Writes) (fun f s h => ?_) (fun f t s ht h ih => ?_) _ x0.1 (0, x0.2, []) (by omega) (by omega) ⟨by omega, by show o.p ≤ x0.2.p; omega, by show x0.2.p ≤ o.p + 1 + 202 * (6 - x0.1); omega, by show (0 : Int) ≤ 0; omega, by show (0 : Int) ≤ 3 * (6 - x0.1); omega, by simp; omega, by simp⟩
  · obtain ⟨g0, g1, g2, g3, g4, g5, g6⟩ := h
    have hs : lgDr s.2.2 := ⟨by omega, g6⟩; rw [m_spec_l20Log_l1, show decide ((0 : Int) > 0) = false from rfl, cond_false]
    have out : ∀ (r : Rd) (l : List En), o.p ≤ r.p → r.p ≤ o.p + 3000 → lgDr l → Tot (m_spec_l20Log_j3 r l) fun r => lgDr r.1 ∧ o.p ≤ r.2.p ∧ r.2.p ≤ o.p + 3000 := by
      intro r l h1 h2 h3; unfold m_spec_l20Log_j3; exact Tot.ret ⟨h3, h1, h2⟩
    have set : ∀ (k : Nat) (u : En), wsDr u.Writes → lgDr (s.2.2.set k u) := fun k u hu => ⟨by rw [List.length_set]; exact hs.1, fun y hy => by
      rcases List.mem_or_eq_of_mem_set hy with hy | rfl
      · exact g6 y hy
      · exact hu⟩
    unfold m_spec_l20Log_j1 m_spec_l20Log_j2; refine Tot.bif (fun hpos => ?_) (fun _ => by rw [cond_false]; exact out _ _ (by omega) (by omega) hs); have hpos' : (s.2.2.length : Int) > 0 := of_decide_eq_true hpos; refine Tot.bind (T_odd (by omega) (by omega)) fun q hq => Tot.bif (fun _ => ?_) (fun _ => out _ _ (by omega) (by omega) hs); refine Tot.bind (T_pick (by omega)) fun a ha => Tot.bind (T_pick (by omega)) fun b hb => Tot.bif (fun _ => ?_) (fun _ => Tot.bif (fun _ => ?_) (fun _ => ?_))
    · exact Tot.bind (T_pick (by omega)) fun c hc => Tot.ck (by omega) (by omega) (Tot.at (by omega) (by omega) fun y hy => Tot.at (by omega) (by omega) fun z hz => Tot.lt (out _ _ (by omega) (by omega) (set _ _ (g6 z hz))))
    · exact Tot.bind (T_l20Writes (by omega) (by omega)) fun c hc => Tot.at (by omega) (by omega) fun y hy => Tot.at (by omega) (by omega) fun z hz => Tot.lt (out _ _ (by omega) (by omega) (set _ _ hc.1.1))
    · exact Tot.app (by omega) (out _ _ (by omega) (by omega) ⟨by simp; omega, fun e he => by
        rcases List.mem_append.1 he with he | he <;> exact g6 e he⟩)
  · obtain ⟨g0, g1, g2, g3, g4, g5, g6⟩ := h
    rw [m_spec_l20Log_l1, decide_eq_true ht, cond_true]; refine Tot.ck (by omega) (by omega) (Tot.bind (T_pick (by omega)) fun x hx => Tot.ck (by omega) (by omega) (Tot.bind (T_l20Writes (by omega) (by omega)) fun w hw => Tot.app (by simp; omega) (Tot.ck (by omega) (by omega) (ih (s.1 + 1 + x.1, w.2, s.2.2 ++ [⟨s.1 + 1 + x.1, w.1⟩]) ⟨by omega, by show o.p ≤ w.2.p; omega, by show w.2.p ≤ _; omega, by show 0 ≤ s.1 + 1 + x.1; omega, by show s.1 + 1 + x.1 ≤ _; omega, by simp; omega, fun e he => ?_⟩)))); rcases List.mem_append.1 he with he | he
    · exact g6 e he
    · rw [List.mem_singleton.1 he]; exact hw.1.1
abbrev Bs := List UInt8
def vB (v : V) : Bs := Lift.byteOf v.Kind :: (if v.Kind = 1 then [Lift.byteOf ((v.N + 10000) / 256), Lift.byteOf (v.N + 10000)] else if v.Kind = 2 then Lift.byteOf (v.S.size : Int) :: v.S.data.toList else if v.Kind = 3 then [Lift.byteOf v.N] else [])
theorem byteOf_mod (n : Int) : Lift.byteOf (n % 256) = Lift.byteOf n := by unfold Lift.byteOf; rw [Int.emod_emod_of_dvd n (Int.dvd_refl 256)]
theorem quo256 {n : Int} (h : 0 ≤ n) (h2 : n ≤ 1000000000) : quoI n 256 = some (n / 256) := by
  unfold quoI; rw [Int.tdiv_eq_ediv_of_nonneg h, if_neg (by decide), ckI_of (by omega) (by omega)]
theorem rem256 {n : Int} (h : 0 ≤ n) : remI n 256 = some (n % 256) := by
  unfold remI; rw [Int.tmod_eq_emod_of_nonneg h, if_neg (by decide)]
theorem shr8 {n : Int} : shrI n 8 = some (n / 256) := by
  unfold shrI; rw [if_pos (by omega)]; have : (2 : Int) ^ min (8 : Int).toNat 64 = 256 := rfl; rw [this, Int.fdiv_eq_ediv_of_nonneg n (by decide)]
theorem shl8 {n : Int} (h : 0 ≤ n) (h2 : n ≤ 1000000000) : shlI n 8 = some (256 * n) := by
  unfold shlI; rw [if_pos (by omega)]; have : (2 : Int) ^ (8 : Int).toNat = 256 := rfl; rw [this, ckI_of (by omega) (by omega)]; congr 1; omega
theorem vOk_1 {v : V} (h : vOk v = true) (k : v.Kind = 1) : -9999 ≤ v.N ∧ v.N ≤ 9999 ∧ v.S = ⟨#[]⟩ := by
  unfold vOk at h; rw [if_neg (by omega), if_pos k] at h; simp at h; exact ⟨h.2.1, h.2.2, h.1⟩
theorem vOk_2 {v : V} (h : vOk v = true) (k : v.Kind = 2) : v.N = 0 ∧ v.S.size ≤ 6 := by
  unfold vOk at h; rw [if_neg (by omega), if_neg (by omega), if_pos k] at h; simp at h; exact ⟨h.1.1, h.1.2⟩
theorem vOk_3 {v : V} (h : vOk v = true) (k : v.Kind = 3) : 0 ≤ v.N ∧ v.N ≤ 1 ∧ v.S = ⟨#[]⟩ := by
  unfold vOk at h; rw [if_neg (by omega), if_neg (by omega), if_neg (by omega), if_pos k] at h; simp at h; exact ⟨h.2.1, h.2.2, h.1⟩
theorem vOk_k {v : V} (h : vOk v = true) : v.Kind = 0 ∨ v.Kind = 1 ∨ v.Kind = 2 ∨ v.Kind = 3 := by
  unfold vOk at h
  by_cases h0 : v.Kind = 0
  · exact .inl h0
  · by_cases h1 : v.Kind = 1
    · exact .inr (.inl h1)
    · by_cases h2 : v.Kind = 2
      · exact .inr (.inr (.inl h2))
      · by_cases h3 : v.Kind = 3
        · exact .inr (.inr (.inr h3))
        · rw [if_neg h0, if_neg h1, if_neg h2, if_neg h3] at h; cases h
theorem beqT {a b : Int} (h : a = b) : (a == b) = true := by simp [h]
theorem vB_len {v : V} (h : vOk v = true) : (vB v).length ≤ 8 := by
  unfold vB; rw [List.length_cons]; rcases vOk_k h with k | k | k | k
  · rw [if_neg (by omega), if_neg (by omega), if_neg (by omega)]; simp
  · rw [if_pos k]; simp
  · rw [if_neg (by omega), if_pos k]
    have := (vOk_2 h k).2; have e : v.S.data.toList.length = v.S.size := by rw [Array.length_toList]; rfl
    rw [List.length_cons, e]; omega
  · rw [if_neg (by omega), if_neg (by omega), if_pos k]; simp
theorem E_spec_ValueBytes {v : V} (h : v.S.size ≤ 3000000) : m_spec_ValueBytes v = some (if vOk v then vB v else []) := by
  unfold m_spec_ValueBytes; rw [E_spec_ValueOk (Nat.le_trans h (by decide)), Option.bind_some]; cases hk : vOk v with
  | false => rw [Bool.not_false, cond_true]; rfl
  | true =>
    rw [Bool.not_true, cond_false, ltE, if_pos rfl]; unfold vB m_spec_ValueBytes_j1; rcases vOk_k hk with k | k | k | k
    · rw [beqF (by omega), cond_false, beqF (by omega), cond_false, beqF (by omega), cond_false, if_neg (by omega), if_neg (by omega), if_neg (by omega)]
    · obtain ⟨h1, h2, _⟩ := vOk_1 hk k
      rw [beqT k, cond_true, ckI_of (by omega) (by omega), Option.bind_some, quo256 (by omega) (by omega), Option.bind_some, Option.bind_some, rem256 (by omega), Option.bind_some, app_of (by simp), Option.bind_some, byteOf_mod, if_pos k]; rfl
    · have h6 := (vOk_2 hk k).2
      have e : v.S.data.toList.length = v.S.size := by rw [Array.length_toList]; rfl
      rw [beqF (by omega), cond_false, beqT k, cond_true, app_of (by simp), Option.bind_some]; unfold sBytes?; rw [if_pos (by omega), Option.bind_some, app_of (by rw [e]; simp; omega), Option.bind_some, if_neg (by omega), if_pos k]; rfl
    · rw [beqF (by omega), cond_false, beqF (by omega), cond_false, beqT k, cond_true, app_of (by simp), Option.bind_some, if_neg (by omega), if_neg (by omega), if_pos k]; rfl
theorem E_impl_Value_bytes {v : V} (hk : vOk v = true) : m_impl_Value_bytes v = some (vB v) := by
  unfold m_impl_Value_bytes vB m_impl_Value_bytes_j1; rw [ltE]; rcases vOk_k hk with k | k | k | k
  · rw [beqF (by omega), cond_false, beqF (by omega), cond_false, beqF (by omega), cond_false, if_neg (by omega), if_neg (by omega), if_neg (by omega)]
  · obtain ⟨h1, h2, _⟩ := vOk_1 hk k
    rw [beqT k, cond_true, ckI_of (by omega) (by omega), Option.bind_some, shr8, Option.bind_some, app_of (by simp), Option.bind_some, if_pos k]; rfl
  · have h6 := (vOk_2 hk k).2
    have e : v.S.data.toList.length = v.S.size := by rw [Array.length_toList]; rfl
    rw [beqF (by omega), cond_false, beqT k, cond_true, app_of (by simp), Option.bind_some, app_of (by rw [e]; simp; omega), Option.bind_some, if_neg (by omega), if_pos k]; rfl
  · rw [beqF (by omega), cond_false, beqF (by omega), cond_false, beqT k, cond_true, app_of (by simp), Option.bind_some, if_neg (by omega), if_neg (by omega), if_pos k]; rfl
def vz : V := ⟨0, 0, ⟨#[]⟩⟩
def vChk (v : V) (n : Nat) : V × Nat := if vOk v then (v, n) else (vz, 0)
def vF1 (b : Bs) : V × Nat := match b[1]?, b[2]? with | some x, some y => vChk ⟨1, 256 * x.toNat + y.toNat - 10000, ⟨#[]⟩⟩ 3 | _, _ => (vz, 0)
def vF2 (b : Bs) : V × Nat := match b[1]? with | some x => if 2 + x.toNat ≤ b.length then vChk ⟨2, 0, bStr ((b.take (2 + x.toNat)).drop 2)⟩ (2 + x.toNat) else (vz, 0) | none => (vz, 0)
def vF3 (b : Bs) : V × Nat := match b[1]? with | some x => vChk ⟨3, x.toNat, ⟨#[]⟩⟩ 2 | none => (vz, 0)
def vFK (k : UInt8) (b : Bs) : V × Nat :=
  if k.toNat = 1 then vF1 b else if k.toNat = 2 then vF2 b else if k.toNat = 3 then vF3 b else if k.toNat = 0 then vChk vz 1 else (vz, 0)
def vFrom (b : Bs) : V × Nat := match b[0]? with | none => (vz, 0) | some k => vFK k b
theorem vFrom_k {b : Bs} {k : UInt8} (h : b[0]? = some k) : vFrom b = vFK k b := by unfold vFrom; rw [h]
theorem vF1_s {b : Bs} {x y : UInt8} (h1 : b[1]? = some x) (h2 : b[2]? = some y) : vF1 b = vChk ⟨1, 256 * x.toNat + y.toNat - 10000, ⟨#[]⟩⟩ 3 := by unfold vF1; rw [h1, h2]
theorem vF1_n {b : Bs} (h2 : b[2]? = none) : vF1 b = (vz, 0) := by unfold vF1; rw [h2]; cases b[1]? <;> rfl
theorem vF2_s {b : Bs} {x : UInt8} (h1 : b[1]? = some x) : vF2 b = if 2 + x.toNat ≤ b.length then vChk ⟨2, 0, bStr ((b.take (2 + x.toNat)).drop 2)⟩ (2 + x.toNat) else (vz, 0) := by unfold vF2; rw [h1]
theorem vF2_n {b : Bs} (h1 : b[1]? = none) : vF2 b = (vz, 0) := by unfold vF2; rw [h1]
theorem vF3_s {b : Bs} {x : UInt8} (h1 : b[1]? = some x) : vF3 b = vChk ⟨3, x.toNat, ⟨#[]⟩⟩ 2 := by unfold vF3; rw [h1]
theorem vF3_n {b : Bs} (h1 : b[1]? = none) : vF3 b = (vz, 0) := by unfold vF3; rw [h1]
theorem at0 {α : Type} {l : List α} {x : α} (h : l[0]? = some x) : at? l 0 = some x := at_of (k := 0) h
theorem at1 {α : Type} {l : List α} {x : α} (h : l[1]? = some x) : at? l 1 = some x := at_of (k := 1) h
theorem at2 {α : Type} {l : List α} {x : α} (h : l[2]? = some x) : at? l 2 = some x := at_of (k := 2) h
theorem bStr_size (l : Bs) : (bStr l).size = l.length := by simp [bStr, ByteArray.size]
theorem bStr_eq {a b : Bs} : sEq (bStr a) (bStr b) = decide (a = b) := by
  rw [sEq_eq, decide_eq_decide]; exact ⟨fun h => by have := congrArg (fun x : ByteArray => x.data.toList) h; simpa [bStr] using this, fun h => by rw [h]⟩
theorem impl_v_end {w v : V} {n : Nat} (h : v.S.size ≤ 3000000) : m_impl_ValueFrom_j4 (n : Int) w v = some ((vChk v n).1, ((vChk v n).2 : Int)) := by
  unfold m_impl_ValueFrom_j4 vChk; rw [E_Value_ok (Nat.le_trans h (by decide)), Option.bind_some]; cases vOk v with
  | false => rw [Bool.not_false, cond_true, ltE]; rfl
  | true => rw [Bool.not_true, cond_false, ltE]; rfl
theorem E_impl_ValueFrom {b : Bs} (hl : b.length ≤ 3000000) : m_impl_ValueFrom b = some ((vFrom b).1, ((vFrom b).2 : Int)) := by
  unfold m_impl_ValueFrom; cases h0 : b[0]? with
  | none =>
    have : b = [] := by rw [List.getElem?_eq_none_iff] at h0; exact List.eq_nil_of_length_eq_zero (by omega)
    subst this; rfl
  | some k =>
    have hp := lt_of_at h0; rw [vFrom_k h0, beqF (by omega), cond_false, at0 h0, Option.bind_some, ltE]; unfold vFK; have hk := k.toNat_lt; show (bif ((k.toNat : Int) == 1) then m_impl_ValueFrom_j1 b 1 (decide ((b.length : Int) > 2)) _ ⟨k.toNat, 0, ⟨#[]⟩⟩ else m_impl_ValueFrom_j1 b 1 false _ ⟨k.toNat, 0, ⟨#[]⟩⟩) = _
    by_cases k1 : k.toNat = 1
    · rw [beqT (by omega), cond_true, if_pos k1]
      unfold m_impl_ValueFrom_j1
      by_cases hl2 : 2 < b.length
      · obtain ⟨x, hx⟩ : ∃ x, b[1]? = some x := ⟨_, List.getElem?_eq_getElem (by omega)⟩
        obtain ⟨y, hy⟩ : ∃ y, b[2]? = some y := ⟨_, List.getElem?_eq_getElem (by omega)⟩; have h1 := x.toNat_lt; have h2 := y.toNat_lt; rw [decide_eq_true (by omega), cond_true, at1 hx, Option.bind_some, shl8 (by omega) (by omega), Option.bind_some, at2 hy, Option.bind_some, ckI_of (by omega) (by omega), Option.bind_some, ckI_of (by omega) (by omega), Option.bind_some, ltE, vF1_s hx hy]; rw [show ((k.toNat : Int)) = 1 by omega]; exact impl_v_end (n := 3) (show (0 : Nat) ≤ 3000000 by decide)
      · have hy : b[2]? = none := List.getElem?_eq_none (by omega)
        rw [decide_eq_false (by omega), cond_false, vF1_n hy]; show (bif ((k.toNat : Int) == 2) then _ else m_impl_ValueFrom_j2 b 1 false _ ⟨k.toNat, 0, ⟨#[]⟩⟩) = _; rw [beqF (by omega), cond_false]; unfold m_impl_ValueFrom_j2; rw [cond_false]; show (bif ((k.toNat : Int) == 3) then _ else m_impl_ValueFrom_j3 b 1 false _ ⟨k.toNat, 0, ⟨#[]⟩⟩) = _; rw [beqF (by omega), cond_false]; unfold m_impl_ValueFrom_j3; rw [cond_false]; show (bif ((k.toNat : Int) != 0) then _ else _) = _; rw [beqF' (by omega), cond_true, ltE]; rfl
    · rw [beqF (by omega), cond_false, if_neg k1]
      unfold m_impl_ValueFrom_j1; rw [cond_false]; show (bif ((k.toNat : Int) == 2) then _ else m_impl_ValueFrom_j2 b 1 false _ ⟨k.toNat, 0, ⟨#[]⟩⟩) = _
      by_cases k2 : k.toNat = 2
      · rw [beqT (by omega), cond_true, if_pos k2]
        by_cases hl1 : 1 < b.length
        · obtain ⟨x, hx⟩ : ∃ x, b[1]? = some x := ⟨_, List.getElem?_eq_getElem (by omega)⟩
          have h1 := x.toNat_lt; rw [decide_eq_true (by omega), cond_true, at1 hx, Option.bind_some, ckI_of (by omega) (by omega), Option.bind_some, vF2_s hx]; unfold m_impl_ValueFrom_j2
          by_cases hlx : 2 + x.toNat ≤ b.length
          · rw [decide_eq_true (by omega), cond_true, at1 hx, Option.bind_some, ckI_of (by omega) (by omega), Option.bind_some, if_pos hlx, show (2 : Int) + (x.toNat : Int) = ((2 + x.toNat : Nat) : Int) by omega]
            rw [show cut? b (2 : Int) ((2 + x.toNat : Nat) : Int) = _ from cut_of (lo := 2) (by omega) hlx, Option.bind_some, ltE]; rw [show ((k.toNat : Int)) = 2 by omega]; exact impl_v_end (by rw [bStr_size]; simp; omega)
          · rw [decide_eq_false (by omega), cond_false, if_neg hlx]
            show (bif ((k.toNat : Int) == 3) then _ else m_impl_ValueFrom_j3 b 1 false _ ⟨k.toNat, 0, ⟨#[]⟩⟩) = _; rw [beqF (by omega), cond_false]; unfold m_impl_ValueFrom_j3; rw [cond_false]; show (bif ((k.toNat : Int) != 0) then _ else _) = _; rw [beqF' (by omega), cond_true, ltE]; rfl
        · have hx : b[1]? = none := List.getElem?_eq_none (by omega)
          rw [decide_eq_false (by omega), cond_false, vF2_n hx]; unfold m_impl_ValueFrom_j2; rw [cond_false]; show (bif ((k.toNat : Int) == 3) then _ else m_impl_ValueFrom_j3 b 1 false _ ⟨k.toNat, 0, ⟨#[]⟩⟩) = _; rw [beqF (by omega), cond_false]; unfold m_impl_ValueFrom_j3; rw [cond_false]; show (bif ((k.toNat : Int) != 0) then _ else _) = _; rw [beqF' (by omega), cond_true, ltE]; rfl
      · rw [beqF (by omega), cond_false, if_neg k2]
        unfold m_impl_ValueFrom_j2; rw [cond_false]; show (bif ((k.toNat : Int) == 3) then m_impl_ValueFrom_j3 b 1 _ _ ⟨k.toNat, 0, ⟨#[]⟩⟩ else m_impl_ValueFrom_j3 b 1 false _ ⟨k.toNat, 0, ⟨#[]⟩⟩) = _
        by_cases k3 : k.toNat = 3
        · rw [beqT (by omega), cond_true, if_pos k3]
          unfold m_impl_ValueFrom_j3
          by_cases hl1 : 1 < b.length
          · obtain ⟨x, hx⟩ : ∃ x, b[1]? = some x := ⟨_, List.getElem?_eq_getElem (by omega)⟩
            rw [decide_eq_true (by omega), cond_true, at1 hx, Option.bind_some, ltE, vF3_s hx]; rw [show ((k.toNat : Int)) = 3 by omega]; exact impl_v_end (n := 2) (show (0 : Nat) ≤ 3000000 by decide)
          · have hx : b[1]? = none := List.getElem?_eq_none (by omega)
            rw [decide_eq_false (by omega), cond_false, vF3_n hx]; show (bif ((k.toNat : Int) != 0) then _ else _) = _; rw [beqF' (by omega), cond_true, ltE]; rfl
        · rw [beqF (by omega), cond_false, if_neg k3]
          unfold m_impl_ValueFrom_j3; rw [cond_false]; show (bif ((k.toNat : Int) != 0) then _ else m_impl_ValueFrom_j4 1 _ ⟨k.toNat, 0, ⟨#[]⟩⟩) = _
          by_cases k0 : k.toNat = 0
          · rw [if_pos k0, show ((k.toNat : Int) != 0) = false by simp; exact k0, cond_false, show ((k.toNat : Int)) = 0 by omega]
            exact impl_v_end (n := 1) (v := vz) (by decide)
          · rw [if_neg k0, beqF' (by omega), cond_true, ltE]; rfl
def vS (v : V) (b : Bs) : V × Nat := if vOk v = true ∧ b.take (vB v).length = vB v then (v, (vB v).length) else (vz, 0)
theorem spec_v_end {w v : V} {b : Bs} (h : v.S.size ≤ 3000000) : m_spec_ValueFrom_j4 b w v = some ((vS v b).1, ((vS v b).2 : Int)) := by
  unfold m_spec_ValueFrom_j4 vS; rw [E_spec_ValueBytes h, Option.bind_some]; have z : m_spec_ValueFrom_j5 (if vOk v = true then vB v else []) true w v = some (vz, 0) := by unfold m_spec_ValueFrom_j5; rw [cond_true, ltE]; rfl
  cases hv : vOk v with
  | false =>
    rw [hv, if_neg (by decide)] at z; rw [if_neg (show ¬ (false = true ∧ b.take (vB v).length = vB v) from fun h => by cases h.1), if_neg (by decide)]; exact z
  | true =>
    rw [hv] at z; rw [if_pos rfl] at z ⊢; have hne : (vB v).length ≠ 0 := by unfold vB; simp
    rw [beqF (by omega), cond_false]
    by_cases hl : (vB v).length ≤ b.length
    · rw [decide_eq_false (by omega), cond_false, show cut? b (0 : Int) ((vB v).length : Int) = _ from cut_of (lo := 0) (Nat.zero_le _) hl, Option.bind_some, List.drop_zero, bStr_eq]
      unfold m_spec_ValueFrom_j5
      by_cases he : vB v = b.take (vB v).length
      · rw [decide_eq_true he, Bool.not_true, cond_false, ltE, if_pos ⟨rfl, he.symm⟩]
      · rw [decide_eq_false he, Bool.not_false, cond_true, ltE, if_neg (fun h => he h.2.symm)]; rfl
    · rw [decide_eq_true (by omega), cond_true, z, if_neg]
      · rfl
      · rintro ⟨_, h2⟩
        have := congrArg List.length h2; rw [List.length_take] at this; omega
theorem ex1 {b : Bs} {k : UInt8} (h : b[0]? = some k) : ∃ r, b = k :: r := by
  cases b with
  | nil => simp at h
  | cons a r => simp at h; exact ⟨r, by rw [h]⟩
theorem vS_1 {k x y : UInt8} {r : Bs} (hk : k.toNat = 1) : vS ⟨1, 256 * x.toNat + y.toNat - 10000, ⟨#[]⟩⟩ (k :: x :: y :: r) = vChk ⟨1, 256 * x.toNat + y.toNat - 10000, ⟨#[]⟩⟩ 3 := by
  have hx := x.toNat_lt; have hy := y.toNat_lt
  have e : vB ⟨1, 256 * x.toNat + y.toNat - 10000, ⟨#[]⟩⟩ = [k, x, y] := by
    unfold vB; rw [if_pos rfl]; show [Lift.byteOf 1, Lift.byteOf ((256 * x.toNat + y.toNat - 10000 + 10000) / 256), Lift.byteOf (256 * x.toNat + y.toNat - 10000 + 10000)] = _; rw [show ((256 * x.toNat + y.toNat - 10000 + 10000 : Int)) / 256 = (x.toNat : Int) by omega, byteOf_toNat, ← byteOf_mod (256 * x.toNat + y.toNat - 10000 + 10000), show ((256 * x.toNat + y.toNat - 10000 + 10000 : Int)) % 256 = (y.toNat : Int) by omega, byteOf_toNat, show (1 : Int) = (k.toNat : Int) by omega, byteOf_toNat]
  unfold vS vChk; rw [e]; cases vOk ⟨1, 256 * x.toNat + y.toNat - 10000, ⟨#[]⟩⟩ with
  | false => rw [if_neg (fun h => by cases h.1)]; rfl
  | true => rw [if_pos ⟨rfl, rfl⟩]; rfl
theorem vS_z {v : V} {b : Bs} (h : vOk v = true → b.take (vB v).length ≠ vB v) : vS v b = (vz, 0) := by
  unfold vS; rw [if_neg]; rintro ⟨h1, h2⟩; exact h h1 h2
theorem vS_short {v : V} {b : Bs} (h : b.length < (vB v).length) : vS v b = (vz, 0) := vS_z fun _ h2 => by
  have := congrArg List.length h2; rw [List.length_take] at this; omega
theorem vS_2 {k x : UInt8} {r : Bs} (hk : k.toNat = 2) (hl : x.toNat ≤ r.length) : vS ⟨2, 0, bStr (r.take x.toNat)⟩ (k :: x :: r) = vChk ⟨2, 0, bStr (r.take x.toNat)⟩ (2 + x.toNat) := by
  have e : vB ⟨2, 0, bStr (r.take x.toNat)⟩ = k :: x :: r.take x.toNat := by
    unfold vB; rw [if_neg (show ¬ (2 : Int) = 1 by decide), if_pos rfl]; show Lift.byteOf 2 :: Lift.byteOf ((bStr (r.take x.toNat)).size : Int) :: r.take x.toNat = _; rw [bStr_size, List.length_take, Nat.min_eq_left hl, byteOf_toNat, show (2 : Int) = (k.toNat : Int) by omega, byteOf_toNat]
  have el : (k :: x :: r.take x.toNat).length = 2 + x.toNat := by simp; omega
  unfold vS vChk; rw [e, el]; have et : (k :: x :: r).take (2 + x.toNat) = k :: x :: r.take x.toNat := by rw [show 2 + x.toNat = x.toNat + 1 + 1 by omega, List.take_succ_cons, List.take_succ_cons]
  cases vOk ⟨2, 0, bStr (r.take x.toNat)⟩ with
  | false => rw [if_neg (fun h => by cases h.1)]; rfl
  | true => rw [if_pos ⟨rfl, et⟩]; rfl
theorem vS_3 {k x : UInt8} {r : Bs} (hk : k.toNat = 3) : vS ⟨3, x.toNat, ⟨#[]⟩⟩ (k :: x :: r) = vChk ⟨3, x.toNat, ⟨#[]⟩⟩ 2 := by
  have e : vB ⟨3, x.toNat, ⟨#[]⟩⟩ = [k, x] := by
    unfold vB; rw [if_neg (show ¬ (3 : Int) = 1 by decide), if_neg (show ¬ (3 : Int) = 2 by decide), if_pos rfl]; show [Lift.byteOf 3, Lift.byteOf (x.toNat : Int)] = _; rw [byteOf_toNat, show (3 : Int) = (k.toNat : Int) by omega, byteOf_toNat]
  unfold vS vChk; rw [e]; cases vOk ⟨3, x.toNat, ⟨#[]⟩⟩ with
  | false => rw [if_neg (fun h => by cases h.1)]; rfl
  | true => rw [if_pos ⟨rfl, rfl⟩]; rfl
theorem E_spec_ValueFrom {b : Bs} (hl : b.length ≤ 3000000) : m_spec_ValueFrom b = some ((vFrom b).1, ((vFrom b).2 : Int)) := by
  unfold m_spec_ValueFrom; cases h0 : b[0]? with
  | none =>
    have : b = [] := by rw [List.getElem?_eq_none_iff] at h0; exact List.eq_nil_of_length_eq_zero (by omega)
    subst this; rfl
  | some k =>
    have hp := lt_of_at h0; rw [vFrom_k h0, beqF (by omega), cond_false, at0 h0, Option.bind_some, ltE]; unfold vFK; have hk := k.toNat_lt; obtain ⟨t, rfl⟩ := ex1 h0; show (bif ((k.toNat : Int) == 1) then m_spec_ValueFrom_j1 (k :: t) (decide (((k :: t).length : Int) > 2)) _ ⟨k.toNat, 0, ⟨#[]⟩⟩ else m_spec_ValueFrom_j1 (k :: t) false _ ⟨k.toNat, 0, ⟨#[]⟩⟩) = _; have e0 : (⟨#[]⟩ : ByteArray).size ≤ 3000000 := by decide
    by_cases k1 : k.toNat = 1
    · rw [beqT (by omega), cond_true, if_pos k1]
      unfold m_spec_ValueFrom_j1
      by_cases hl2 : 2 < (k :: t).length
      · obtain ⟨x, hx⟩ : ∃ x, (k :: t)[1]? = some x := ⟨_, List.getElem?_eq_getElem (by omega)⟩
        obtain ⟨y, hy⟩ : ∃ y, (k :: t)[2]? = some y := ⟨_, List.getElem?_eq_getElem (by omega)⟩; have h1 := x.toNat_lt; have h2 := y.toNat_lt; rw [decide_eq_true (by omega), cond_true, at1 hx, Option.bind_some, ckI_of (by omega) (by omega), Option.bind_some, at2 hy, Option.bind_some, ckI_of (by omega) (by omega), Option.bind_some, ckI_of (by omega) (by omega), Option.bind_some, ltE, vF1_s hx hy]; obtain ⟨t2, rfl⟩ := ex1 (b := t) (by simpa using hx); obtain ⟨t3, rfl⟩ := ex1 (b := t2) (by simpa using hy); rw [← vS_1 (r := t3) k1, show ((k.toNat : Int)) = 1 by omega]; exact spec_v_end e0
      · have hy : (k :: t)[2]? = none := List.getElem?_eq_none (by omega)
        have l1 : (vB ⟨1, 0, ⟨#[]⟩⟩).length = 3 := by decide
        rw [decide_eq_false (by omega), cond_false, vF1_n hy]; show (bif ((k.toNat : Int) == 2) then _ else m_spec_ValueFrom_j2 (k :: t) false _ ⟨k.toNat, 0, ⟨#[]⟩⟩) = _; rw [beqF (by omega), cond_false]; unfold m_spec_ValueFrom_j2; rw [cond_false]; show (bif ((k.toNat : Int) == 3) then _ else m_spec_ValueFrom_j3 (k :: t) false _ ⟨k.toNat, 0, ⟨#[]⟩⟩) = _; rw [beqF (by omega), cond_false]; unfold m_spec_ValueFrom_j3; rw [cond_false, spec_v_end e0, show ((k.toNat : Int)) = 1 by omega, vS_short (by omega)]
    · rw [beqF (by omega), cond_false, if_neg k1]
      unfold m_spec_ValueFrom_j1; rw [cond_false]; show (bif ((k.toNat : Int) == 2) then _ else m_spec_ValueFrom_j2 (k :: t) false _ ⟨k.toNat, 0, ⟨#[]⟩⟩) = _
      by_cases k2 : k.toNat = 2
      · rw [beqT (by omega), cond_true, if_pos k2]
        have l2 : (vB ⟨2, 0, ⟨#[]⟩⟩).length = 2 := by decide
        by_cases hl1 : 1 < (k :: t).length
        · obtain ⟨x, hx⟩ : ∃ x, (k :: t)[1]? = some x := ⟨_, List.getElem?_eq_getElem (by omega)⟩
          have h1 := x.toNat_lt; rw [decide_eq_true (by omega), cond_true, at1 hx, Option.bind_some, ckI_of (by omega) (by omega), Option.bind_some, vF2_s hx]; unfold m_spec_ValueFrom_j2
          by_cases hlx : 2 + x.toNat ≤ (k :: t).length
          · rw [decide_eq_true (by omega), cond_true, at1 hx, Option.bind_some, ckI_of (by omega) (by omega), Option.bind_some, if_pos hlx, show (2 : Int) + (x.toNat : Int) = ((2 + x.toNat : Nat) : Int) by omega]
            rw [show cut? (k :: t) (2 : Int) ((2 + x.toNat : Nat) : Int) = _ from cut_of (lo := 2) (by omega) hlx, Option.bind_some, ltE]; obtain ⟨t2, rfl⟩ := ex1 (b := t) (by simpa using hx); have et : ((k :: x :: t2).take (2 + x.toNat)).drop 2 = t2.take x.toNat := by rw [show 2 + x.toNat = x.toNat + 1 + 1 by omega, List.take_succ_cons, List.take_succ_cons]; rfl
            rw [et, ← vS_2 k2 (by simp at hlx; omega), show ((k.toNat : Int)) = 2 by omega]; exact spec_v_end (by rw [bStr_size]; simp at hl ⊢; omega)
          · rw [decide_eq_false (by omega), cond_false, if_neg hlx]
            show (bif ((k.toNat : Int) == 3) then _ else m_spec_ValueFrom_j3 (k :: t) false _ ⟨k.toNat, 0, ⟨#[]⟩⟩) = _; rw [beqF (by omega), cond_false]; unfold m_spec_ValueFrom_j3; rw [cond_false, spec_v_end e0, show ((k.toNat : Int)) = 2 by omega, vS_z]
            · intro _ h2
              obtain ⟨t2, rfl⟩ := ex1 (b := t) (by simpa using hx); rw [l2] at h2; have e2 : vB ⟨2, 0, ⟨#[]⟩⟩ = [2, 0] := by decide
              rw [e2] at h2; have : x = 0 := by simpa using (List.cons.inj (List.cons.inj h2).2).1
              subst this
              apply hlx
              simp
        · have hx : (k :: t)[1]? = none := List.getElem?_eq_none (by omega)
          rw [decide_eq_false (by omega), cond_false, vF2_n hx]; unfold m_spec_ValueFrom_j2; rw [cond_false]; show (bif ((k.toNat : Int) == 3) then _ else m_spec_ValueFrom_j3 (k :: t) false _ ⟨k.toNat, 0, ⟨#[]⟩⟩) = _; rw [beqF (by omega), cond_false]; unfold m_spec_ValueFrom_j3; rw [cond_false, spec_v_end e0, show ((k.toNat : Int)) = 2 by omega, vS_short (by omega)]
      · rw [beqF (by omega), cond_false, if_neg k2]
        unfold m_spec_ValueFrom_j2; rw [cond_false]; show (bif ((k.toNat : Int) == 3) then m_spec_ValueFrom_j3 (k :: t) _ _ ⟨k.toNat, 0, ⟨#[]⟩⟩ else m_spec_ValueFrom_j3 (k :: t) false _ ⟨k.toNat, 0, ⟨#[]⟩⟩) = _
        by_cases k3 : k.toNat = 3
        · rw [beqT (by omega), cond_true, if_pos k3]
          unfold m_spec_ValueFrom_j3
          by_cases hl1 : 1 < (k :: t).length
          · obtain ⟨x, hx⟩ : ∃ x, (k :: t)[1]? = some x := ⟨_, List.getElem?_eq_getElem (by omega)⟩
            rw [decide_eq_true (by omega), cond_true, at1 hx, Option.bind_some, ltE, vF3_s hx]; obtain ⟨t2, rfl⟩ := ex1 (b := t) (by simpa using hx); rw [← vS_3 (r := t2) k3, show ((k.toNat : Int)) = 3 by omega]; exact spec_v_end e0
          · have hx : (k :: t)[1]? = none := List.getElem?_eq_none (by omega)
            have l3 : (vB ⟨3, 0, ⟨#[]⟩⟩).length = 2 := by decide
            rw [decide_eq_false (by omega), cond_false, vF3_n hx, spec_v_end e0, show ((k.toNat : Int)) = 3 by omega, vS_short (by omega)]
        · rw [beqF (by omega), cond_false, if_neg k3]
          unfold m_spec_ValueFrom_j3; rw [cond_false, spec_v_end e0]
          by_cases k0 : k.toNat = 0
          · rw [if_pos k0]
            have ek : k = 0 := UInt8.toNat_inj.1 k0; subst ek
            have : vS ⟨((0 : UInt8).toNat : Int), 0, ⟨#[]⟩⟩ (0 :: t) = vChk vz 1 := by
              unfold vS; have e1 : vB ⟨((0 : UInt8).toNat : Int), 0, ⟨#[]⟩⟩ = [0] := by decide
              rw [e1, if_pos ⟨by decide, by simp⟩]; decide
            rw [this]
          · rw [if_neg k0, vS_z]
            · intro h _
              rcases vOk_k h with h | h | h | h <;> (simp at h; omega)
theorem vFrom_ok {b : Bs} (h : (vFrom b).2 ≠ 0) (hl : b.length ≤ 3000000) : vOk (vFrom b).1 = true ∧ (vFrom b).2 = (vB (vFrom b).1).length ∧ b.take (vFrom b).2 = vB (vFrom b).1 ∧ (vFrom b).2 ≤ b.length := by
  have key : ∃ v, vFrom b = vS v b := by
    unfold vFrom; cases h0 : b[0]? with
    | none => exact ⟨⟨9, 0, ⟨#[]⟩⟩, (vS_z (fun h => absurd h (by decide))).symm⟩
    | some k =>
      obtain ⟨t, rfl⟩ := ex1 h0; have zz : (vz, 0) = vS ⟨9, 0, ⟨#[]⟩⟩ (k :: t) := (vS_z (fun h => absurd h (by decide))).symm; simp only [vFK]
      by_cases k1 : k.toNat = 1
      · rw [if_pos k1]
        cases hy : (k :: t)[2]? with
        | none => rw [vF1_n hy]; exact ⟨_, zz⟩
        | some y =>
          obtain ⟨x, hx⟩ : ∃ x, (k :: t)[1]? = some x := ⟨_, List.getElem?_eq_getElem (by have := lt_of_at hy; omega)⟩; rw [vF1_s hx hy]; obtain ⟨t2, rfl⟩ := ex1 (b := t) (by simpa using hx); obtain ⟨t3, rfl⟩ := ex1 (b := t2) (by simpa using hy); exact ⟨_, (vS_1 k1).symm⟩
      · rw [if_neg k1]
        by_cases k2 : k.toNat = 2
        · rw [if_pos k2]
          cases hx : (k :: t)[1]? with
          | none => rw [vF2_n hx]; exact ⟨_, zz⟩
          | some x =>
            rw [vF2_s hx]
            split
            · rename_i hlx
              obtain ⟨t2, rfl⟩ := ex1 (b := t) (by simpa using hx); have et : ((k :: x :: t2).take (2 + x.toNat)).drop 2 = t2.take x.toNat := by rw [show 2 + x.toNat = x.toNat + 1 + 1 by omega, List.take_succ_cons, List.take_succ_cons]; rfl
              rw [et]; exact ⟨_, (vS_2 k2 (by simp at hlx; omega)).symm⟩
            · exact ⟨_, zz⟩
        · rw [if_neg k2]
          by_cases k3 : k.toNat = 3
          · rw [if_pos k3]
            cases hx : (k :: t)[1]? with
            | none => rw [vF3_n hx]; exact ⟨_, zz⟩
            | some x =>
              rw [vF3_s hx]; obtain ⟨t2, rfl⟩ := ex1 (b := t) (by simpa using hx); exact ⟨_, (vS_3 k3).symm⟩
          · rw [if_neg k3]
            split
            · rename_i k0
              have ek : k = 0 := UInt8.toNat_inj.1 k0; subst ek; refine ⟨vz, ?_⟩; unfold vS; have e1 : vB vz = [0] := by decide
              rw [e1, if_pos ⟨by decide, by simp⟩]; decide
            · exact ⟨_, zz⟩
  obtain ⟨v, hv⟩ := key; rw [hv] at h ⊢; unfold vS at h ⊢
  by_cases hc : vOk v = true ∧ b.take (vB v).length = vB v
  · rw [if_pos hc]
    refine ⟨hc.1, rfl, hc.2, ?_⟩; have := congrArg List.length hc.2; rw [List.length_take] at this; show (vB v).length ≤ _; omega
  · rw [if_neg hc] at h; exact absurd rfl h
theorem rowOk_bb {r : Row} (h : rowOk r = true) : r.length ≤ 4 ∧ ∀ v ∈ r, vOk v = true := by
  unfold rowOk at h; rw [Bool.and_eq_true, decide_eq_true_eq, List.all_eq_true] at h; exact h
def rB (r : Row) : Bs := Lift.byteOf (r.length : Int) :: r.flatMap vB
def rGo (b : Bs) : Nat → Nat → Row → Row × Nat
  | 0, at_, acc => (acc, at_)
  | n + 1, at_, acc => if (vFrom (b.drop at_)).2 = 0 then ([], 0) else rGo b n (at_ + (vFrom (b.drop at_)).2) (acc ++ [(vFrom (b.drop at_)).1])
def rFrom (b : Bs) : Row × Nat := match b[0]? with | none => ([], 0) | some k => if 4 < k.toNat then ([], 0) else rGo b k.toNat 1 []
theorem rFrom_k {b : Bs} {k : UInt8} (h : b[0]? = some k) : rFrom b = if 4 < k.toNat then ([], 0) else rGo b k.toNat 1 [] := by unfold rFrom; rw [h]
theorem rFrom_n : rFrom [] = ([], 0) := rfl
theorem cutEnd {b : Bs} {lo : Nat} (h : lo ≤ b.length) : cut? b (lo : Int) (b.length : Int) = some (b.drop lo) := by
  rw [cut_of h (Nat.le_refl _), List.take_length]
theorem vFrom_le {b : Bs} (hl : b.length ≤ 3000000) : (vFrom b).2 ≤ b.length := by
  by_cases h : (vFrom b).2 = 0
  · omega
  · exact (vFrom_ok h hl).2.2.2
theorem impl_r_loop {b : Bs} {k : UInt8} (hl : b.length ≤ 3000000) (hk : k.toNat ≤ 4) : ∀ (n j at_ : Nat) (acc : Row) (f : Nat), j + n = k.toNat → at_ ≤ b.length → acc.length = j → n < f → m_impl_RowFrom_l1 f b (at_ : Int) (k.toNat : Int) (j : Int) acc = some ((rGo b n at_ acc).1, ((rGo b n at_ acc).2 : Int)) := by
  intro n
  induction n with
  | zero =>
    intro j at_ acc f hj ha hc hf; obtain ⟨f, rfl⟩ : ∃ q, f = q + 1 := ⟨f - 1, by omega⟩; rw [m_impl_RowFrom_l1, decide_eq_false (by omega), cond_false]; unfold m_impl_RowFrom_j2; rw [E_clone (by omega), Option.bind_some]; rfl
  | succ n ih =>
    intro j at_ acc f hj ha hc hf; obtain ⟨f, rfl⟩ : ∃ q, f = q + 1 := ⟨f - 1, by omega⟩; have hd : (b.drop at_).length ≤ 3000000 := by rw [List.length_drop]; omega
    rw [m_impl_RowFrom_l1, decide_eq_true (by omega), cond_true, cutEnd ha, Option.bind_some, E_impl_ValueFrom hd, Option.bind_some, ltE, rGo]; show (bif (((vFrom (b.drop at_)).2 : Int) == 0) then _ else _) = _
    by_cases h0 : (vFrom (b.drop at_)).2 = 0
    · rw [beqT (by omega), cond_true, if_pos h0]; rfl
    · have hle := vFrom_le hd
      rw [List.length_drop] at hle; rw [beqF (by omega), cond_false, if_neg h0, app_of (by simp; omega), Option.bind_some]; show (ckI ((at_ : Int) + ((vFrom (b.drop at_)).2 : Int))).bind _ = _; rw [ckI_of (by omega) (by omega), Option.bind_some, ckI_of (by omega) (by omega), Option.bind_some, show (at_ : Int) + ((vFrom (b.drop at_)).2 : Int) = ((at_ + (vFrom (b.drop at_)).2 : Nat) : Int) by omega, natS]; exact ih (j + 1) _ _ f (by omega) (by omega) (by simp; omega) (by omega)
theorem E_impl_RowFrom {b : Bs} (hl : b.length ≤ 3000000) : m_impl_RowFrom b = some ((rFrom b).1, ((rFrom b).2 : Int)) := by
  unfold m_impl_RowFrom; cases h0 : b[0]? with
  | none =>
    have : b = [] := by rw [List.getElem?_eq_none_iff] at h0; exact List.eq_nil_of_length_eq_zero (by omega)
    subst this; rfl
  | some k =>
    have hp := lt_of_at h0; have hk := k.toNat_lt; rw [beqF (by omega), cond_false, at0 h0, Option.bind_some, rFrom_k h0]; unfold m_impl_RowFrom_j1; have e4 : ((4 : UInt8).toNat : Int) = 4 := rfl; rw [e4]
    by_cases h4 : 4 < k.toNat
    · rw [decide_eq_true (by omega), cond_true, if_pos h4]; rfl
    · rw [decide_eq_false (by omega), cond_false, if_neg h4, at0 h0, Option.bind_some]
      exact impl_r_loop hl (by omega) k.toNat 0 1 [] _ (by omega) (by omega) rfl (by omega)
theorem spec_r_loop {b : Bs} {k : UInt8} (hl : b.length ≤ 3000000) (h0 : b[0]? = some k) (hk : k.toNat ≤ 4) : ∀ (n j at_ : Nat) (acc : Row) (f : Nat), j + n = k.toNat → at_ ≤ b.length → acc.length = j → n < f → m_spec_RowFrom_l1 f b (at_ : Int) (j : Int) acc = some ((rGo b n at_ acc).1, ((rGo b n at_ acc).2 : Int)) := by
  intro n
  induction n with
  | zero =>
    intro j at_ acc f hj ha hc hf; obtain ⟨f, rfl⟩ : ∃ q, f = q + 1 := ⟨f - 1, by omega⟩; rw [m_spec_RowFrom_l1, at0 h0, Option.bind_some, decide_eq_false (by omega), cond_false]; rfl
  | succ n ih =>
    intro j at_ acc f hj ha hc hf; obtain ⟨f, rfl⟩ : ∃ q, f = q + 1 := ⟨f - 1, by omega⟩; have hd : (b.drop at_).length ≤ 3000000 := by rw [List.length_drop]; omega
    rw [m_spec_RowFrom_l1, at0 h0, Option.bind_some, decide_eq_true (by omega), cond_true, cutEnd ha, Option.bind_some, E_spec_ValueFrom hd, Option.bind_some, ltE, rGo]; show (bif (((vFrom (b.drop at_)).2 : Int) == 0) then _ else _) = _
    by_cases h1 : (vFrom (b.drop at_)).2 = 0
    · rw [beqT (by omega), cond_true, if_pos h1]; rfl
    · have hle := vFrom_le hd
      rw [List.length_drop] at hle; rw [beqF (by omega), cond_false, if_neg h1, app_of (by simp; omega), Option.bind_some]; show (ckI ((at_ : Int) + ((vFrom (b.drop at_)).2 : Int))).bind _ = _; rw [ckI_of (by omega) (by omega), Option.bind_some, ckI_of (by omega) (by omega), Option.bind_some, show (at_ : Int) + ((vFrom (b.drop at_)).2 : Int) = ((at_ + (vFrom (b.drop at_)).2 : Nat) : Int) by omega, natS]; exact ih (j + 1) _ _ f (by omega) (by omega) (by simp; omega) (by omega)
theorem E_spec_RowFrom {b : Bs} (hl : b.length ≤ 3000000) : m_spec_RowFrom b = some ((rFrom b).1, ((rFrom b).2 : Int)) := by
  unfold m_spec_RowFrom; cases h0 : b[0]? with
  | none =>
    have : b = [] := by rw [List.getElem?_eq_none_iff] at h0; exact List.eq_nil_of_length_eq_zero (by omega)
    subst this; rfl
  | some k =>
    have hp := lt_of_at h0; have hk := k.toNat_lt; rw [beqF (by omega), cond_false, at0 h0, Option.bind_some, rFrom_k h0]; unfold m_spec_RowFrom_j1
    by_cases h4 : 4 < k.toNat
    · rw [decide_eq_true (by omega), cond_true, if_pos h4]; rfl
    · rw [decide_eq_false (by omega), cond_false, if_neg h4]
      exact spec_r_loop hl h0 (by omega) k.toNat 0 1 [] _ (by omega) (by omega) rfl (by omega)
theorem vOk_sm {v : V} (h : vOk v = true) : vSm v := by
  unfold vSm; rcases vOk_k h with k | k | k | k
  · unfold vOk at h; rw [if_pos k] at h; have := of_decide_eq_true h; rw [this]; decide
  · rw [(vOk_1 h k).2.2]; decide
  · have := (vOk_2 h k).2; omega
  · rw [(vOk_3 h k).2.2]; decide
theorem drop_take_app {b : Bs} {i j k : Nat} (h1 : i ≤ j) (h2 : j ≤ k) : (b.take k).drop i = (b.take j).drop i ++ (b.take k).drop j := by
  have e : b.take k = b.take j ++ (b.take k).drop j := by
    have := List.take_append_drop j (b.take k); rw [List.take_take, Nat.min_eq_left h2] at this; exact this.symm
  rcases Nat.lt_or_ge b.length j with hl | hl
  rotate_left
  · conv => lhs; rw [e]
    rw [List.drop_append_of_le_length (by rw [List.length_take]; omega)]
  · have e1 : b.take k = b := List.take_of_length_le (by omega)
    have e2 : b.take j = b := List.take_of_length_le (by omega); rw [e1, e2, List.drop_of_length_le (by omega : b.length ≤ j), List.append_nil]
theorem rGo_ok {b : Bs} (hl : b.length ≤ 3000000) : ∀ (n at_ : Nat) (acc : Row), at_ ≤ b.length → (rGo b n at_ acc).2 ≠ 0 → ∃ vs : Row, (rGo b n at_ acc).1 = acc ++ vs ∧ vs.length = n ∧ (∀ v ∈ vs, vOk v = true) ∧ at_ ≤ (rGo b n at_ acc).2 ∧ (rGo b n at_ acc).2 ≤ b.length ∧ vs.flatMap vB = (b.take (rGo b n at_ acc).2).drop at_ := by
  intro n
  induction n with
  | zero =>
    intro at_ acc ha h; refine ⟨[], by simp [rGo], rfl, by simp, Nat.le_refl _, ha, ?_⟩; show [] = (b.take at_).drop at_; rw [List.drop_of_length_le (by rw [List.length_take]; omega)]
  | succ n ih =>
    intro at_ acc ha h; rw [rGo] at h ⊢
    by_cases h0 : (vFrom (b.drop at_)).2 = 0
    · rw [if_pos h0] at h; exact absurd rfl h
    · rw [if_neg h0] at h ⊢
      have hd : (b.drop at_).length ≤ 3000000 := by rw [List.length_drop]; omega
      obtain ⟨h1, h2, h3, h4⟩ := vFrom_ok h0 hd; rw [List.length_drop] at h4; obtain ⟨vs, e1, e2, e3, e4, e5, e6⟩ := ih _ _ (by omega) h; refine ⟨(vFrom (b.drop at_)).1 :: vs, by rw [e1]; simp, by simp [e2], ?_, by omega, e5, ?_⟩
      · intro v hv
        rcases List.mem_cons.1 hv with rfl | hv
        · exact h1
        · exact e3 v hv
      · rw [List.flatMap_cons, e6, ← h3, drop_take_app (i := at_) (j := at_ + (vFrom (b.drop at_)).2) (by omega) e4]
        congr 1
        rw [List.drop_take]
        congr 1
        omega
theorem rFrom_ok {b : Bs} (h : (rFrom b).2 ≠ 0) (hl : b.length ≤ 3000000) : rowOk (rFrom b).1 = true ∧ rSm (rFrom b).1 ∧ (rFrom b).2 ≤ b.length ∧ rB (rFrom b).1 = b.take (rFrom b).2 := by
  cases h0 : b[0]? with
  | none => unfold rFrom at h; rw [h0] at h; exact absurd rfl h
  | some k =>
    have hp := lt_of_at h0; rw [rFrom_k h0] at h ⊢
    by_cases h4 : 4 < k.toNat
    · rw [if_pos h4] at h; exact absurd rfl h
    · rw [if_neg h4] at h ⊢
      obtain ⟨vs, e1, e2, e3, e4, e5, e6⟩ := rGo_ok hl _ 1 [] (by omega) h; rw [List.nil_append] at e1; rw [e1]; refine ⟨?_, ⟨by omega, fun v hv => vOk_sm (e3 v hv)⟩, e5, ?_⟩
      · unfold rowOk
        rw [decide_eq_true (by omega), Bool.true_and, List.all_eq_true]; exact e3
      · unfold rB
        rw [e2, e6, byteOf_toNat]; obtain ⟨t, rfl⟩ := ex1 h0; generalize hm : (rGo (k :: t) k.toNat 1 []).2 = m at *; obtain ⟨m, rfl⟩ : ∃ q, m = q + 1 := ⟨m - 1, by omega⟩; rfl
theorem rFrom_le {b : Bs} (hl : b.length ≤ 3000000) : (rFrom b).2 ≤ b.length := by
  by_cases h : (rFrom b).2 = 0
  · omega
  · exact (rFrom_ok h hl).2.2.1
theorem flat_len8 {r : Row} (h : ∀ v ∈ r, vOk v = true) : (r.flatMap vB).length ≤ r.length * 8 := by
  induction r with
  | nil => simp
  | cons v r ih =>
    rw [List.flatMap_cons, List.length_append, List.length_cons]; have := vB_len (h v (by simp)); have := ih (fun v hv => h v (by simp [hv])); omega
theorem rB_len {r : Row} (h : rowOk r = true) : (rB r).length ≤ 33 := by
  obtain ⟨h1, h2⟩ := rowOk_bb h; unfold rB; rw [List.length_cons]; have := flat_len8 h2; omega
theorem take_succ_flat {α : Type} {r : List α} {f : α → Bs} {k : Nat} {v : α} (h : r[k]? = some v) : (r.take (k + 1)).flatMap f = (r.take k).flatMap f ++ f v := by
  rw [List.take_add_one, h]; simp
theorem impl_rB_loop {r : Row} (h : rowOk r = true) : ∀ (n k : Nat) (f : Nat), k + n = r.length → n < f → m_impl_RowBytes_l1 f r (r.length : Int) (k : Int) (Lift.byteOf (r.length : Int) :: (r.take k).flatMap vB) = some (rB r) := by
  obtain ⟨h1, h2⟩ := rowOk_bb h; intro n
  induction n with
  | zero =>
    intro k f hk hf; obtain ⟨f, rfl⟩ : ∃ q, f = q + 1 := ⟨f - 1, by omega⟩; obtain rfl : k = r.length := by omega
    rw [m_impl_RowBytes_l1, dnlt, cond_false, List.take_length]; unfold m_impl_RowBytes_j1; rw [L_slices_Clip_Lbyte_byte_o, Option.bind_some]; rfl
  | succ n ih =>
    intro k f hk hf; obtain ⟨f, rfl⟩ : ∃ q, f = q + 1 := ⟨f - 1, by omega⟩; have hx : r[k]? = some r[k] := List.getElem?_eq_getElem (by omega); have hv := h2 _ (List.mem_of_getElem? hx); have hb := vB_len hv; have hf8 := flat_len8 (r := r.take k) (fun v hv => h2 v (List.mem_of_mem_take hv)); rw [List.length_take] at hf8; rw [m_impl_RowBytes_l1, dlt (by omega), cond_true, at_of hx, Option.bind_some, ltE, E_impl_Value_bytes hv, Option.bind_some, app_of (by rw [List.length_cons]; omega), Option.bind_some, ck1 (by omega), Option.bind_some, natS, List.cons_append, ← take_succ_flat hx]; exact ih (k + 1) f (by omega) (by omega)
theorem E_impl_RowBytes {r : Row} (hs : rSm r) : m_impl_RowBytes r = some (if rowOk r then rB r else []) := by
  unfold m_impl_RowBytes; rw [E_impl_RowOk hs, Option.bind_some]; cases h : rowOk r with
  | false => rfl
  | true =>
    rw [Bool.not_true, cond_false, ltE, if_pos rfl]; exact impl_rB_loop h r.length 0 _ (by omega) (by omega)
theorem spec_rB_loop {r : Row} (h : rowOk r = true) : ∀ (n k : Nat) (f : Nat), k + n = r.length → n < f → m_spec_RowBytes_l1 f r (k : Int) (Lift.byteOf (r.length : Int) :: (r.take k).flatMap vB) = some (rB r) := by
  obtain ⟨h1, h2⟩ := rowOk_bb h; intro n
  induction n with
  | zero =>
    intro k f hk hf; obtain ⟨f, rfl⟩ : ∃ q, f = q + 1 := ⟨f - 1, by omega⟩; obtain rfl : k = r.length := by omega
    rw [m_spec_RowBytes_l1, dnlt, cond_false, List.take_length]; rfl
  | succ n ih =>
    intro k f hk hf; obtain ⟨f, rfl⟩ : ∃ q, f = q + 1 := ⟨f - 1, by omega⟩; have hx : r[k]? = some r[k] := List.getElem?_eq_getElem (by omega); have hv := h2 _ (List.mem_of_getElem? hx); have hb := vB_len hv; have hsm := vOk_sm hv; unfold vSm at hsm; have hf8 := flat_len8 (r := r.take k) (fun v hv => h2 v (List.mem_of_mem_take hv)); rw [List.length_take] at hf8; rw [m_spec_RowBytes_l1, dlt (by omega), cond_true, at_of hx, Option.bind_some, E_spec_ValueBytes (by omega), hv, if_pos rfl, Option.bind_some, app_of (by rw [List.length_cons]; omega), Option.bind_some, ck1 (by omega), Option.bind_some, natS, List.cons_append, ← take_succ_flat hx]; exact ih (k + 1) f (by omega) (by omega)
theorem E_spec_RowBytes {r : Row} (hs : rSm r) : m_spec_RowBytes r = some (if rowOk r then rB r else []) := by
  unfold m_spec_RowBytes; rw [E_spec_RowOk hs, Option.bind_some]; cases h : rowOk r with
  | false => rfl
  | true =>
    rw [Bool.not_true, cond_false, ltE, if_pos rfl]; exact spec_rB_loop h r.length 0 _ (by omega) (by omega)
def wB (w : Wr) : Bs := Lift.byteOf w.Key :: Lift.byteOf (if w.Gone then 1 else 0) :: rB w.Row
def bodyB (e : En) : Bs := Lift.byteOf e.Time :: Lift.byteOf (e.Writes.length : Int) :: e.Writes.flatMap wB
def sumGo : Nat → Int → Bs → Int
  | _, s, [] => s
  | k, s, x :: r => sumGo (k + 1) ((s + x.toNat * (k + 1)) % 251) r
def sumS (b : Bs) : UInt8 := Lift.byteOf (sumGo 0 0 b)
def frame (x : Bs) : Bs := Lift.byteOf ((x.length : Int) / 256) :: Lift.byteOf (x.length : Int) :: (x ++ [sumS x])
theorem remP {a b : Int} (h : 0 ≤ a) (hb : 0 < b) : remI a b = some (a % b) := by
  unfold remI; rw [Int.tmod_eq_emod_of_nonneg h, if_neg (by omega)]
theorem drop_cons {α : Type} {l : List α} {k : Nat} {x : α} (h : l[k]? = some x) : l.drop k = x :: l.drop (k + 1) := by
  rw [List.drop_eq_getElem_cons (lt_of_at h)]
  congr 1
  exact (List.getElem?_eq_some_iff.1 h).2
theorem sum_step {x : UInt8} {k : Nat} {s : Int} (hk : k ≤ 3000000) (hs : 0 ≤ s ∧ s < 251) : 0 ≤ s + (x.toNat : Int) * ((k : Int) + 1) ∧ s + (x.toNat : Int) * ((k : Int) + 1) ≤ 1000000000 ∧ 0 ≤ (x.toNat : Int) * ((k : Int) + 1) ∧ (x.toNat : Int) * ((k : Int) + 1) ≤ 1000000000 := by
  have hx := x.toNat_lt; have h1 : x.toNat * (k + 1) ≤ 255 * 3000001 := Nat.mul_le_mul (by omega) (by omega); have e : (x.toNat : Int) * ((k : Int) + 1) = ((x.toNat * (k + 1) : Nat) : Int) := by simp
  omega
theorem E_impl_sumOf {b : Bs} (hl : b.length ≤ 3000000) : m_impl_sumOf b = some (sumS b) := by
  unfold m_impl_sumOf sumS
  have key : ∀ (n k : Nat) (s : Int) (f : Nat), k + n = b.length → 0 ≤ s ∧ s < 251 → n < f → m_impl_sumOf_l1 f s b (b.length : Int) (k : Int) = some (Lift.byteOf (sumGo k s (b.drop k))) := by
    intro n
    induction n with
    | zero =>
      intro k s f hk hs hf; obtain ⟨f, rfl⟩ : ∃ q, f = q + 1 := ⟨f - 1, by omega⟩; obtain rfl : k = b.length := by omega
      rw [m_impl_sumOf_l1, dnlt, cond_false, List.drop_length]; rfl
    | succ n ih =>
      intro k s f hk hs hf; obtain ⟨f, rfl⟩ : ∃ q, f = q + 1 := ⟨f - 1, by omega⟩; have hx : b[k]? = some b[k] := List.getElem?_eq_getElem (by omega); obtain ⟨h1, h2, h3, h4⟩ := sum_step (x := b[k]) (k := k) (s := s) (by omega) hs; rw [m_impl_sumOf_l1, dlt (by omega), cond_true, at_of hx, Option.bind_some, ck1 (by omega), Option.bind_some, ckI_of (by omega) (by omega), Option.bind_some, ckI_of (by omega) (by omega), Option.bind_some, remP h1 (by decide), Option.bind_some, Option.bind_some, drop_cons hx, sumGo, natS]; refine (ih (k + 1) _ f (by omega) ?_ (by omega)).trans ?_
      · exact ⟨Int.emod_nonneg _ (by decide), Int.emod_lt_of_pos _ (by decide)⟩
      · rw [← natS]
  have := key b.length 0 0 _ (by omega) (by omega) fuel0; rw [List.drop_zero] at this; exact this
theorem E_spec_l18Sum {b : Bs} (hl : b.length ≤ 3000000) : m_spec_l18Sum b = some (sumS b) := by
  unfold m_spec_l18Sum sumS
  have key : ∀ (n k : Nat) (s : Int) (f : Nat), k + n = b.length → 0 ≤ s ∧ s < 251 → n < f → m_spec_l18Sum_l1 f b s (k : Int) = some (Lift.byteOf (sumGo k s (b.drop k))) := by
    intro n
    induction n with
    | zero =>
      intro k s f hk hs hf; obtain ⟨f, rfl⟩ : ∃ q, f = q + 1 := ⟨f - 1, by omega⟩; obtain rfl : k = b.length := by omega
      rw [m_spec_l18Sum_l1, dnlt, cond_false, List.drop_length]; rfl
    | succ n ih =>
      intro k s f hk hs hf; obtain ⟨f, rfl⟩ : ∃ q, f = q + 1 := ⟨f - 1, by omega⟩; have hx : b[k]? = some b[k] := List.getElem?_eq_getElem (by omega); obtain ⟨h1, h2, h3, h4⟩ := sum_step (x := b[k]) (k := k) (s := s) (by omega) hs; rw [m_spec_l18Sum_l1, dlt (by omega), cond_true, at_of hx, Option.bind_some, ck1 (by omega), Option.bind_some, ckI_of (by omega) (by omega), Option.bind_some, ckI_of (by omega) (by omega), Option.bind_some, remP h1 (by decide), Option.bind_some, Option.bind_some, drop_cons hx, sumGo, natS]; refine (ih (k + 1) _ f (by omega) ?_ (by omega)).trans ?_
      · exact ⟨Int.emod_nonneg _ (by decide), Int.emod_lt_of_pos _ (by decide)⟩
      · rw [← natS]
  have := key b.length 0 0 _ (by omega) (by omega) fuel0; rw [List.drop_zero] at this; exact this
theorem wOk_b {ws : List Wr} (h : wOk ws = true) : ws.length ≤ 5 ∧ ∀ w ∈ ws, rowOk w.Row = true ∧ 0 ≤ w.Key ∧ w.Key ≤ 4 := by
  refine ⟨adj_len h, fun w hw => ?_⟩; unfold wOk at h; rw [Bool.and_eq_true, List.all_eq_true] at h; have := h.1 w hw; unfold wb keyB at this; simp at this; exact ⟨this.2.1, this.1.1, this.1.2⟩
theorem wB_len {w : Wr} (h : rowOk w.Row = true) : (wB w).length ≤ 35 := by
  unfold wB; rw [List.length_cons, List.length_cons]; have := rB_len h; omega
theorem flatW_len {ws : List Wr} (h : ∀ w ∈ ws, rowOk w.Row = true) : (ws.flatMap wB).length ≤ ws.length * 35 := by
  induction ws with
  | nil => simp
  | cons v r ih =>
    rw [List.flatMap_cons, List.length_append, List.length_cons]; have := wB_len (h v (by simp)); have := ih (fun v hv => h v (by simp [hv])); omega
theorem logOk1 {e : En} (h : logOk [e] = true) : 1 ≤ e.Time ∧ e.Time ≤ 40 ∧ wOk e.Writes = true := by
  unfold logOk at h; rw [Bool.and_eq_true, Bool.and_eq_true, List.all_eq_true] at h; have := h.1.1 e (by simp); unfold eb at this; simp at this; exact ⟨this.1.1, this.1.2, this.2⟩
theorem bodyB_len {e : En} (h : logOk [e] = true) : (bodyB e).length ≤ 177 := by
  obtain ⟨_, _, h3⟩ := logOk1 h; obtain ⟨h4, h5⟩ := wOk_b h3; unfold bodyB; rw [List.length_cons, List.length_cons]; have := flatW_len (ws := e.Writes) fun w hw => (h5 w hw).1; omega
theorem E_framed {x : Bs} (hl : x.length ≤ 100000) : m_impl_framed x = some (frame x) := by
  unfold m_impl_framed frame; rw [shr8, Option.bind_some, ltE, app_of (by simp; omega), Option.bind_some, E_impl_sumOf (by omega), Option.bind_some, app_of (by simp; omega), Option.bind_some, L_slices_Clip_Lbyte_byte_o]; rfl
theorem E_impl_entryBytes {e : En} (h : logOk [e] = true) (hs : wsSm e.Writes) : m_impl_entryBytes e = some (frame (bodyB e)) := by
  obtain ⟨_, _, h3⟩ := logOk1 h; obtain ⟨h4, h5⟩ := wOk_b h3; have hb := bodyB_len h; unfold m_impl_entryBytes; rw [ltE]
  have key : ∀ (n k : Nat) (f : Nat), k + n = e.Writes.length → n < f → m_impl_entryBytes_l1 f e.Writes (e.Writes.length : Int) (k : Int) (Lift.byteOf e.Time :: Lift.byteOf (e.Writes.length : Int) :: (e.Writes.take k).flatMap wB) = some (frame (bodyB e)) := by
    intro n
    induction n with
    | zero =>
      intro k f hk hf; obtain ⟨f, rfl⟩ : ∃ q, f = q + 1 := ⟨f - 1, by omega⟩; obtain rfl : k = e.Writes.length := by omega
      rw [m_impl_entryBytes_l1, dnlt, cond_false, List.take_length]; unfold m_impl_entryBytes_j1; rw [show Lift.byteOf e.Time :: Lift.byteOf (e.Writes.length : Int) :: e.Writes.flatMap wB = bodyB e from rfl, E_framed (by omega), Option.bind_some]
    | succ n ih =>
      intro k f hk hf; obtain ⟨f, rfl⟩ : ∃ q, f = q + 1 := ⟨f - 1, by omega⟩; have hx : e.Writes[k]? = some e.Writes[k] := List.getElem?_eq_getElem (by omega); have hm := List.mem_of_getElem? hx; have hw := (h5 _ hm).1; have h8 := flatW_len (ws := e.Writes.take k) fun w hw => (h5 w (List.mem_of_mem_take hw)).1; rw [List.length_take] at h8; have h9 := rB_len hw
      have et : m_impl_truthIf (e.Writes[k]).Gone = some (if (e.Writes[k]).Gone then 1 else 0) := by
        unfold m_impl_truthIf; cases (e.Writes[k]).Gone <;> rfl
      rw [m_impl_entryBytes_l1, dlt (by omega), cond_true, at_of hx, Option.bind_some, ltE, et, Option.bind_some, app_of (by simp only [List.length_cons, List.length_nil, List.length_append]; omega), Option.bind_some, E_impl_RowBytes (hs.2 _ hm), hw, if_pos rfl, Option.bind_some, app_of (by simp only [List.length_cons, List.length_nil, List.length_append]; omega), Option.bind_some, ck1 (by omega), Option.bind_some, natS]
      have e2 : Lift.byteOf e.Time :: Lift.byteOf (e.Writes.length : Int) :: (e.Writes.take k).flatMap wB ++ [Lift.byteOf (e.Writes[k]).Key, Lift.byteOf (if (e.Writes[k]).Gone = true then 1 else 0)] ++ rB (e.Writes[k]).Row = Lift.byteOf e.Time :: Lift.byteOf (e.Writes.length : Int) :: (e.Writes.take (k + 1)).flatMap wB := by
        rw [take_succ_flat hx]; simp [wB]
      rw [e2]; exact ih (k + 1) f (by omega) (by omega)
  exact key e.Writes.length 0 _ (by omega) fuel0
theorem E_spec_l18Body {e : En} (h : logOk [e] = true) (hs : wsSm e.Writes) : m_spec_l18Body e = some (bodyB e) := by
  obtain ⟨_, _, h3⟩ := logOk1 h; obtain ⟨h4, h5⟩ := wOk_b h3; unfold m_spec_l18Body; rw [ltE]
  have key : ∀ (n k : Nat) (f : Nat), k + n = e.Writes.length → n < f → m_spec_l18Body_l1 f e (k : Int) (Lift.byteOf e.Time :: Lift.byteOf (e.Writes.length : Int) :: (e.Writes.take k).flatMap wB) = some (bodyB e) := by
    intro n
    induction n with
    | zero =>
      intro k f hk hf; obtain ⟨f, rfl⟩ : ∃ q, f = q + 1 := ⟨f - 1, by omega⟩; obtain rfl : k = e.Writes.length := by omega
      rw [m_spec_l18Body_l1, dnlt, cond_false, List.take_length]; rfl
    | succ n ih =>
      intro k f hk hf; obtain ⟨f, rfl⟩ : ∃ q, f = q + 1 := ⟨f - 1, by omega⟩; have hx : e.Writes[k]? = some e.Writes[k] := List.getElem?_eq_getElem (by omega); have hm := List.mem_of_getElem? hx; have hw := (h5 _ hm).1; have h8 := flatW_len (ws := e.Writes.take k) fun w hw => (h5 w (List.mem_of_mem_take hw)).1; rw [List.length_take] at h8; have h9 := rB_len hw
      have et : m_spec_l2Bool (e.Writes[k]).Gone = some (if (e.Writes[k]).Gone then 1 else 0) := by
        unfold m_spec_l2Bool; cases (e.Writes[k]).Gone <;> rfl
      rw [m_spec_l18Body_l1, dlt (by omega), cond_true, at_of hx, Option.bind_some, ltE, et, Option.bind_some, app_of (by simp only [List.length_cons, List.length_nil, List.length_append]; omega), Option.bind_some, E_spec_RowBytes (hs.2 _ hm), hw, if_pos rfl, Option.bind_some, app_of (by simp only [List.length_cons, List.length_nil, List.length_append]; omega), Option.bind_some, ck1 (by omega), Option.bind_some, natS]
      have e2 : Lift.byteOf e.Time :: Lift.byteOf (e.Writes.length : Int) :: (e.Writes.take k).flatMap wB ++ [Lift.byteOf (e.Writes[k]).Key, Lift.byteOf (if (e.Writes[k]).Gone = true then 1 else 0)] ++ rB (e.Writes[k]).Row = Lift.byteOf e.Time :: Lift.byteOf (e.Writes.length : Int) :: (e.Writes.take (k + 1)).flatMap wB := by
        rw [take_succ_flat hx]; simp [wB]
      rw [e2]; exact ih (k + 1) f (by omega) (by omega)
  exact key e.Writes.length 0 _ (by omega) fuel0
theorem en1 {e : En} (h : wsSm e.Writes) : enSm [e] := ⟨by simp, fun x hx => by simp at hx; subst hx; exact h⟩
theorem E_impl_EntryBytes {e : En} (hs : wsSm e.Writes) : m_impl_EntryBytes e = some (if logOk [e] then frame (bodyB e) else []) := by
  unfold m_impl_EntryBytes; rw [E_impl_LogOk (en1 hs), Option.bind_some]; cases h : logOk [e] with
  | false => rfl
  | true => rw [Bool.not_true, cond_false, E_impl_entryBytes h hs]; rfl
theorem E_spec_EntryBytes {e : En} (hs : wsSm e.Writes) : m_spec_EntryBytes e = some (if logOk [e] then frame (bodyB e) else []) := by
  unfold m_spec_EntryBytes; rw [E_spec_LogOk (en1 hs), Option.bind_some]; cases h : logOk [e] with
  | false => rfl
  | true =>
    have hb := bodyB_len h; rw [Bool.not_true, cond_false, E_spec_l18Body h hs, Option.bind_some, quo256 (by omega) (by omega), Option.bind_some, rem256 (by omega), Option.bind_some, ltE, app_of (by simp; omega), Option.bind_some, E_spec_l18Sum (by omega), Option.bind_some, app_of (by simp; omega), Option.bind_some, byteOf_mod]; rfl
def unfN (n : Nat) (r : Bs) : Bs × Nat := if r[n]? = some (sumS (r.take n)) then (r.take n, n + 3) else ([], 0)
def unfr (b : Bs) : Bs × Nat :=
  match b with
  | h :: l :: r => unfN (256 * h.toNat + l.toNat) r
  | _ => ([], 0)
theorem unfr_c (h l : UInt8) (r : Bs) : unfr (h :: l :: r) = unfN (256 * h.toNat + l.toNat) r := rfl
theorem cut2 {h l : UInt8} {r : Bs} {n : Nat} (hn : n ≤ r.length) : cut? (h :: l :: r) 2 ((n : Int) + 2) = some (r.take n) := by
  have := cut_of (l := h :: l :: r) (lo := 2) (hi := n + 2) (by omega) (by simp; omega); rw [show (((2 : Nat) : Int)) = 2 from rfl, show (((n + 2 : Nat) : Int)) = (n : Int) + 2 by omega] at this; rw [this, List.take_succ_cons, List.take_succ_cons]; rfl
theorem E_impl_unframed {b : Bs} (hl : b.length ≤ 3000000) : m_impl_unframed b = some ((unfr b).1, ((unfr b).2 : Int)) := by
  unfold m_impl_unframed
  match b, hl with
  | [], _ => rfl
  | [_], _ => rfl
  | [h, l], _ => rw [unfr_c]; unfold unfN; rw [if_neg (by simp)]; rfl
  | h :: l :: x :: r', hl =>
    have h1 := h.toNat_lt; have h2 := l.toNat_lt; generalize hr : x :: r' = r at *; have hr0 : 0 < r.length := by rw [← hr]; simp
    have hl' : r.length + 2 ≤ 3000000 := by simpa using hl
    have hlen : (h :: l :: r).length = r.length + 2 := by simp
    rw [hlen, decide_eq_false (by omega), cond_false, at0 (show (h :: l :: r)[0]? = some h from rfl), Option.bind_some, shl8 (by omega) (by omega), Option.bind_some, at1 (show (h :: l :: r)[1]? = some l from rfl), Option.bind_some, ckI_of (by omega) (by omega), Option.bind_some]; rw [unfr_c]; unfold unfN; show ((ckI (256 * (h.toNat : Int) + (l.toNat : Int) + 3)).bind _) = _; generalize hn : 256 * h.toNat + l.toNat = n; have hni : 256 * (h.toNat : Int) + (l.toNat : Int) = (n : Int) := by omega
    rw [hni, ckI_of (by omega) (by omega), Option.bind_some]
    by_cases hc : n < r.length
    · have hx : r[n]? = some r[n] := List.getElem?_eq_getElem hc
      have hat : at? (h :: l :: r) ((n : Int) + 2) = some r[n] := at_of (k := n + 2) (by simpa using hx); have htl : (r.take n).length ≤ 3000000 := by rw [List.length_take]; omega
      rw [decide_eq_false (by omega), cond_false, ckI_of (by omega) (by omega), Option.bind_some, cut2 (by omega), Option.bind_some, E_impl_sumOf htl, Option.bind_some, Option.bind_some, hat, Option.bind_some]; unfold m_impl_unframed_j1
      by_cases he : r[n] = sumS (r.take n)
      · rw [hx, if_pos (by rw [he]), he, show (((sumS (r.take n)).toNat : Int) != ((sumS (r.take n)).toNat : Int)) = false by simp, cond_false, ckI_of (by omega) (by omega), Option.bind_some, cut2 (by omega), Option.bind_some, ckI_of (by omega) (by omega), Option.bind_some]; rfl
      · rw [hx, if_neg (fun e => he (Option.some.inj e)), beqF' (fun e => he (UInt8.toNat_inj.1 (by omega))), cond_true]; rfl
    · have hx : r[n]? = none := List.getElem?_eq_none (by omega)
      rw [decide_eq_true (by omega), cond_true, hx, if_neg (by simp)]; rfl
def wr1 (x y : UInt8) (r : Bs) : Wr := ⟨x.toNat, (rFrom r).1, decide (y.toNat = 1)⟩
def wGo : Nat → Bs → List Wr → Option (List Wr × Bs)
  | 0, rest, acc => some (acc, rest)
  | n + 1, x :: y :: r, acc => if (rFrom r).2 = 0 then none else wGo n (r.drop (rFrom r).2) (acc ++ [wr1 x y r])
  | _ + 1, _, _ => none
def wGoS : Nat → Bs → List Wr → Option (List Wr × Bs)
  | 0, rest, acc => some (acc, rest)
  | n + 1, x :: y :: r, acc => if 1 < y.toNat then none else if (rFrom r).2 = 0 then none else wGoS n (r.drop (rFrom r).2) (acc ++ [wr1 x y r])
  | _ + 1, _, _ => none
theorem wGo_c {n : Nat} {x y : UInt8} {r : Bs} {acc : List Wr} : wGo (n + 1) (x :: y :: r) acc = if (rFrom r).2 = 0 then none else wGo n (r.drop (rFrom r).2) (acc ++ [wr1 x y r]) := rfl
theorem wGoS_c {n : Nat} {x y : UInt8} {r : Bs} {acc : List Wr} : wGoS (n + 1) (x :: y :: r) acc = if 1 < y.toNat then none else if (rFrom r).2 = 0 then none else wGoS n (r.drop (rFrom r).2) (acc ++ [wr1 x y r]) := rfl
theorem wB_1 {x y : UInt8} {r : Bs} (h : (rFrom r).2 ≠ 0) (hl : r.length ≤ 3000000) : wB (wr1 x y r) = x :: (if y.toNat = 1 then 1 else 0) :: r.take (rFrom r).2 := by
  unfold wB wr1; rw [byteOf_toNat, (rFrom_ok h hl).2.2.2]
  by_cases hy : y.toNat = 1
  · rw [if_pos hy, decide_eq_true hy]; rfl
  · rw [if_neg hy, decide_eq_false hy]; rfl
theorem wGo_ok : ∀ (n : Nat) (rest : Bs) (acc ws : List Wr) (r' : Bs), rest.length ≤ 3000000 → wGo n rest acc = some (ws, r') → ∃ us : List Wr, ws = acc ++ us ∧ us.length = n ∧ (∀ w ∈ us, rowOk w.Row = true ∧ rSm w.Row) ∧ (us.flatMap wB).length + r'.length = rest.length ∧ (us.flatMap wB ++ r' = rest → wGoS n rest acc = some (ws, r')) := by
  intro n
  induction n with
  | zero => intro rest acc ws r' hl h; cases h; exact ⟨[], by simp, rfl, by simp, by simp, fun _ => rfl⟩
  | succ n ih =>
    intro rest acc ws r' hl h
    match rest, hl, h with
    | [], _, h => cases h
    | [_], _, h => cases h
    | x :: y :: r, hl, h =>
      rw [wGo_c] at h
      by_cases h0 : (rFrom r).2 = 0
      · rw [if_pos h0] at h; cases h
      · rw [if_neg h0] at h
        have hr : r.length ≤ 3000000 := by simp at hl; omega
        obtain ⟨k1, k2, k3, k4⟩ := rFrom_ok h0 hr; obtain ⟨us, e1, e2, e3, e4, e5⟩ := ih _ _ _ _ (by rw [List.length_drop]; omega) h; refine ⟨wr1 x y r :: us, by rw [e1]; simp, by simp [e2], ?_, ?_, fun he => ?_⟩
        · intro w hw
          rcases List.mem_cons.1 hw with rfl | hw
          · exact ⟨k1, k2⟩
          · exact e3 w hw
        · rw [List.flatMap_cons, wB_1 h0 hr, List.length_append, List.length_cons, List.length_cons, List.length_take, List.length_cons, List.length_cons]
          rw [List.length_drop] at e4; omega
        · rw [List.flatMap_cons, wB_1 h0 hr] at he
          have hy : (if y.toNat = 1 then (1 : UInt8) else 0) = y := (List.cons.inj (List.cons.inj he).2).1; have ht : r.take (rFrom r).2 ++ us.flatMap wB ++ r' = r := (List.cons.inj (List.cons.inj he).2).2
          have hy1 : ¬ 1 < y.toNat := by
            split at hy
            · omega
            · rw [← hy]; decide
          have h5 := e5 (by
            have h6 : r.take (rFrom r).2 ++ (us.flatMap wB ++ r') = r.take (rFrom r).2 ++ r.drop (rFrom r).2 := by rw [← List.append_assoc, ht, List.take_append_drop]
            exact List.append_cancel_left h6)
          rw [wGoS_c, if_neg hy1, if_neg h0]; exact h5
theorem wGoS_ok : ∀ (n : Nat) (rest : Bs) (acc ws : List Wr) (r' : Bs), rest.length ≤ 3000000 → wGoS n rest acc = some (ws, r') → wGo n rest acc = some (ws, r') ∧ ∃ us : List Wr, ws = acc ++ us ∧ us.flatMap wB ++ r' = rest := by
  intro n
  induction n with
  | zero => intro rest acc ws r' hl h; cases h; exact ⟨rfl, [], by simp, by simp⟩
  | succ n ih =>
    intro rest acc ws r' hl h
    match rest, hl, h with
    | [], _, h => cases h
    | [_], _, h => cases h
    | x :: y :: r, hl, h =>
      rw [wGoS_c] at h
      by_cases hy : 1 < y.toNat
      · rw [if_pos hy] at h; cases h
      · rw [if_neg hy] at h
        by_cases h0 : (rFrom r).2 = 0
        · rw [if_pos h0] at h; cases h
        · rw [if_neg h0] at h
          have hr : r.length ≤ 3000000 := by simp at hl; omega
          obtain ⟨k1, us, e1, e2⟩ := ih _ _ _ _ (by rw [List.length_drop]; omega) h; refine ⟨by rw [wGo_c, if_neg h0]; exact k1, wr1 x y r :: us, by rw [e1]; simp, ?_⟩; rw [List.flatMap_cons, wB_1 h0 hr]
          have ey : (if y.toNat = 1 then (1 : UInt8) else 0) = y := by
            split
            · rename_i h1; exact (UInt8.toNat_inj.1 h1).symm
            · exact (UInt8.toNat_inj.1 (show y.toNat = 0 by omega)).symm
          rw [ey]; show x :: y :: (r.take (rFrom r).2 ++ us.flatMap wB ++ r') = _; rw [List.append_assoc, e2, List.take_append_drop]
def ez : En := ⟨0, []⟩
def entR (t : UInt8) (o : Option (List Wr × Bs)) : Option En :=
  match o with
  | some (ws, []) => if logOk [⟨t.toNat, ws⟩] then some ⟨t.toNat, ws⟩ else none
  | _ => none
def entB (body : Bs) : Option En :=
  match body with
  | t :: c :: r => entR t (wGoS c.toNat r [])
  | _ => none
theorem entB_c (t c : UInt8) (r : Bs) : entB (t :: c :: r) = entR t (wGoS c.toNat r []) := rfl
theorem entR_s (t : UInt8) (ws : List Wr) : entR t (some (ws, [])) = if logOk [⟨t.toNat, ws⟩] then some ⟨t.toNat, ws⟩ else none := rfl
def entFrom (b : Bs) : En × Nat :=
  if (unfr b).2 = 0 then (ez, 0) else match entB (unfr b).1 with | some e => (e, (unfr b).2) | none => (ez, 0)
theorem unfr_ok {b : Bs} (h : (unfr b).2 ≠ 0) : (unfr b).2 ≤ b.length ∧ (unfr b).2 = (unfr b).1.length + 3 ∧ (unfr b).1.length ≤ 65535 ∧ b.take (unfr b).2 = frame (unfr b).1 := by
  match b, h with
  | [], h => exact absurd rfl h
  | [_], h => exact absurd rfl h
  | x :: y :: r, h =>
    have h1 := x.toNat_lt; have h2 := y.toNat_lt; rw [unfr_c] at h ⊢; unfold unfN at h ⊢; generalize hn : 256 * x.toNat + y.toNat = n at *
    split at h
    · rename_i hc
      rw [if_pos hc]; have hlt := lt_of_at hc; have e1 : (r.take n).length = n := by rw [List.length_take]; omega
      refine ⟨by simp; omega, by rw [e1], by rw [e1]; omega, ?_⟩; show (x :: y :: r).take (n + 3) = _; unfold frame; rw [e1, show n + 3 = n + 1 + 1 + 1 by omega, List.take_succ_cons, List.take_succ_cons, List.take_add_one, hc]; have ex : Lift.byteOf ((n : Int) / 256) = x := by rw [show (n : Int) / 256 = (x.toNat : Int) by omega, byteOf_toNat]
      have ey : Lift.byteOf (n : Int) = y := by rw [← byteOf_mod, show (n : Int) % 256 = (y.toNat : Int) by omega, byteOf_toNat]
      rw [ex, ey]; rfl
    · exact absurd rfl h
theorem frame_inj {a b : Bs} (h : frame a = frame b) : a = b := by
  unfold frame at h; have h1 := (List.cons.inj (List.cons.inj h).2).2; have h2 := congrArg List.dropLast h1; simpa using h2
theorem impl_e_loop {b : Bs} {n : Int} {o2 o6 : En} {c : Nat} (hc : c ≤ 255) : ∀ (m k : Nat) (rest : Bs) (ws : List Wr) (f : Nat), k + m = c → rest.length ≤ 3000000 → ws.length = k → m < f → m_impl_EntryFrom_l1 f b n rest (c : Int) (k : Int) o2 ws o6 = match wGo m rest ws with | none => some (ez, 0) | some (ws', _) => m_impl_EntryFrom_j2 b n o2 ws' o6 := by
  intro m
  induction m with
  | zero =>
    intro k rest ws f hk hl hw hf; obtain ⟨f, rfl⟩ : ∃ q, f = q + 1 := ⟨f - 1, by omega⟩; rw [m_impl_EntryFrom_l1, decide_eq_false (by omega), cond_false]; rfl
  | succ m ih =>
    intro k rest ws f hk hl hw hf; obtain ⟨f, rfl⟩ : ∃ q, f = q + 1 := ⟨f - 1, by omega⟩; rw [m_impl_EntryFrom_l1, decide_eq_true (by omega), cond_true]
    match rest, hl with
    | [], hl => rw [decide_eq_true (by simp), cond_true, ltE]; rfl
    | [_], hl => rw [decide_eq_true (by simp), cond_true, ltE]; rfl
    | [x, y], hl => rw [decide_eq_true (by simp), cond_true, ltE, wGo_c, rFrom_n, if_pos rfl]; rfl
    | x :: y :: z :: r', hl =>
      generalize hr : z :: r' = r at *; have hr0 : 0 < r.length := by rw [← hr]; simp
      have hl' : r.length + 2 ≤ 3000000 := by simpa using hl
      have hlen : (x :: y :: r).length = r.length + 2 := by simp
      rw [hlen, decide_eq_false (by omega), cond_false]
      have e1 : cut? (x :: y :: r) (2 : Int) ((r.length + 2 : Nat) : Int) = some r := by
        have := cutEnd (b := x :: y :: r) (lo := 2) (by omega); rw [hlen] at this; exact this
      rw [e1, Option.bind_some, E_impl_RowFrom (by omega), Option.bind_some, wGo_c]; show (bif (((rFrom r).2 : Int) == 0) then _ else _) = _
      by_cases h0 : (rFrom r).2 = 0
      · rw [beqT (by omega), cond_true, if_pos h0, ltE]; rfl
      · have hle := rFrom_le (b := r) (by omega)
        rw [beqF (by omega), cond_false, if_neg h0, at0 (show (x :: y :: r)[0]? = some x from rfl), Option.bind_some, at1 (show (x :: y :: r)[1]? = some y from rfl), Option.bind_some, app_of (by simp only [List.length_cons, List.length_nil]; omega), Option.bind_some]; show (ckI (2 + ((rFrom r).2 : Int))).bind _ = _; rw [ckI_of (by omega) (by omega), Option.bind_some]
        have e2 : cut? (x :: y :: r) ((2 : Int) + ((rFrom r).2 : Int)) ((r.length + 2 : Nat) : Int) = some (r.drop (rFrom r).2) := by
          have := cutEnd (b := x :: y :: r) (lo := 2 + (rFrom r).2) (by omega); rw [hlen] at this; rw [show (2 : Int) + ((rFrom r).2 : Int) = ((2 + (rFrom r).2 : Nat) : Int) by omega, this, show 2 + (rFrom r).2 = (rFrom r).2 + 1 + 1 by omega, List.drop_succ_cons, List.drop_succ_cons]
        rw [e2, Option.bind_some, ckI_of (by omega) (by omega), Option.bind_some, natS]
        have ew : (⟨(x.toNat : Int), ((rFrom r).1, ((rFrom r).2 : Int)).1, ((y.toNat : Int) == ((1 : UInt8).toNat : Int))⟩ : Wr) = wr1 x y r := by
          unfold wr1
          have : ((y.toNat : Int) == ((1 : UInt8).toNat : Int)) = decide (y.toNat = 1) := by
            have e : ((1 : UInt8).toNat : Int) = 1 := rfl; rw [e]
            by_cases hy : y.toNat = 1
            · rw [beqT (by omega), decide_eq_true hy]
            · rw [beqF (by omega), decide_eq_false hy]
          rw [this]
        rw [ew]; exact ih (k + 1) _ _ f (by omega) (by rw [List.length_drop]; omega) (by simp; omega) (by omega)
theorem impl_e_end {b : Bs} {ws : List Wr} {o2 : En} {t : Int} {n : Nat} (hn : n ≤ b.length) (hl : b.length ≤ 3000000) (hw : wsSm ws) : m_impl_EntryFrom_j2 b (n : Int) o2 ws ⟨t, []⟩ = some (if (if logOk [⟨t, ws⟩] then frame (bodyB ⟨t, ws⟩) else []) = b.take n then ((⟨t, ws⟩ : En), (n : Int)) else (ez, 0)) := by
  unfold m_impl_EntryFrom_j2; show ((m_impl_EntryBytes ⟨t, ws⟩).bind _) = _; rw [E_impl_EntryBytes (e := ⟨t, ws⟩) hw, Option.bind_some, show cut? b (0 : Int) (n : Int) = _ from cut_of (lo := 0) (Nat.zero_le _) hn, Option.bind_some, List.drop_zero]
  have hle : (if logOk [(⟨t, ws⟩ : En)] then frame (bodyB ⟨t, ws⟩) else []).length ≤ 3000000 := by
    split
    · rename_i h
      have := bodyB_len h; unfold frame; simp; omega
    · simp
  rw [L_slices_Equal_Lbyte_byte (Nat.le_trans hle (by decide)), Option.bind_some]
  by_cases hc : (if logOk [(⟨t, ws⟩ : En)] then frame (bodyB ⟨t, ws⟩) else []) = b.take n
  · rw [decide_eq_true hc, if_pos hc, Bool.not_true, cond_false]
    show ((m_impl_writesCopy ws).bind _) = _; rw [E_writesCopy (by have := hw.1; omega) (fun v hv => by have := (hw.2 v hv).1; omega), Option.bind_some, ltE]
  · rw [decide_eq_false hc, if_neg hc, Bool.not_false, cond_true, ltE]; rfl
theorem E_impl_EntryFrom {b : Bs} (hl : b.length ≤ 3000000) : m_impl_EntryFrom b = some ((entFrom b).1, ((entFrom b).2 : Int)) := by
  unfold m_impl_EntryFrom entFrom; rw [E_impl_unframed hl, Option.bind_some]; show (bif (((unfr b).2 : Int) == 0) then m_impl_EntryFrom_j1 b (unfr b).1 ((unfr b).2 : Int) true _ else m_impl_EntryFrom_j1 b (unfr b).1 ((unfr b).2 : Int) (decide (((unfr b).1.length : Int) < 2)) _) = _
  by_cases h0 : (unfr b).2 = 0
  · rw [beqT (by omega), cond_true, if_pos h0]
    unfold m_impl_EntryFrom_j1; rw [cond_true, ltE]; rfl
  · obtain ⟨u1, u2, u3, u4⟩ := unfr_ok h0
    rw [beqF (by omega), cond_false, if_neg h0]; unfold m_impl_EntryFrom_j1; generalize hB : (unfr b).1 = B at *; generalize hN : (unfr b).2 = n at *
    match B, u2, u3, u4 with
    | [], _, _, _ => rw [decide_eq_true (by simp), cond_true, ltE]; rfl
    | [_], _, _, _ => rw [decide_eq_true (by simp), cond_true, ltE]; rfl
    | t :: c :: r, u2, u3, u4 =>
      have h2 := c.toNat_lt; have hlr : (t :: c :: r).length = r.length + 2 := by simp
      have e1 : cut? (t :: c :: r) (2 : Int) ((r.length + 2 : Nat) : Int) = some r := by
        have := cutEnd (b := t :: c :: r) (lo := 2) (by omega); rw [hlr] at this; exact this
      rw [hlr, decide_eq_false (by omega), cond_false, at0 (show (t :: c :: r)[0]? = some t from rfl), Option.bind_some, ltE, e1, Option.bind_some, at1 (show (t :: c :: r)[1]? = some c from rfl), Option.bind_some]; refine (impl_e_loop (c := c.toNat) (by omega) c.toNat 0 r [] _ (by omega) (by omega) rfl (by omega)).trans ?_; cases hg : wGo c.toNat r [] with
      | none =>
        have : entB (t :: c :: r) = none := by
          rw [entB_c]; cases hs : wGoS c.toNat r [] with
          | none => rfl
          | some p =>
            obtain ⟨ws, r'⟩ := p; have := (wGoS_ok _ _ _ _ _ (by omega) hs).1; rw [hg] at this; cases this
        simp only [this]; rfl
      | some p =>
        obtain ⟨ws, r'⟩ := p; obtain ⟨us, g1, g2, g3, g4, g5⟩ := wGo_ok _ _ _ _ _ (by omega) hg; rw [List.nil_append] at g1; subst g1; have hw : wsSm ws := ⟨by omega, fun w hw => (g3 w hw).2⟩; show m_impl_EntryFrom_j2 b (n : Int) _ ws ⟨(t.toNat : Int), []⟩ = _; rw [impl_e_end u1 hl hw, u4]
        congr 1
        have eb : bodyB ⟨t.toNat, ws⟩ = t :: c :: ws.flatMap wB := by
          unfold bodyB; show Lift.byteOf (t.toNat : Int) :: Lift.byteOf (ws.length : Int) :: _ = _; rw [byteOf_toNat, g2, byteOf_toNat]
        by_cases hok : logOk [(⟨t.toNat, ws⟩ : En)] = true
        · rw [if_pos hok, eb]
          by_cases hf : ws.flatMap wB = r
          · have hr' : r' = [] := List.eq_nil_of_length_eq_zero (by rw [hf] at g4; omega)
            subst hr'; have hs := g5 (by rw [List.append_nil]; exact hf)
            have : entB (t :: c :: r) = some ⟨t.toNat, ws⟩ := by
              rw [entB_c]; rw [hs, entR_s, if_pos hok]
            rw [hf, if_pos rfl, this]
          · have : entB (t :: c :: r) = none := by
              rw [entB_c]; cases hs : wGoS c.toNat r [] with
              | none => rfl
              | some p =>
                obtain ⟨ws2, r2⟩ := p; obtain ⟨k1, us, k2, k3⟩ := wGoS_ok _ _ _ _ _ (by omega) hs; rw [hg] at k1; cases k1; rw [List.nil_append] at k2; subst k2; cases r' with
                | nil => rw [List.append_nil] at k3; exact absurd k3 hf
                | cons q r2 => rfl
            rw [if_neg (fun e => hf (List.cons.inj (List.cons.inj (frame_inj e)).2).2), this]; rfl
        · have : entB (t :: c :: r) = none := by
            rw [entB_c]; cases hs : wGoS c.toNat r [] with
            | none => rfl
            | some p =>
              obtain ⟨ws2, r2⟩ := p; have k1 := (wGoS_ok _ _ _ _ _ (by omega) hs).1; rw [hg] at k1; cases k1; cases r' with
              | nil => rw [entR_s, if_neg hok]
              | cons q r2 => rfl
          rw [if_neg hok, if_neg (by unfold frame; simp), this]; rfl
theorem spec_e_loop {b : Bs} {o2 o4 : En} {c : UInt8} (hl : b.length ≤ 3000000) (h1 : b[1]? = some c) : ∀ (m k at_ : Nat) (ws : List Wr) (f : Nat), k + m = c.toNat → at_ ≤ b.length → ws.length = k → m < f → m_spec_l18Read_l1 f b (at_ : Int) (k : Int) o2 ws o4 = match wGoS m (b.drop at_) ws with | none => some (ez, false) | some (ws', r') => m_spec_l18Read_j2 b ((b.length - r'.length : Nat) : Int) o2 ws' o4 := by
  have hc := c.toNat_lt
  have stop : ∀ (K : Bs → Int → Int → En → List Wr → En → Option (En × Bool)) (a k : Int) (ws : List Wr), m_spec_l18Read_j1 K b a k true o2 ws o4 = some (ez, false) := fun K a k ws => by
    unfold m_spec_l18Read_j1; rw [cond_true, ltE]; rfl
  intro m
  induction m with
  | zero =>
    intro k at_ ws f hk ha hw hf; obtain ⟨f, rfl⟩ : ∃ q, f = q + 1 := ⟨f - 1, by omega⟩; rw [m_spec_l18Read_l1, at1 h1, Option.bind_some, decide_eq_false (by omega), cond_false]; show _ = m_spec_l18Read_j2 b ((b.length - (b.drop at_).length : Nat) : Int) o2 ws o4; rw [List.length_drop, show b.length - (b.length - at_) = at_ by omega]
  | succ m ih =>
    intro k at_ ws f hk ha hw hf; obtain ⟨f, rfl⟩ : ∃ q, f = q + 1 := ⟨f - 1, by omega⟩; rw [m_spec_l18Read_l1, at1 h1, Option.bind_some, decide_eq_true (by omega), cond_true, ckI_of (by omega) (by omega), Option.bind_some]; have hdl : (b.drop at_).length = b.length - at_ := List.length_drop
    match hd : b.drop at_, hdl with
    | [], hdl => rw [decide_eq_true (by simp at hdl; omega), cond_true, stop]; rfl
    | [_], hdl => rw [decide_eq_true (by simp at hdl; omega), cond_true, stop]; rfl
    | x :: y :: r, hdl =>
      have hlen : r.length + 2 = b.length - at_ := by simpa using hdl
      have hx : b[at_]? = some x := by
        have := congrArg (fun l => l[0]?) hd; simpa using this
      have hy : b[at_ + 1]? = some y := by
        have := congrArg (fun l => l[1]?) hd; simpa using this
      have hr : b.drop (at_ + 2) = r := by
        have := congrArg (fun l => l.drop 2) hd; simpa using this
      have ey : at? b ((at_ : Int) + 1) = some y := at_of (k := at_ + 1) hy; have e1 : ((1 : UInt8).toNat : Int) = 1 := rfl; rw [decide_eq_false (by omega), cond_false, ckI_of (by omega) (by omega), Option.bind_some, ey, Option.bind_some, wGoS_c, e1]
      by_cases h2 : 1 < y.toNat
      · rw [decide_eq_true (by omega), stop, if_pos h2]
      · rw [decide_eq_false (by omega), if_neg h2]
        unfold m_spec_l18Read_j1; rw [cond_false, ckI_of (by omega) (by omega), Option.bind_some]
        have e2 : cut? b ((at_ : Int) + 2) (b.length : Int) = some r := by
          have := cutEnd (b := b) (lo := at_ + 2) (by omega); rw [hr] at this; exact this
        rw [e2, Option.bind_some, E_spec_RowFrom (by omega), Option.bind_some]; show (bif (((rFrom r).2 : Int) == 0) then _ else _) = _
        by_cases h0 : (rFrom r).2 = 0
        · rw [beqT (by omega), cond_true, if_pos h0, ltE]; rfl
        · have hle := rFrom_le (b := r) (by omega)
          have ck1' : ckI ((at_ : Int) + 1) = some ((at_ : Int) + 1) := ckI_of (by omega) (by omega); have ck2' : ckI ((at_ : Int) + 2) = some ((at_ : Int) + 2) := ckI_of (by omega) (by omega); rw [beqF (by omega), cond_false, if_neg h0, at_of hx, Option.bind_some, ck1', Option.bind_some, ey, Option.bind_some, app_of (by simp only [List.length_cons, List.length_nil]; omega), Option.bind_some, Option.bind_some]; show (ckI ((at_ : Int) + 2 + ((rFrom r).2 : Int))).bind _ = _; rw [ckI_of (by omega) (by omega), Option.bind_some, ckI_of (by omega) (by omega), Option.bind_some, natS, show (at_ : Int) + 2 + ((rFrom r).2 : Int) = ((at_ + 2 + (rFrom r).2 : Nat) : Int) by omega]
          have ew : (⟨(x.toNat : Int), ((rFrom r).1, ((rFrom r).2 : Int)).1, ((y.toNat : Int) == 1)⟩ : Wr) = wr1 x y r := by
            unfold wr1
            have : ((y.toNat : Int) == 1) = decide (y.toNat = 1) := by
              by_cases hy : y.toNat = 1
              · rw [beqT (by omega), decide_eq_true hy]
              · rw [beqF (by omega), decide_eq_false hy]
            rw [this]
          rw [e1, ew]; have e3 : b.drop (at_ + 2 + (rFrom r).2) = r.drop (rFrom r).2 := by rw [← hr, List.drop_drop]
          have := ih (k + 1) (at_ + 2 + (rFrom r).2) (ws ++ [wr1 x y r]) f (by omega) (by omega) (by simp; omega) (by omega); rw [e3] at this; exact this
theorem entB_ok {B : Bs} {e : En} (hl : B.length ≤ 3000000) (h : entB B = some e) : logOk [e] = true ∧ wsSm e.Writes ∧ bodyB e = B ∧ 2 ≤ B.length := by
  match B, hl, h with
  | [], _, h => cases h
  | [_], _, h => cases h
  | t :: c :: r, hl, h =>
    have hc := c.toNat_lt; rw [entB_c] at h; cases hs : wGoS c.toNat r [] with
    | none => rw [hs] at h; cases h
    | some p =>
      obtain ⟨ws, r'⟩ := p; rw [hs] at h; cases r' with
      | cons q r2 => cases h
      | nil =>
        rw [entR_s] at h
        split at h
        · rename_i hok
          cases h; have hr : r.length ≤ 3000000 := by simp at hl; omega
          obtain ⟨k1, us, k2, k3⟩ := wGoS_ok _ _ _ _ _ hr hs; obtain ⟨us', g1, g2, g3, g4, g5⟩ := wGo_ok _ _ _ _ _ hr k1; rw [List.nil_append] at k2 g1; subst k2; subst g1; refine ⟨hok, ⟨by show ws.length ≤ 1100000; omega, fun w hw => (g3 w hw).2⟩, ?_, by simp⟩; unfold bodyB; show Lift.byteOf (t.toNat : Int) :: Lift.byteOf (ws.length : Int) :: ws.flatMap wB = _; rw [List.append_nil] at k3; rw [byteOf_toNat, g2, byteOf_toNat, k3]
        · cases h
theorem E_spec_l18Read {B : Bs} (hl : B.length ≤ 3000000) : (∃ e, entB B = some e ∧ m_spec_l18Read B = some (e, true)) ∨ (entB B = none ∧ ∃ e, m_spec_l18Read B = some (e, false)) := by
  unfold m_spec_l18Read
  match B, hl with
  | [], _ => exact .inr ⟨rfl, _, rfl⟩
  | [_], _ => exact .inr ⟨rfl, _, rfl⟩
  | t :: c :: r, hl =>
    have hc := c.toNat_lt; have hr : r.length ≤ 3000000 := by simp at hl; omega
    have hlr : (t :: c :: r).length = r.length + 2 := by simp
    rw [hlr, decide_eq_false (by omega), cond_false, at0 (show (t :: c :: r)[0]? = some t from rfl), Option.bind_some, ltE]; have hg := spec_e_loop (b := t :: c :: r) (c := c) (o2 := ⟨0, []⟩) (o4 := ⟨(t.toNat : Int), []⟩) hl rfl c.toNat 0 2 [] 1000000000 (by omega) (by omega) rfl (by omega); have hg' : m_spec_l18Read_l1 1000000000 (t :: c :: r) 2 0 ⟨0, []⟩ [] ⟨(t.toNat : Int), []⟩ = match wGoS c.toNat r [] with | none => some (ez, false) | some (ws', r') => m_spec_l18Read_j2 (t :: c :: r) (((t :: c :: r).length - r'.length : Nat) : Int) ⟨0, []⟩ ws' ⟨(t.toNat : Int), []⟩ := hg; rw [hg', entB_c]; cases hs : wGoS c.toNat r [] with
    | none => exact .inr ⟨rfl, _, rfl⟩
    | some p =>
      obtain ⟨ws, r'⟩ := p; obtain ⟨k1, us, k2, k3⟩ := wGoS_ok _ _ _ _ _ hr hs; obtain ⟨us', g1, g2, g3, g4, g5⟩ := wGo_ok _ _ _ _ _ hr k1; rw [List.nil_append] at k2 g1; subst k2; subst g1; have hw : wsSm ws := ⟨by omega, fun w hw => (g3 w hw).2⟩; show (∃ e, entR t (some (ws, r')) = some e ∧ m_spec_l18Read_j2 (t :: c :: r) (((t :: c :: r).length - r'.length : Nat) : Int) ⟨0, []⟩ ws ⟨(t.toNat : Int), []⟩ = some (e, true)) ∨ (entR t (some (ws, r')) = none ∧ ∃ e, m_spec_l18Read_j2 (t :: c :: r) (((t :: c :: r).length - r'.length : Nat) : Int) ⟨0, []⟩ ws ⟨(t.toNat : Int), []⟩ = some (e, false)); unfold m_spec_l18Read_j2 m_spec_l18Read_j3; cases r' with
      | nil =>
        rw [entR_s, show (((t :: c :: r).length - ([] : Bs).length : Nat) : Int) = ((t :: c :: r).length : Int) by simp, beqT rfl, cond_true]; show _ ∨ (_ ∧ ∃ e, ((m_spec_LogOk [⟨(t.toNat : Int), ws⟩]).bind _) = _); have e0 : ((m_spec_LogOk [({ (⟨(t.toNat : Int), []⟩ : En) with Writes := ws } : En)])) = some (logOk [⟨t.toNat, ws⟩]) := E_spec_LogOk (en1 (e := ⟨(t.toNat : Int), ws⟩) hw); rw [e0]; cases hok : logOk [(⟨t.toNat, ws⟩ : En)] with
        | true => exact .inl ⟨⟨t.toNat, ws⟩, rfl, rfl⟩
        | false => exact .inr ⟨rfl, ⟨t.toNat, ws⟩, rfl⟩
      | cons q r2 =>
        have g4' : r2.length + 1 ≤ r.length := by simp at g4; omega
        refine .inr ⟨rfl, ⟨t.toNat, ws⟩, ?_⟩; rw [beqF (by simp only [List.length_cons]; omega), cond_false]; rfl
theorem E_spec_EntryFrom {b : Bs} (hl : b.length ≤ 3000000) : m_spec_EntryFrom b = some ((entFrom b).1, ((entFrom b).2 : Int)) := by
  unfold m_spec_EntryFrom entFrom
  match b, hl with
  | [], _ => rfl
  | [_], _ => rfl
  | [h, l], _ =>
    have eu : unfr [h, l] = ([], 0) := by rw [unfr_c]; unfold unfN; rw [if_neg (by simp)]
    rw [eu]; rfl
  | h :: l :: x :: r', hl =>
    have h1 := h.toNat_lt; have h2 := l.toNat_lt; generalize hr : x :: r' = r at *; have hr0 : 0 < r.length := by rw [← hr]; simp
    have hl' : r.length + 2 ≤ 3000000 := by simpa using hl
    have hlen : (h :: l :: r).length = r.length + 2 := by simp
    rw [hlen, decide_eq_false (by omega), cond_false, at0 (show (h :: l :: r)[0]? = some h from rfl), Option.bind_some, ckI_of (by omega) (by omega), Option.bind_some, at1 (show (h :: l :: r)[1]? = some l from rfl), Option.bind_some, unfr_c]; generalize hn : 256 * h.toNat + l.toNat = n; have hni : (h.toNat : Int) * 256 + (l.toNat : Int) = (n : Int) := by omega
    rw [hni, ckI_of (by omega) (by omega), Option.bind_some, ckI_of (by omega) (by omega), Option.bind_some]; have stop : ∀ o, m_spec_EntryFrom_j1 (h :: l :: r) (n : Int) true o = some (ez, 0) := fun o => by unfold m_spec_EntryFrom_j1; rw [cond_true, ltE]; rfl
    by_cases hc : n < r.length
    · have hx : r[n]? = some r[n] := List.getElem?_eq_getElem hc
      have hat : at? (h :: l :: r) ((n : Int) + 2) = some r[n] := at_of (k := n + 2) (by simpa using hx); have htl : (r.take n).length ≤ 3000000 := by rw [List.length_take]; omega
      rw [decide_eq_false (by omega), cond_false, ckI_of (by omega) (by omega), Option.bind_some, hat, Option.bind_some, Option.bind_some, cut2 (by omega), Option.bind_some, E_spec_l18Sum htl, Option.bind_some]
      by_cases he : r[n] = sumS (r.take n)
      · have eu : unfN n r = (r.take n, n + 3) := by unfold unfN; rw [if_pos (by rw [hx, he])]
        rw [eu, he, show (((sumS (r.take n)).toNat : Int) != ((sumS (r.take n)).toNat : Int)) = false by simp]; show _ = some (((if n + 3 = 0 then (ez, 0) else match entB (r.take n) with | some e => (e, n + 3) | none => (ez, 0)) : En × Nat).1, (((if n + 3 = 0 then (ez, 0) else match entB (r.take n) with | some e => (e, n + 3) | none => (ez, 0)) : En × Nat).2 : Int)); rw [if_neg (by omega)]; unfold m_spec_EntryFrom_j1; rw [cond_false, ckI_of (by omega) (by omega), Option.bind_some, cut2 (by omega), Option.bind_some]; rcases E_spec_l18Read htl with ⟨e, e1, e2⟩ | ⟨e1, e, e2⟩
        · rw [e1, e2, Option.bind_some, ltE]
          show (bif !true then _ else _) = _; rw [Bool.not_true, cond_false, ckI_of (by omega) (by omega), Option.bind_some]; rfl
        · rw [e1, e2, Option.bind_some, ltE]; rfl
      · have eu : unfN n r = ([], 0) := by unfold unfN; rw [if_neg (fun e => he (by rw [hx] at e; exact Option.some.inj e))]
        rw [eu, beqF' (fun e => he (UInt8.toNat_inj.1 (by omega))), stop]; rfl
    · have eu : unfN n r = ([], 0) := by unfold unfN; rw [if_neg (by rw [List.getElem?_eq_none (by omega)]; simp)]
      rw [decide_eq_true (by omega), cond_true, stop, eu]; rfl
theorem entFrom_sm {b : Bs} : wsSm (entFrom b).1.Writes := by
  unfold entFrom; have z : wsSm ez.Writes := ⟨by decide, fun w hw => by cases hw⟩
  by_cases h0 : (unfr b).2 = 0
  · rw [if_pos h0]; exact z
  · rw [if_neg h0]
    obtain ⟨_, _, u3, _⟩ := unfr_ok h0; cases h : entB (unfr b).1 with
    | none => exact z
    | some e => exact (entB_ok (by omega) h).2.1
def fB (e : En) : Bs := frame (bodyB e)
theorem E_cloneB {l : Bs} (h : l.length ≤ 900000000) : m_impl_clone_byte l = some l := by
  unfold m_impl_clone_byte appN?; cases l with
  | nil => rfl
  | cons x l =>
    have e : (((x :: l).length : Int) == 0) = false := by simp; omega
    rw [e, cond_false, if_pos ⟨by simp, by omega⟩, Option.bind_some]; rfl
theorem entFrom_ok {b : Bs} (hl : b.length ≤ 3000000) (h : (entFrom b).2 ≠ 0) : logOk [(entFrom b).1] = true ∧ b.take (entFrom b).2 = fB (entFrom b).1 ∧ (entFrom b).2 ≤ b.length := by
  have hu : (unfr b).2 ≠ 0 := fun h' => h (by unfold entFrom; rw [if_pos h']); obtain ⟨u1, u2, u3, u4⟩ := unfr_ok hu
  obtain ⟨e, he⟩ : ∃ e, entB (unfr b).1 = some e := by
    cases h' : entB (unfr b).1 with
    | none => exact absurd (by unfold entFrom; rw [if_neg hu, h']) h
    | some e => exact ⟨e, rfl⟩
  have hE : entFrom b = (e, (unfr b).2) := by unfold entFrom; rw [if_neg hu, he]
  obtain ⟨k1, k2, k3, k4⟩ := entB_ok (by omega) he; rw [hE]; exact ⟨k1, by show b.take (unfr b).2 = frame (bodyB e); rw [k3]; exact u4, u1⟩
theorem enSm_snoc {l : List En} {e : En} (h : enSm l) (hl : l.length ≤ 12) (he : wsSm e.Writes) : enSm (l ++ [e]) := ⟨by rw [List.length_append, List.length_singleton]; omega, fun x hx => by
  rcases List.mem_append.1 hx with hx | hx
  · exact h.2 x hx
  · rw [List.mem_singleton.1 hx]; exact he⟩
theorem logOk_len {l : List En} (h : logOk l = true) : l.length ≤ 12 := by
  unfold logOk at h; rw [Bool.and_eq_true] at h; have := of_decide_eq_true h.2; omega
def lgo : Nat → Bs → List En → List En
  | 0, _, acc => acc
  | n + 1, b, acc => if (entFrom b).2 = 0 ∨ logOk (acc ++ [(entFrom b).1]) = false then acc else lgo n (b.drop (entFrom b).2) (acc ++ [(entFrom b).1])
theorem lgo_stop {n : Nat} {b : Bs} {acc : List En} (h : (entFrom b).2 = 0) : lgo n b acc = acc := by
  cases n with
  | zero => rfl
  | succ n => rw [lgo, if_pos (.inl h)]
theorem entFrom_nil : (entFrom []).2 = 0 := rfl
theorem appN1 {α : Type} {x : α} : appN? [x] = some [x] := by unfold appN?; rw [if_pos (by simp)]
theorem impl_lg : ∀ (n f : Nat) (b : Bs) (acc : List En), b.length ≤ n → n < f → b.length ≤ 3000000 → enSm acc → acc.length ≤ 12 → m_impl_LogFrom_l1 f b acc = some (lgo n b acc) := by
  intro n
  induction n with
  | zero =>
    intro f b acc h1 h2 h3 h4 h5; obtain ⟨f, rfl⟩ : ∃ g, f = g + 1 := ⟨f - 1, by omega⟩; obtain rfl : b = [] := List.eq_nil_of_length_eq_zero (by omega); rw [m_impl_LogFrom_l1, E_impl_EntryFrom h3, Option.bind_some, ltE]; show (bif (((entFrom []).2 : Int) == (0 : Int)) then _ else _) = _; rw [beqT (by rw [entFrom_nil]; rfl), cond_true, m_impl_LogFrom_j1, cond_true, L_slices_Clip_Limpl_Entry_impl_Entry_o, Option.bind_some]; rfl
  | succ n ih =>
    intro f b acc h1 h2 h3 h4 h5; obtain ⟨f, rfl⟩ : ∃ g, f = g + 1 := ⟨f - 1, by omega⟩; rw [m_impl_LogFrom_l1, E_impl_EntryFrom h3, Option.bind_some, ltE]; show (bif (((entFrom b).2 : Int) == (0 : Int)) then _ else _) = _
    by_cases h0 : (entFrom b).2 = 0
    · rw [beqT (by omega), cond_true, m_impl_LogFrom_j1, cond_true, L_slices_Clip_Limpl_Entry_impl_Entry_o, Option.bind_some, lgo_stop h0]
    · obtain ⟨k1, k2, k3⟩ := entFrom_ok h3 h0
      have hs := enSm_snoc h4 h5 (entFrom_sm (b := b)); rw [beqF (by omega), cond_false, appN1, Option.bind_some, app_of (by rw [List.length_singleton]; omega), Option.bind_some, E_impl_LogOk hs, Option.bind_some, m_impl_LogFrom_j1, lgo]; cases hk : logOk (acc ++ [(entFrom b).1])
      · rw [Bool.not_false, cond_true, L_slices_Clip_Limpl_Entry_impl_Entry_o, Option.bind_some, if_pos (.inr rfl)]
      · rw [Bool.not_true, cond_false, app_of (by rw [List.length_singleton]; omega), Option.bind_some, cutEnd k3, Option.bind_some, if_neg (by rintro (h | h); exact h0 h; cases h)]
        exact ih _ _ _ (by rw [List.length_drop]; omega) (by omega) (by rw [List.length_drop]; omega) hs (logOk_len hk)
theorem spec_lg {b : Bs} (h3 : b.length ≤ 3000000) : ∀ (n f at_ : Nat) (acc : List En), at_ ≤ b.length → b.length - at_ ≤ n → n < f → enSm acc → acc.length ≤ 12 → m_spec_LogFrom_l1 f b (at_ : Int) acc = some (lgo n (b.drop at_) acc) := by
  intro n
  induction n with
  | zero =>
    intro f a acc h0 h1 h2 h4 h5; obtain ⟨f, rfl⟩ : ∃ g, f = g + 1 := ⟨f - 1, by omega⟩; rw [m_spec_LogFrom_l1, decide_eq_false (by omega), cond_false]; rfl
  | succ n ih =>
    intro f a acc h0 h1 h2 h4 h5; obtain ⟨f, rfl⟩ : ∃ g, f = g + 1 := ⟨f - 1, by omega⟩; rw [m_spec_LogFrom_l1]
    by_cases ha : a = b.length
    · subst ha
      rw [decide_eq_false (by omega), cond_false, List.drop_length, lgo_stop entFrom_nil]; rfl
    · have hl : (b.drop a).length ≤ 3000000 := by rw [List.length_drop]; omega
      rw [decide_eq_true (by omega), cond_true, cutEnd h0, Option.bind_some, E_spec_EntryFrom hl, Option.bind_some, ltE]; show (bif (((entFrom (b.drop a)).2 : Int) == (0 : Int)) then _ else _) = _
      by_cases h0' : (entFrom (b.drop a)).2 = 0
      · rw [beqT (by omega), cond_true, m_spec_LogFrom_j1, cond_true, lgo_stop h0']
      · obtain ⟨k1, k2, k3⟩ := entFrom_ok hl h0'
        rw [List.length_drop] at k3; have hs := enSm_snoc h4 h5 (entFrom_sm (b := b.drop a)); rw [beqF (by omega), cond_false, app_of (by rw [List.length_nil]; omega), Option.bind_some, List.nil_append, app_of (by rw [List.length_singleton]; omega), Option.bind_some, E_spec_LogOk hs, Option.bind_some, m_spec_LogFrom_j1, lgo]; cases hk : logOk (acc ++ [(entFrom (b.drop a)).1])
        · rw [Bool.not_false, cond_true, if_pos (.inr rfl)]
        · rw [Bool.not_true, cond_false, app_of (by rw [List.length_singleton]; omega), Option.bind_some]
          show ((ckI ((a : Int) + ((entFrom (b.drop a)).2 : Int))).bind _) = _; rw [ckI_of (by omega) (by omega), Option.bind_some, if_neg (by rintro (h | h); exact h0' h; cases h), List.drop_drop, show (a : Int) + ((entFrom (b.drop a)).2 : Int) = ((a + (entFrom (b.drop a)).2 : Nat) : Int) by omega]; exact ih _ _ _ (by omega) (by omega) (by omega) hs (logOk_len hk)
theorem lgo_ok : ∀ (n : Nat) (b : Bs) (acc : List En), b.length ≤ 3000000 → logOk acc = true → enSm acc → logOk (lgo n b acc) = true ∧ enSm (lgo n b acc) ∧ ∃ t, acc.flatMap fB ++ b = (lgo n b acc).flatMap fB ++ t := by
  intro n
  induction n with
  | zero => intro b acc h1 h2 h3; exact ⟨h2, h3, b, rfl⟩
  | succ n ih =>
    intro b acc h1 h2 h3; rw [lgo]
    by_cases hc : (entFrom b).2 = 0 ∨ logOk (acc ++ [(entFrom b).1]) = false
    · rw [if_pos hc]; exact ⟨h2, h3, b, rfl⟩
    · rw [if_neg hc]
      rw [not_or] at hc; obtain ⟨k1, k2, k3⟩ := entFrom_ok h1 hc.1; obtain ⟨g1, g2, t, g3⟩ := ih (b.drop (entFrom b).2) (acc ++ [(entFrom b).1]) (by rw [List.length_drop]; omega) (by simpa using hc.2) (enSm_snoc h3 (logOk_len h2) entFrom_sm); refine ⟨g1, g2, t, ?_⟩; rw [← g3, List.flatMap_append, List.flatMap_cons, List.flatMap_nil, List.append_nil, ← k2, List.append_assoc, List.take_append_drop]
theorem fB_len {e : En} (h : logOk [e] = true) : (fB e).length ≤ 180 := by
  have := bodyB_len h; unfold fB frame; simp; omega
theorem logOk_eb {l : List En} (h : logOk l = true) {e : En} (he : e ∈ l) : logOk [e] = true := by
  unfold logOk at h ⊢; rw [Bool.and_eq_true, Bool.and_eq_true, List.all_eq_true] at h; have := h.1.1 e he; simp [this, adjB]
theorem fB_all : ∀ (l : List En), (∀ e ∈ l, logOk [e] = true) → (l.flatMap fB).length ≤ l.length * 180 := by
  intro l
  induction l with
  | nil => intro _; simp
  | cons e l ih =>
    intro h; rw [List.flatMap_cons, List.length_append, List.length_cons]; have h1 := fB_len (h e (by simp)); have h2 := ih fun x hx => h x (by simp [hx]); omega
theorem E_impl_LogBytes {l : List En} (hk : logOk l = true) (hs : enSm l) : m_impl_LogBytes l = some (l.flatMap fB) := by
  have hl := logOk_len hk; have hall := fun e he => logOk_eb hk (e := e) he; have hb := fB_all l hall; unfold m_impl_LogBytes; rw [E_impl_LogOk hs, Option.bind_some, hk, Bool.not_true, cond_false]
  have key : ∀ (n k : Nat) (f : Nat), k + n = l.length → n < f → m_impl_LogBytes_l1 f l (l.length : Int) (k : Int) ((l.take k).flatMap fB) = some (l.flatMap fB) := by
    intro n
    induction n with
    | zero =>
      intro k f h1 h2; obtain ⟨f, rfl⟩ : ∃ g, f = g + 1 := ⟨f - 1, by omega⟩; rw [m_impl_LogBytes_l1, decide_eq_false (by omega), cond_false, List.take_of_length_le (by omega), m_impl_LogBytes_j1, E_cloneB (by omega), Option.bind_some]
    | succ n ih =>
      intro k f h1 h2; obtain ⟨f, rfl⟩ : ∃ g, f = g + 1 := ⟨f - 1, by omega⟩; have hx : l[k]? = some (l[k]'(by omega)) := List.getElem?_eq_getElem (by omega); generalize l[k]'(by omega) = x at hx; have hm := List.mem_of_getElem? hx; have e1 : ((l.take (k + 1)).flatMap fB) = (l.take k).flatMap fB ++ fB x := take_succ_flat hx; have hb2 := fB_all (l.take (k + 1)) fun e he => hall e (List.mem_of_mem_take he); rw [e1, List.length_append, List.length_take] at hb2; rw [m_impl_LogBytes_l1, dlt (by omega), cond_true, at_of hx, Option.bind_some, ltE, E_impl_entryBytes (hall x hm) (hs.2 x hm), Option.bind_some, app_of (by show _ + (fB x).length ≤ _; omega), Option.bind_some, ck1 (by omega), Option.bind_some]; have := ih (k + 1) f (by omega) (by omega); rw [e1] at this; exact this
  have := key l.length 0 ((((l.length : Int) - (0 : Int)).toNat) + 1) (by omega) (by omega); simpa using this
theorem E_spec_LogBytes {l : List En} (hs : enSm l) : m_spec_LogBytes l = some (if logOk l then l.flatMap fB else []) := by
  unfold m_spec_LogBytes; cases hk : logOk l
  · rw [if_neg (by simp)]
    have hl : 0 < l.length := by
      cases l with
      | nil => exact absurd hk (by decide)
      | cons x l => simp
    rw [show (1000000000 : Nat) = 999999999 + 1 from rfl, m_spec_LogBytes_l1, decide_eq_true (by omega), cond_true, E_spec_LogOk hs, Option.bind_some, hk, m_spec_LogBytes_j1, cond_false]; rfl
  · rw [if_pos rfl]
    have hl := logOk_len hk; have hall := fun e he => logOk_eb hk (e := e) he; have hb := fB_all l hall
    have key : ∀ (n k : Nat) (f : Nat), k + n = l.length → n < f → m_spec_LogBytes_l1 f l (k : Int) ((l.take k).flatMap fB) = some (l.flatMap fB) := by
      intro n
      induction n with
      | zero =>
        intro k f h1 h2; obtain ⟨f, rfl⟩ : ∃ g, f = g + 1 := ⟨f - 1, by omega⟩; rw [m_spec_LogBytes_l1, decide_eq_false (by omega), cond_false, List.take_of_length_le (by omega), m_spec_LogBytes_j1, cond_false]; rfl
      | succ n ih =>
        intro k f h1 h2; obtain ⟨f, rfl⟩ : ∃ g, f = g + 1 := ⟨f - 1, by omega⟩; have hx : l[k]? = some (l[k]'(by omega)) := List.getElem?_eq_getElem (by omega); generalize l[k]'(by omega) = x at hx; have hm := List.mem_of_getElem? hx; have e1 : ((l.take (k + 1)).flatMap fB) = (l.take k).flatMap fB ++ fB x := take_succ_flat hx; have hb2 := fB_all (l.take (k + 1)) fun e he => hall e (List.mem_of_mem_take he); rw [e1, List.length_append, List.length_take] at hb2; rw [m_spec_LogBytes_l1, dlt (by omega), cond_true, E_spec_LogOk hs, Option.bind_some, hk, m_spec_LogBytes_j1, cond_true, at_of hx, Option.bind_some, E_spec_EntryBytes (hs.2 x hm), Option.bind_some, if_pos (hall x hm), app_of (by show _ + (fB x).length ≤ _; omega), Option.bind_some, ck1 (by omega), Option.bind_some]; have := ih (k + 1) f (by omega) (by omega); rw [e1] at this; exact this
    have := key l.length 0 1000000000 (by omega) (by omega); simpa using this
theorem T_DrawLogFrom {l : List UInt8} : Tot (m_spec_DrawLogFrom l) fun b => b.length ≤ 3000 := by
  unfold m_spec_DrawLogFrom; refine Tot.bind T_l20Open fun o ho => Tot.bind (T_l20Log (by omega) (by omega)) fun e he => ?_; have hs := lgDr_sm he.1
  have hB : (if logOk e.1 then e.1.flatMap fB else []).length ≤ 2160 := by
    split
    · rename_i h
      have := fB_all e.1 fun x hx => logOk_eb h hx; have := logOk_len h; omega
    · simp
  rw [E_spec_LogBytes hs, Option.bind_some]; generalize (if logOk e.1 then e.1.flatMap fB else []) = B at hB
  have f4 : ∀ (n : Nat) (L : Bs), n ≤ L.length → L.length ≤ 2160 → Tot (m_spec_DrawLogFrom_j4 n L) fun b => b.length ≤ 3000 := by
    intro n L hn hL; unfold m_spec_DrawLogFrom_j4 leN; rw [if_pos (by omega)]; exact Tot.eq rfl (Tot.ret (by rw [List.length_take]; omega))
  have f2 : ∀ (o : Rd) (L : Bs), L.length ≤ 2160 → 0 ≤ o.p ∧ o.p ≤ 9000 → Tot (m_spec_DrawLogFrom_j2 o L) fun b => b.length ≤ 3000 := by
    intro o L hL ho; unfold m_spec_DrawLogFrom_j2 m_spec_DrawLogFrom_j3; refine Tot.bif (fun hp => ?_) (fun _ => by rw [cond_false]; exact f4 _ _ (by omega) hL); have hp' : (L.length : Int) > 0 := of_decide_eq_true hp; refine Tot.bind (T_pick (by omega)) fun a ha => Tot.bif (fun _ => ?_) (fun _ => f4 _ _ (by omega) hL); refine Tot.bind (T_pick (by omega)) fun c hc => ?_; unfold rng?; rw [if_pos (by omega)]; exact Tot.eq rfl (f4 _ _ (by omega) hL)
  unfold m_spec_DrawLogFrom_j1; refine Tot.bif (fun hp => ?_) (fun _ => by rw [cond_false]; exact f2 _ _ hB (by omega)); have hp' : (B.length : Int) > 0 := of_decide_eq_true hp; refine Tot.bind (T_pick (by omega)) fun a ha => Tot.bif (fun _ => ?_) (fun _ => f2 _ _ hB (by omega)); refine Tot.bind (T_pick (by omega)) fun c hc => Tot.bind (T_pick (by omega)) fun d hd => Tot.at (by omega) (by omega) fun x hx => Tot.at (by omega) (by omega) fun y hy => Tot.lt (f2 _ _ (by rw [List.length_set]; exact hB) (by omega))
theorem pure_FnLogFrom (l : List UInt8) : m_laws_FnLogFrom l = some true := by
  unfold m_laws_FnLogFrom; cases hlen : decide ((l.length : Int) > 1048576)
  · rw [cond_false]
    obtain ⟨b, hd, hb⟩ := T_DrawLogFrom (l := l); replace hb : b.length ≤ 3000 := hb; have e0 : enSm [] := ⟨by simp, by simp⟩; obtain ⟨g1, g2, t, g3⟩ := lgo_ok b.length b [] (by omega) (by decide) e0; have hi : m_impl_LogFrom b = some (lgo b.length b []) := impl_lg _ _ _ _ (Nat.le_refl _) (by omega) (by omega) e0 (by simp)
    have hsp : m_spec_LogFrom b = some (lgo b.length b []) := by
      have := spec_lg (b := b) (by omega) b.length ((((b.length : Int) - (0 : Int)).toNat) + 1) 0 [] (by omega) (by omega) (by omega) e0 (by simp); unfold m_spec_LogFrom; simpa using this
    generalize lgo b.length b [] = r at g1 g2 g3 hi hsp; rw [List.flatMap_nil, List.nil_append] at g3; rw [hd, Option.bind_some, hi, Option.bind_some, hsp, Option.bind_some, E_sameLog g2, Option.bind_some, decide_eq_true rfl, Bool.not_true, cond_false, E_impl_LogBytes g1 g2, Option.bind_some, E_impl_LogOk g2, Option.bind_some, g1, cond_true]; have hle : (r.flatMap fB).length ≤ b.length := by rw [g3, List.length_append]; omega
    have hcut : cut? b (0 : Int) ((r.flatMap fB).length : Int) = some (r.flatMap fB) := by
      have := cut_of (l := b) (lo := 0) (hi := (r.flatMap fB).length) (Nat.zero_le _) hle; rw [List.drop_zero] at this; have e2 : b.take (r.flatMap fB).length = r.flatMap fB := by rw [g3, List.take_left']; rfl
      rw [e2] at this; exact this
    rw [decide_eq_true (by omega), cond_true, hcut, Option.bind_some, bStr_eq, decide_eq_true rfl, cond_true, E_alive]; rfl
  · rfl
end Go.Proofs.Ytjmeoggmdnlicaa
