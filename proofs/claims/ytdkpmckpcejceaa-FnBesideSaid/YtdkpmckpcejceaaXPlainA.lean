/- What the mirrors come to, in plain Lean: the law itself at the end. -/
import Derived.Test.YtdkpmckpcejceaaXW6
import Derived.Test.YtdkpmckpcejceaaLd
set_option linter.unusedVariables false
set_option linter.unusedSimpArgs false
set_option linter.unnecessarySimpa false
namespace Go.Proofs.Ytdkpmckpcejceaa
open Go.Proofs Go.Lift
abbrev V := S_impl_Value
abbrev Row := List V
abbrev Rows := List Row
def lower (l : List UInt8) : Bool := l.all fun b => decide (97 ≤ b.toNat) && decide (b.toNat ≤ 122)
def vOk (v : V) : Bool :=
  if v.Kind = 0 then decide (v = ⟨0, 0, ⟨#[]⟩⟩)
  else if v.Kind = 1 then decide (v.S = ⟨#[]⟩) && (decide (-9999 ≤ v.N) && decide (v.N ≤ 9999))
  else if v.Kind = 2 then decide (v.N = 0) && decide (v.S.size ≤ 6) && lower v.S.data.toList
  else if v.Kind = 3 then decide (v.S = ⟨#[]⟩) && (decide (0 ≤ v.N) && decide (v.N ≤ 1))
  else false
def rowOk (l : Row) : Bool := decide (l.length ≤ 4) && l.all vOk
def vSm (v : V) : Prop := v.S.size ≤ 1100000
def rSm (l : Row) : Prop := l.length ≤ 1100000 ∧ ∀ v ∈ l, vSm v
theorem E_IndexFunc_V {l : Row} {p : V → Option Bool} {q : V → Bool} (hl : l.length ≤ 900000000) (hp : ∀ v ∈ l, p v = some (q v)) : m_slices_ContainsFunc_Limpl_Value_impl_Value l p = some (l.any q) := by
  unfold m_slices_ContainsFunc_Limpl_Value_impl_Value m_slices_IndexFunc_Limpl_Value_impl_Value
  have key : ∀ (ys : Row) (k n : Nat), l.drop k = ys → k ≤ l.length → ys.length < n → ∃ i : Int, m_slices_IndexFunc_Limpl_Value_impl_Value_l1 p n l (l.length : Int) (k : Int) = some i ∧ decide (i ≥ 0) = ys.any q := by
    intro ys
    induction ys with
    | nil =>
      intro k n hd hk hn
      have : k = l.length := by
        have := congrArg List.length hd; simp at this; omega
      subst this; obtain ⟨m, rfl⟩ : ∃ m, n = m + 1 := ⟨n - 1, by simp at hn; omega⟩; exact ⟨-1, by simp only [m_slices_IndexFunc_Limpl_Value_impl_Value_l1, dnlt]; rfl, rfl⟩
    | cons y ys ih =>
      intro k n hd hk hn
      have hlt : k < l.length := by
        have := congrArg List.length hd; simp at this; omega
      have hc := List.drop_eq_getElem_cons hlt; rw [hd] at hc; simp only [List.cons.injEq] at hc; have hx : l[k]? = some y := by rw [List.getElem?_eq_getElem hlt, hc.1]
      obtain ⟨m, rfl⟩ : ∃ m, n = m + 1 := ⟨n - 1, by simp at hn; omega⟩; simp only [m_slices_IndexFunc_Limpl_Value_impl_Value_l1, dlt hlt, at_of hx, hp y (List.mem_of_getElem? hx), ck1 (show k < 1000000000000 by omega), Option.bind_some, cond_true]; cases hq : q y
      · obtain ⟨i, h1, h2⟩ := ih (k + 1) m hc.2.symm (by omega) (by simp at hn; omega)
        exact ⟨i, by simpa using h1, by rw [h2]; simp [hq]⟩
      · exact ⟨(k : Int), rfl, by simp [hq]⟩
  obtain ⟨i, h1, h2⟩ := key l 0 _ rfl (by omega) (show l.length < (((l.length : Int) - 0).toNat + 1) by omega); rw [show ((0 : Nat) : Int) = 0 from rfl] at h1; rw [h1]; simp only [Option.bind_some, h2]
theorem E_between (a b c : Int) : m_impl_between a b c = some (decide (b ≤ a) && decide (a ≤ c)) := by
  unfold m_impl_between m_impl_between_j1
  by_cases h : a ≥ b <;> simp [h]
theorem E_l1In (a b c : Int) : m_spec_l1In a b c = some (decide (b ≤ a) && decide (a ≤ c)) := by
  unfold m_spec_l1In m_spec_l1In_j1
  by_cases h : a ≥ b <;> simp [h]
theorem lower_any (l : List UInt8) : lower l = !(l.any fun b => !(decide (97 ≤ (b.toNat : Int)) && decide ((b.toNat : Int) ≤ 122))) := by
  unfold lower; rw [List.all_eq_not_any_not]
  congr 2
  funext b
  congr 1
  have h1 : decide (97 ≤ b.toNat) = decide (97 ≤ (b.toNat : Int)) := by rw [decide_eq_decide]; omega
  have h2 : decide (b.toNat ≤ 122) = decide ((b.toNat : Int) ≤ 122) := by rw [decide_eq_decide]; omega
  rw [h1, h2]
theorem E_letters {s : ByteArray} (h : s.size ≤ 900000000) : m_impl_letters s = some (lower s.data.toList) := by
  unfold m_impl_letters sBytes?; rw [if_pos (by omega)]; simp only [Option.bind_some]; have hl : s.data.toList.length ≤ 900000000 := h
  have := scanA (p := fun b : UInt8 => !(decide (97 ≤ (b.toNat : Int)) && decide ((b.toNat : Int) ≤ 122))) (r0 := false) (r1 := true) s.data.toList (fun n k => m_impl_letters_l1 n s.data.toList (s.data.toList.length : Int) k) (fun n k x hx => by
    have := lt_of_at hx; simp only [m_impl_letters_l1, dlt this, at_of hx, E_between, ck1 (show k < 1000000000000 by omega), Option.bind_some, cond_true]) (fun n => by simp only [m_impl_letters_l1, dnlt]; rfl) _ fuel0
  rw [this, lower_any]; cases s.data.toList.any fun b => !(decide (97 ≤ (b.toNat : Int)) && decide ((b.toNat : Int) ≤ 122)) <;> rfl
theorem sAt_of {s : ByteArray} {k : Nat} {x : UInt8} (h : s.data.toList[k]? = some x) : sAt? s (k : Int) = some x := by
  unfold sAt?; rw [if_pos (by omega)]; obtain ⟨h1, h2⟩ := List.getElem?_eq_some_iff.1 h; have hs : k < s.size := by have := h1; rwa [Array.length_toList] at this
  have : s[k]? = some (s[k]'hs) := by simp [hs]
  rw [Int.toNat_natCast, this]
  congr 1
theorem E_l1Text {s : ByteArray} (h : s.size ≤ 900000000) : m_spec_l1Text s = some (lower s.data.toList && decide (s.size ≤ 6)) := by
  unfold m_spec_l1Text; have hl : s.data.toList.length = s.size := rfl; rw [← hl]
  have := scanA (p := fun b : UInt8 => !(decide (97 ≤ (b.toNat : Int)) && decide ((b.toNat : Int) ≤ 122))) (r0 := false) (r1 := decide ((s.size : Int) ≤ 6)) s.data.toList (fun n k => m_spec_l1Text_l1 n s k) (fun n k x hx => by
    have := lt_of_at hx; have hd : decide ((k : Int) < (s.size : Int)) = true := by rw [← hl]; exact dlt this
    simp only [m_spec_l1Text_l1, m_spec_l1Text_j1, hd, sAt_of hx, ck1 (show k < 1000000000000 by omega), Option.bind_some, cond_true]; have e1 : ((97 : UInt8).toNat : Int) = 97 := rfl; have e2 : ((122 : UInt8).toNat : Int) = 122 := rfl; rw [e1, e2]
    by_cases h1 : (x.toNat : Int) < 97
    · have : ¬ (97 ≤ (x.toNat : Int)) := by omega
      simp [h1, this]
    · have h1' : 97 ≤ (x.toNat : Int) := by omega
      by_cases h2 : (x.toNat : Int) > 122
      · have : ¬ ((x.toNat : Int) ≤ 122) := by omega
        simp [h1, h2, this]
      · have : (x.toNat : Int) ≤ 122 := by omega
        simp [h1, h2, this, h1']) (fun n => by simp only [m_spec_l1Text_l1, hl, dnlt]; rfl) _ fuel0
  rw [this, lower_any]; have e : decide ((s.size : Int) ≤ 6) = decide (s.size ≤ 6) := by rw [decide_eq_decide]; omega
  rw [e]; cases s.data.toList.any fun b => !(decide (97 ≤ (b.toNat : Int)) && decide ((b.toNat : Int) ≤ 122)) <;> simp
theorem E_Value_ok {v : V} (h : v.S.size ≤ 900000000) : m_impl_Value_ok v = some (vOk v) := by
  unfold m_impl_Value_ok m_impl_Value_ok_j1 m_impl_Value_ok_j2 m_impl_Value_ok_j3 vOk; simp only [E_between, E_letters h, Option.bind_some, sEq_eq]
  by_cases h0 : v.Kind = 0
  · simp [h0]
  · by_cases h1 : v.Kind = 1
    · by_cases hs : v.S = ⟨#[]⟩ <;> simp [beqF h0, h0, h1, hs]
    · by_cases h2 : v.Kind = 2
      · by_cases hn : v.N = 0
        · by_cases hs : v.S.size ≤ 6
          · have : (v.S.size : Int) ≤ 6 := by omega
            simp [beqF h0, beqF h1, h0, h1, h2, hn, hs, this]
          · have : ¬ (v.S.size : Int) ≤ 6 := by omega
            simp [beqF h0, beqF h1, h0, h1, h2, hn, hs, this]
        · simp [beqF h0, beqF h1, h0, h1, h2, beqF hn, hn]
      · by_cases h3 : v.Kind = 3
        · by_cases hs : v.S = ⟨#[]⟩ <;> simp [beqF h0, beqF h1, beqF h2, h0, h1, h2, h3, hs]
        · simp [beqF h0, beqF h1, beqF h2, beqF h3, h0, h1, h2, h3]
theorem E_spec_ValueOk {v : V} (h : v.S.size ≤ 900000000) : m_spec_ValueOk v = some (vOk v) := by
  unfold m_spec_ValueOk m_spec_ValueOk_j1 m_spec_ValueOk_j2 m_spec_ValueOk_j3 m_spec_ValueOk_j4 vOk; simp only [E_l1In, E_l1Text h, Option.bind_some, sEq_eq]; obtain ⟨k, n, s⟩ := v; simp only [S_impl_Value.mk.injEq]
  by_cases h0 : k = 0
  · by_cases hn : n = 0
    · simp [h0, hn]
    · simp [h0, hn, beqF hn]
  · by_cases h1 : k = 1
    · by_cases hs : s = ⟨#[]⟩ <;> by_cases ha : -9999 ≤ n <;> by_cases hb : n ≤ 9999 <;> simp [beqF h0, h0, h1, hs, ha, hb]
    · by_cases h2 : k = 2
      · by_cases hn : n = 0
        · simp [beqF h0, beqF h1, h0, h1, h2, hn, Bool.and_comm]
        · simp [beqF h0, beqF h1, h0, h1, h2, beqF hn, hn]
      · by_cases h3 : k = 3
        · by_cases hs : s = ⟨#[]⟩ <;> by_cases ha : 0 ≤ n <;> by_cases hb : n ≤ 1 <;> simp [beqF h0, beqF h1, beqF h2, h0, h1, h2, h3, hs, ha, hb]
        · simp [beqF h0, beqF h1, beqF h2, beqF h3, h0, h1, h2, h3]
theorem E_impl_RowOk {l : Row} (h : rSm l) : m_impl_RowOk l = some (rowOk l) := by
  unfold m_impl_RowOk m_impl_RowOk_j1 rowOk; obtain ⟨h1, h2⟩ := h; rw [E_IndexFunc_V (q := fun v => !(vOk v)) (by omega) (fun v hv => by unfold m_impl_RowOk_1; rw [E_Value_ok (by have := h2 v hv; unfold vSm at this; omega)]; rfl)]; simp only [Option.bind_some]; rw [List.all_eq_not_any_not]
  by_cases h : l.length ≤ 4
  · have : (l.length : Int) ≤ 4 := by omega
    simp [h, this]
  · have : ¬ (l.length : Int) ≤ 4 := by omega
    simp [h, this]
theorem E_spec_RowOk {l : Row} (h : rSm l) : m_spec_RowOk l = some (rowOk l) := by
  unfold m_spec_RowOk rowOk; obtain ⟨h1, h2⟩ := h
  have := scanA (p := fun v => !(vOk v)) (r0 := false) (r1 := decide ((l.length : Int) ≤ 4)) l (fun n k => m_spec_RowOk_l1 n l k) (fun n k x hx => by
    have := lt_of_at hx; have hsm := h2 x (List.mem_of_getElem? hx); unfold vSm at hsm; simp only [m_spec_RowOk_l1, dlt this, at_of hx, E_spec_ValueOk (show x.S.size ≤ 900000000 by omega), ck1 (show k < 1000000000000 by omega), Option.bind_some, cond_true]) (fun n => by simp only [m_spec_RowOk_l1, dnlt]; rfl) _ fuel0
  rw [this, List.all_eq_not_any_not]; have e : decide ((l.length : Int) ≤ 4) = decide (l.length ≤ 4) := by rw [decide_eq_decide]; omega
  rw [e]; cases l.any fun v => !(vOk v) <;> simp
theorem E_alive : m_laws_alive = some true := by
  unfold m_laws_alive m_laws_alive_j1 m_impl_ValueOk; rw [E_Value_ok (by decide), E_Value_ok (by decide)]; rfl
theorem E_l3Own {l : Row} (h : l.length ≤ 900000000) : m_spec_l3Own l = some l := by
  unfold m_spec_l3Own; rw [app_of (by simp; omega)]; rfl
abbrev Rd := S_spec_l20Rd
def Rd.ok (o : Rd) : Prop := 0 ≤ o.p ∧ o.p ≤ 1000000000
theorem tmod_b {m n : Int} (h : 0 ≤ m) (hn : 0 < n) : 0 ≤ m.tmod n ∧ m.tmod n < n := ⟨Int.tmod_nonneg n h, Int.tmod_lt_of_pos m hn⟩
theorem tdiv_b {m n : Int} (h : 0 ≤ m) (hn : 0 < n) : 0 ≤ m.tdiv n ∧ m.tdiv n ≤ m := ⟨Int.tdiv_nonneg h (Int.le_of_lt hn), Int.tdiv_le_self _ h⟩
theorem T_pick {o : Rd} {n : Int} (ho : 0 ≤ o.p ∧ o.p ≤ 1000000000) : Tot (m_Pspec_l20Rd_pick o n) fun r => 0 ≤ r.1 ∧ (r.1 < n ∨ r.1 = 0) ∧ r.2.p = o.p + 1 := by
  unfold m_Pspec_l20Rd_pick; refine Tot.ck (by omega) (by omega) (Tot.lt ?_); refine Tot.bif (fun h => ?_) (fun h => ?_)
  · unfold m_Pspec_l20Rd_pick_j1
    exact Tot.ret ⟨Int.le_refl _, .inr rfl, rfl⟩
  · simp only [decide_eq_false_iff_not] at h
    unfold m_Pspec_l20Rd_pick_j1; refine Tot.bif (fun h2 => Tot.ret ⟨Int.le_refl _, .inr rfl, rfl⟩) (fun h2 => ?_); have hb : 0 < (o.b.length : Int) := by simp at h2; have := List.length_pos_iff.2 h2; omega
    refine Tot.ck (by simp only; omega) (by simp only; omega) ?_; have e : (o.p + 1 - 1) = o.p := by omega
    simp only [e]; refine Tot.bif (fun h3 => ?_) (fun h3 => ?_)
    · simp only [decide_eq_true_eq] at h3
      refine Tot.at (by omega) h3 (fun x _ => ?_); refine Tot.rem (by omega) (Tot.ret ?_); have := tmod_b (m := (x.toNat : Int)) (n := n) (by omega) (by omega); exact ⟨this.1, .inl this.2, rfl⟩
    · have m1 := tmod_b (m := o.p) (n := o.b.length) (by omega) hb
      refine Tot.rem (by omega) (Tot.at m1.1 m1.2 (fun x _ => ?_)); have hx := x.toNat_lt; refine Tot.ck (by omega) (by omega) (Tot.ck (by omega) (by omega) (Tot.ck (by omega) (by omega) ?_)); have m2 := tmod_b (m := o.p * 7 + 3) (n := o.b.length) (by omega) hb; refine Tot.rem (by omega) (Tot.at m2.1 m2.2 (fun y _ => ?_)); have hy := y.toNat_lt; refine Tot.ck (by omega) (by omega) (Tot.ck (by omega) (by omega) (Tot.ck (by omega) (by omega) (Tot.ck (by omega) (by omega) ?_))); have d1 := tdiv_b (m := o.p) (n := o.b.length) (by omega) hb; refine Tot.quo (by omega) (by omega) (by omega) (Tot.ck (by omega) (by omega) (Tot.ck (by omega) (by omega) ?_)); have hz : 0 ≤ (x.toNat : Int) * 131 + (y.toNat : Int) * 1117 + o.p * 29 + o.p.tdiv o.b.length * 53 ∧ (x.toNat : Int) * 131 + (y.toNat : Int) * 1117 + o.p * 29 + o.p.tdiv o.b.length * 53 < 1000000000000 := by omega
      generalize (x.toNat : Int) * 131 + (y.toNat : Int) * 1117 + o.p * 29 + o.p.tdiv o.b.length * 53 = z at hz ⊢; have d2 := tdiv_b (m := z) (n := 64) (by omega) (by omega); refine Tot.quo (by omega) (by omega) (by omega) (Tot.xor (by omega) (fun u h4 h5 => Tot.rem (by omega) (Tot.ret ?_))); have := tmod_b (m := u) (n := n) (by omega) (by omega); exact ⟨this.1, .inl this.2, rfl⟩
theorem T_odd {o : Rd} {n : Int} (ho : 0 ≤ o.p ∧ o.p ≤ 1000000000) (hn : -900000000 ≤ n ∧ n ≤ 900000000) : Tot (m_Pspec_l20Rd_odd o n) fun r => o.p ≤ r.2.p ∧ r.2.p ≤ o.p + 1 := by
  unfold m_Pspec_l20Rd_odd m_Pspec_l20Rd_odd_j1; refine Tot.bif (fun h => ?_) (fun h => Tot.ret ⟨Int.le_refl _, by simp only; omega⟩); refine Tot.bind (T_pick ho) (fun r hr => ?_); exact Tot.ck (by omega) (by omega) (Tot.ret ⟨by simp only; omega, by simp only; omega⟩)
def vDr (v : V) : Prop := v.S.size ≤ 20 ∧ -10000 ≤ v.N ∧ v.N ≤ 10000 ∧ -10 ≤ v.Kind ∧ v.Kind ≤ 10
theorem T_l20Value_j3 {n : Int} {o : Rd} {v w : V} (ho : 0 ≤ o.p ∧ o.p ≤ 1000000000 - 10) (hn : -900000000 ≤ n ∧ n ≤ 900000000) (hv : w.S.size ≤ 10 ∧ -10000 ≤ w.N ∧ w.N ≤ 10000 ∧ -10 ≤ w.Kind ∧ w.Kind ≤ 10) : Tot (m_spec_l20Value_j3 n o v w) fun r => vDr r.1 ∧ o.p ≤ r.2.p ∧ r.2.p ≤ o.p + 5 := by
  unfold m_spec_l20Value_j3 m_spec_l20Value_j4; refine Tot.bind (T_odd (by omega) hn) (fun r hr => ?_); refine Tot.bif (fun _ => ?_) (fun _ => ?_)
  · refine Tot.bind (T_pick (by omega)) (fun q hq => ?_)
    refine Tot.bif (fun _ => ?_) (fun _ => Tot.bif (fun _ => ?_) (fun _ => Tot.bif (fun _ => ?_) (fun _ => ?_)))
    · refine Tot.lt (Tot.lt (Tot.ret ⟨⟨by simp only; omega, by simp only; omega, by simp only; omega, by simp only; omega, by simp only; omega⟩, by simp only; omega, by simp only; omega⟩))
    · refine Tot.cat (by rw [show ByteArray.size ⟨#[97, 98, 99, 100, 101, 102, 103]⟩ = 7 from rfl]; omega) (Tot.lt (Tot.lt (Tot.ret ⟨⟨?_, by simp only; omega, by simp only; omega, by simp only; omega, by simp only; omega⟩, by simp only; omega, by simp only; omega⟩)))
      simp only [ByteArray.size_append]; rw [show ByteArray.size ⟨#[97, 98, 99, 100, 101, 102, 103]⟩ = 7 from rfl]; omega
    · refine Tot.bind (T_pick (by omega)) (fun u hu => ?_)
      refine Tot.ck (by omega) (by omega) (Tot.lt (Tot.lt (Tot.ret ⟨⟨by simp only; omega, by simp only; omega, by simp only; omega, by simp only; omega, by simp only; omega⟩, by simp only; omega, by simp only; omega⟩)))
    · refine Tot.cat (by rw [show ByteArray.size ⟨#[65]⟩ = 1 from rfl]; omega) (Tot.lt (Tot.lt (Tot.ret ⟨⟨?_, by simp only; omega, by simp only; omega, by simp only; omega, by simp only; omega⟩, by simp only; omega, by simp only; omega⟩)))
      simp only [ByteArray.size_append]; rw [show ByteArray.size ⟨#[65]⟩ = 1 from rfl]; omega
  · exact Tot.lt (Tot.ret ⟨⟨by simp only; omega, by simp only; omega, by simp only; omega, by simp only; omega, by simp only; omega⟩, by simp only; omega, by simp only; omega⟩)
theorem T_l20Value_l1 {n : Int} {v : V} (hn : -900000000 ≤ n ∧ n ≤ 900000000) {p : Int} (hp : 0 ≤ p ∧ p ≤ 1000000000 - 20) : ∀ (f : Nat) (t : Int) (s : Rd × V), 0 ≤ t → t < f → (t ≤ 4 ∧ p ≤ s.1.p ∧ s.1.p + t ≤ p + 4 ∧ (s.2.S.size : Int) + t ≤ 4 ∧ -10000 ≤ s.2.N ∧ s.2.N ≤ 10000 ∧ -10 ≤ s.2.Kind ∧ s.2.Kind ≤ 10) →
    Tot (m_spec_l20Value_l1 f n t s.1 v s.2) fun r => vDr r.1 ∧ p ≤ r.2.p ∧ r.2.p ≤ p + 9 := by
  refine Tot.down (fun f t (s : Rd × V) => m_spec_l20Value_l1 f n t s.1 v s.2) _ (fun f s h => ?_) (fun f t s ht h ih => ?_)
  · rw [m_spec_l20Value_l1, show decide ((0 : Int) > 0) = false from rfl, cond_false]
    exact (T_l20Value_j3 (by omega) hn ⟨by omega, by omega, by omega, by omega, by omega⟩).mono fun r hr => ⟨hr.1, by omega, by omega⟩
  · rw [m_spec_l20Value_l1, decide_eq_true (show t > 0 by omega), cond_true]
    refine Tot.bind (T_pick (by omega)) (fun r hr => ?_); refine Tot.ck (by omega) (by omega) (Tot.cat ?_ (Tot.lt (Tot.ck (by omega) (by omega) ?_)))
    · rw [show (bStr [Lift.byteOf (97 + r.1)]).size = 1 from rfl]; omega
    · refine ih (r.2, { s.2 with S := s.2.S ++ bStr [Lift.byteOf (97 + r.1)] }) ⟨by omega, by simp only; omega, by simp only; omega, ?_, by simp only; omega, by simp only; omega, by simp only; omega, by simp only; omega⟩
      simp only [ByteArray.size_append]; rw [show (bStr [Lift.byteOf (97 + r.1)]).size = 1 from rfl]; omega
theorem T_l20Value {o : Rd} {n : Int} (ho : 0 ≤ o.p ∧ o.p ≤ 1000000000 - 100) (hn : -900000000 ≤ n ∧ n ≤ 900000000) : Tot (m_spec_l20Value o n) fun r => vDr r.1 ∧ o.p ≤ r.2.p ∧ r.2.p ≤ o.p + 15 := by
  unfold m_spec_l20Value; have e0 : ByteArray.size ⟨#[]⟩ = 0 := rfl
  have j2 : ∀ (b : Bool) (q : Rd) (v w : V), o.p ≤ q.p → q.p ≤ o.p + 2 → w.S.size = 0 → w.N = 0 → w.Kind = 0 → Tot (m_spec_l20Value_j2 n b q v w) fun r => vDr r.1 ∧ o.p ≤ r.2.p ∧ r.2.p ≤ o.p + 15 := by
    intro b q v w h1 h2 h3 h4 h5; unfold m_spec_l20Value_j2; refine Tot.bif (fun _ => Tot.lt ?_) (fun _ => ?_)
    · refine Tot.bind (T_pick (by omega)) (fun r hr => ?_)
      exact (T_l20Value_l1 (v := v) hn (p := r.2.p) (by omega) _ r.1 (r.2, ⟨2, 0, ⟨#[]⟩⟩) (by omega) (by omega) ⟨by omega, by simp only; omega, by simp only; omega, by simp only [e0]; omega, by first | decide | omega | (simp only; omega), by first | decide | omega | (simp only; omega), by first | decide | omega | (simp only; omega), by first | decide | omega | (simp only; omega)⟩).mono fun x hx => ⟨hx.1, by omega, by omega⟩
    · refine Tot.bind (T_pick (by omega)) (fun r hr => Tot.lt ?_)
      exact (T_l20Value_j3 (by omega) hn ⟨by simp only [e0]; omega, by simp only; omega, by simp only; omega, by first | decide | omega | (simp only; omega), by first | decide | omega | (simp only; omega)⟩).mono fun x hx => ⟨hx.1, by omega, by omega⟩
  have j1 : ∀ (t : Int) (b : Bool) (q : Rd) (v w : V), o.p ≤ q.p → q.p ≤ o.p + 1 → w.S.size = 0 → w.N = 0 → w.Kind = 0 → Tot (m_spec_l20Value_j1 n t b q v w) fun r => vDr r.1 ∧ o.p ≤ r.2.p ∧ r.2.p ≤ o.p + 15 := by
    intro t b q v w h1 h2 h3 h4 h5; unfold m_spec_l20Value_j1; refine Tot.bif (fun _ => ?_) (fun _ => Tot.bif (fun _ => j2 _ _ _ _ h1 (by omega) h3 h4 h5) (fun _ => j2 _ _ _ _ h1 (by omega) h3 h4 h5)); refine Tot.bind (T_pick (by omega)) (fun r hr => Tot.ck (by omega) (by omega) (Tot.lt ?_)); refine Tot.bind (T_pick (by omega)) (fun u hu => Tot.bif (fun _ => ?_) (fun _ => ?_))
    · refine Tot.bind (T_pick (by omega)) (fun x hx => Tot.at (by omega) (by simp only [List.length_cons, List.length_nil]; omega) (fun y hy => Tot.lt ?_))
      have hy' : -10000 ≤ y ∧ y ≤ 10000 := by simp at hy; omega
      exact (T_l20Value_j3 (by omega) hn ⟨by simp only [e0]; omega, by simp only; omega, by simp only; omega, by first | decide | omega | (simp only; omega), by first | decide | omega | (simp only; omega)⟩).mono fun x hx => ⟨hx.1, by omega, by omega⟩
    · exact (T_l20Value_j3 (by omega) hn ⟨by simp only [e0]; omega, by simp only; omega, by simp only; omega, by first | decide | omega | (simp only; omega), by first | decide | omega | (simp only; omega)⟩).mono fun x hx => ⟨hx.1, by omega, by omega⟩
  refine Tot.lt (Tot.bind (T_pick (by omega)) (fun r hr => ?_)); refine Tot.bif (fun _ => ?_) (fun _ => Tot.bif (fun _ => ?_) (fun _ => Tot.bif (fun _ => ?_) (fun _ => ?_)))
  · exact (T_l20Value_j3 (by omega) hn ⟨by simp only [e0]; omega, by simp only; omega, by simp only; omega, by first | decide | omega | (simp only; omega), by first | decide | omega | (simp only; omega)⟩).mono fun x hx => ⟨hx.1, by omega, by omega⟩
  · exact j1 _ _ _ _ _ (by omega) (by omega) rfl rfl rfl
  · exact j1 _ _ _ _ _ (by omega) (by omega) rfl rfl rfl
  · exact j1 _ _ _ _ _ (by omega) (by omega) rfl rfl rfl
def cDr (c : S_impl_Column) : Prop := -10 ≤ c.Kind ∧ c.Kind ≤ 10
theorem T_l20Like {o : Rd} {c : S_impl_Column} (ho : 0 ≤ o.p ∧ o.p ≤ 1000000000 - 100) : Tot (m_spec_l20Like o c) fun r => vDr r.1 ∧ o.p ≤ r.2.p ∧ r.2.p ≤ o.p + 3 := by
  unfold m_spec_l20Like; have e0 : ByteArray.size ⟨#[]⟩ = 0 := rfl
  have j1 : ∀ (b : Bool) (q : Rd) (v : V), o.p ≤ q.p → q.p ≤ o.p + 1 → Tot (m_spec_l20Like_j1 c b q v) fun r => vDr r.1 ∧ o.p ≤ r.2.p ∧ r.2.p ≤ o.p + 3 := by
    intro b q v h1 h2; unfold m_spec_l20Like_j1; refine Tot.bif (fun _ => Tot.lt (Tot.ret ⟨⟨by first | decide | omega | (simp only; omega), by first | decide | omega | (simp only; omega), by first | decide | omega | (simp only; omega), by first | decide | omega | (simp only; omega), by first | decide | omega | (simp only; omega)⟩, h1, by simp only; omega⟩)) (fun _ => Tot.bif (fun _ => ?_) (fun _ => Tot.bif (fun _ => ?_) (fun _ => ?_)))
    · refine Tot.bind (T_pick (by omega)) (fun r hr => Tot.lt (Tot.ret ⟨⟨by simp only [e0]; omega, by simp only; omega, by simp only; omega, by simp only; omega, by simp only; omega⟩, by simp only; omega, by simp only; omega⟩))
    · refine Tot.bind (T_pick (by omega)) (fun r hr => Tot.at (by omega) (by simp only [List.length_cons, List.length_nil]; omega) (fun y hy => Tot.lt (Tot.ret ⟨⟨?_, by simp only; omega, by simp only; omega, by simp only; omega, by simp only; omega⟩, by simp only; omega, by simp only; omega⟩)))
      simp only [List.mem_cons, List.mem_nil_iff, or_false] at hy; rcases hy with rfl | rfl | rfl | rfl <;> exact Nat.le_of_ble_eq_true rfl
    · refine Tot.bind (T_pick (by omega)) (fun r hr => Tot.lt (Tot.ret ⟨⟨by simp only [e0]; omega, by simp only; omega, by simp only; omega, by simp only; omega, by simp only; omega⟩, by simp only; omega, by simp only; omega⟩))
  refine Tot.bif (fun _ => Tot.bind (T_pick (by omega)) (fun r hr => j1 _ _ _ (by omega) (by omega))) (fun _ => j1 _ _ _ (by omega) (by omega))
theorem T_l20Columns {o : Rd} {n : Int} (ho : 0 ≤ o.p ∧ o.p ≤ 1000000000 - 100) (hn : -900000000 ≤ n ∧ n ≤ 900000000) : Tot (m_spec_l20Columns o n) fun r => (1 ≤ r.1.length ∧ r.1.length ≤ 6 ∧ ∀ c ∈ r.1, cDr c) ∧ o.p ≤ r.2.p ∧ r.2.p ≤ o.p + 20 := by
  unfold m_spec_l20Columns; refine Tot.bind (T_pick (by omega)) (fun r hr => Tot.ck (by omega) (by omega) ?_); refine Tot.down (fun f t (s : Rd × List S_impl_Column) => m_spec_l20Columns_l1 f n t s.1 s.2) (fun t s => t ≤ 3 ∧ r.2.p ≤ s.1.p ∧ s.1.p + 2 * t ≤ r.2.p + 6 ∧ (s.2.length : Int) + t = 1 + r.1 ∧ ∀ c ∈ s.2, cDr c) (fun f s h => ?_) (fun f t s ht h ih => ?_) _ (1 + r.1) (r.2, []) (by omega) (by omega) ⟨by omega, by simp only; omega, by simp only; omega, by first | (simp; done) | (simp; omega), by simp⟩
  · obtain ⟨g1, g2, g3, g4, g5⟩ := h
    rw [m_spec_l20Columns_l1, show decide ((0 : Int) > 0) = false from rfl, cond_false]; unfold m_spec_l20Columns_j1 m_spec_l20Columns_j2; refine Tot.bind (T_odd (by omega) hn) (fun q hq => Tot.bif (fun _ => ?_) (fun _ => Tot.ret ⟨⟨by simp only; omega, by simp only; omega, g5⟩, by simp only; omega, by simp only; omega⟩)); refine Tot.bind (T_pick (by omega)) (fun u hu => Tot.ck (by omega) (by omega) (Tot.app (by simp only [List.length_cons, List.length_nil]; omega) (Tot.ret ⟨⟨by first | (simp; done) | (simp; omega), by first | (simp; done) | (simp; omega), ?_⟩, by simp only; omega, by simp only; omega⟩))); intro c hc; simp only [List.mem_append, List.mem_cons, List.mem_nil_iff, or_false] at hc; rcases hc with hc | rfl | rfl | rfl
    · exact g5 c hc
    · exact ⟨by simp only; omega, by simp only; omega⟩
    · exact ⟨by first | decide | omega | (simp only; omega), by first | decide | omega | (simp only; omega)⟩
    · exact ⟨by first | decide | omega | (simp only; omega), by first | decide | omega | (simp only; omega)⟩
  · obtain ⟨g1, g2, g3, g4, g5⟩ := h
    rw [m_spec_l20Columns_l1, decide_eq_true (show t > 0 by omega), cond_true]; refine Tot.bind (T_pick (by omega)) (fun x hx => Tot.at (by omega) (by simp only [List.length_cons, List.length_nil]; omega) (fun y hy => ?_)); have hy' : -10 ≤ y ∧ y ≤ 10 := by simp at hy; omega
    refine Tot.bind (T_pick (by omega)) (fun z hz => Tot.app (by simp only [List.length_cons, List.length_nil]; omega) (Tot.ck (by omega) (by omega) ?_)); refine ih (z.2, s.2 ++ [⟨y, decide (z.1 > 0)⟩]) ⟨by omega, by simp only; omega, by simp only; omega, by first | (simp; done) | (simp; omega), ?_⟩; intro c hc; simp only [List.mem_append, List.mem_cons, List.mem_nil_iff, or_false] at hc; rcases hc with hc | rfl
    · exact g5 c hc
    · exact hy'
def rDr (r : Row) : Prop := r.length ≤ 9 ∧ ∀ v ∈ r, vDr v
theorem T_l20Fit {o : Rd} {cs : List S_impl_Column} {n : Int} (ho : 0 ≤ o.p ∧ o.p ≤ 1000000000 - 1000) (hn : -900000000 ≤ n ∧ n ≤ 900000000) (hc : cs.length ≤ 6) : Tot (m_spec_l20Fit o cs n) fun r => rDr r.1 ∧ o.p ≤ r.2.p ∧ r.2.p ≤ o.p + 80 := by
  unfold m_spec_l20Fit; refine Tot.up (cs.length : Int) (fun f t (s : Rd × Row) => m_spec_l20Fit_l1 f cs n t s.1 s.2) (fun t s => o.p ≤ s.1.p ∧ s.1.p ≤ o.p + 3 * t ∧ (s.2.length : Int) = t ∧ ∀ v ∈ s.2, vDr v) (fun f s h => ?_) (fun f t s h0 ht h ih => ?_) _ 0 (o, []) (by omega) (by omega) (by omega) ⟨by simp only; omega, by simp only; omega, by simp, by simp⟩
  · obtain ⟨g1, g2, g3, g4⟩ := h
    rw [m_spec_l20Fit_l1, show decide ((cs.length : Int) < cs.length) = false by simp, cond_false]; unfold m_spec_l20Fit_j1 m_spec_l20Fit_j2; refine Tot.bind (T_odd (by omega) hn) (fun q hq => Tot.bif (fun _ => ?_) (fun _ => Tot.ret ⟨⟨by simp only; omega, g4⟩, by simp only; omega, by simp only; omega⟩)); refine Tot.bind (T_pick (by omega)) (fun u hu => Tot.bif (fun _ => ?_) (fun _ => Tot.bif (fun _ => ?_) (fun _ => ?_)))
    · refine Tot.app (by simp only [List.length_cons, List.length_nil]; omega) (Tot.ret ⟨⟨by first | (simp; done) | (simp; omega), ?_⟩, by simp only; omega, by simp only; omega⟩)
      intro c hc; simp only [List.mem_append, List.mem_cons, List.mem_nil_iff, or_false] at hc; rcases hc with hc | rfl
      · exact g4 c hc
      · exact ⟨by first | decide | omega | (simp only; omega), by first | decide | omega | (simp only; omega), by first | decide | omega | (simp only; omega), by first | decide | omega | (simp only; omega), by first | decide | omega | (simp only; omega)⟩
    · refine Tot.bif (fun h3 => ?_) (fun _ => Tot.ret ⟨⟨by simp only; omega, g4⟩, by simp only; omega, by simp only; omega⟩)
      simp only [gt_iff_lt, decide_eq_true_eq] at h3; refine Tot.bind (T_pick (by omega)) (fun x hx => Tot.bind (T_l20Value (by omega) (by omega)) (fun y hy => Tot.at (by omega) (by omega) (fun _ _ => Tot.at (by omega) (by omega) (fun _ _ => Tot.lt (Tot.ret ⟨⟨by first | (simp; done) | (simp; omega), ?_⟩, by simp only; omega, by simp only; omega⟩))))); intro c hc; rcases List.mem_or_eq_of_mem_set hc with hc | rfl
      · exact g4 c hc
      · exact hy.1
    · refine Tot.bind (T_l20Value (by omega) (by omega)) (fun x hx => Tot.bind (T_l20Value (by omega) (by omega)) (fun y hy => Tot.bind (T_l20Value (by omega) (by omega)) (fun z hz => Tot.app (by simp only [List.length_cons, List.length_nil]; omega) (Tot.ret ⟨⟨by first | (simp; done) | (simp; omega), ?_⟩, by simp only; omega, by simp only; omega⟩))))
      intro c hc; simp only [List.mem_append, List.mem_cons, List.mem_nil_iff, or_false] at hc; rcases hc with hc | rfl | rfl | rfl
      · exact g4 c hc
      · exact hx.1
      · exact hy.1
      · exact hz.1
  · obtain ⟨g1, g2, g3, g4⟩ := h
    rw [m_spec_l20Fit_l1, decide_eq_true ht, cond_true]; refine Tot.at h0 ht (fun c hc => Tot.bind (T_l20Like (by omega)) (fun x hx => Tot.app (by simp only [List.length_cons, List.length_nil]; omega) (Tot.ck (by omega) (by omega) ?_))); refine ih (x.2, s.2 ++ [x.1]) ⟨by simp only; omega, by simp only; omega, by first | (simp; done) | (simp; omega), ?_⟩; intro c hc; simp only [List.mem_append, List.mem_cons, List.mem_nil_iff, or_false] at hc; rcases hc with hc | rfl
    · exact g4 c hc
    · exact hx.1
theorem rDr_sm {r : Row} (h : rDr r) : rSm r := ⟨by have := h.1; omega, fun v hv => by have := (h.2 v hv).1; unfold vSm; omega⟩
theorem T_l20Open {l : List UInt8} : Tot (m_spec_l20Open l) fun r => r.p = 0 := by
  unfold m_spec_l20Open m_spec_l20Open_j1; refine Tot.bif (fun h => ?_) (fun _ => Tot.ret rfl); simp only [gt_iff_lt, decide_eq_true_eq] at h; exact Tot.cut (by omega) (Tot.ret rfl)
structure TO {α : Type} (p : α → α → Int) : Prop where
  eq0 : ∀ a b, p a b = 0 ↔ a = b
  anti : ∀ a b, p a b < 0 ↔ 0 < p b a
  trans : ∀ a b c, p a b < 0 → p b c < 0 → p a c < 0
theorem TO.le_trans {α : Type} {p : α → α → Int} (h : TO p) {a b c : α} (h1 : p a b ≤ 0) (h2 : p b c ≤ 0) : p a c ≤ 0 := by
  rcases Int.lt_or_eq_of_le h1 with h1 | h1
  · rcases Int.lt_or_eq_of_le h2 with h2 | h2
    · exact Int.le_of_lt (h.trans _ _ _ h1 h2)
    · rw [← (h.eq0 _ _).1 h2]; omega
  · rw [(h.eq0 _ _).1 h1]; exact h2
theorem TO.total {α : Type} {p : α → α → Int} (h : TO p) (a b : α) : 0 < p a b ↔ p b a < 0 := (h.anti b a).symm
def total (left : List Rows) : Nat := left.flatten.length
abbrev Ver := S_impl_Version
abbrev Wr := S_impl_Write
def keyB (n : Int) : Bool := decide (0 ≤ n) && decide (n ≤ 4)
def vb (v : Ver) : Bool := keyB v.Key && ((decide (1 ≤ v.Born) && decide (v.Born ≤ 40)) && ((decide (v.Died = 0) || (decide (v.Born + 1 ≤ v.Died) && decide (v.Died ≤ 40))) && rowOk v.Row))
def vbad (w v : Ver) : Bool := decide (w.Key > v.Key) || (decide (w.Key = v.Key) && (decide (w.Died = 0) || decide (w.Died > v.Born)))
def verOk (l : List Ver) : Bool := l.all vb && adjB vbad l && decide ((l.length : Int) ≤ 60)
theorem E_keyOk (n : Int) : m_impl_keyOk n = some (keyB n) := by unfold m_impl_keyOk; rw [E_between, Option.bind_some]; rfl
theorem nat01 : ((0 : Nat) : Int) + 1 = 1 := rfl
theorem natS {k : Nat} : ((k : Nat) : Int) + 1 = ((k + 1 : Nat) : Int) := by omega
theorem neF {a b : Int} (h : a = b) : (a != b) = false := by simp [h]
theorem vb_nums {v : Ver} (h : vb v = true) : 0 ≤ v.Key ∧ v.Key ≤ 4 ∧ 1 ≤ v.Born ∧ v.Born ≤ 40 ∧ (v.Died = 0 ∨ (v.Born + 1 ≤ v.Died ∧ v.Died ≤ 40)) ∧ rowOk v.Row = true := by
  unfold vb keyB at h; simp only [Bool.and_eq_true, Bool.or_eq_true, decide_eq_true_eq] at h; exact ⟨h.1.1, h.1.2, h.2.1.1, h.2.1.2, h.2.2.1, h.2.2.2⟩
theorem ivo_head {l : List Ver} {n k : Nat} {x : Ver} (hx : l[k]? = some x) (hr : rSm x.Row) : m_impl_VersionsOk_l1 (n + 1) l l (l.length : Int) (k : Int) = m_impl_VersionsOk_j1 (m_impl_VersionsOk_l1 n) l (k : Int) l (l.length : Int) (k : Int) (!vb x) x := by
  have hlt := lt_of_at hx; rw [m_impl_VersionsOk_l1, dlt hlt, cond_true, at_of hx, Option.bind_some, ltE, E_keyOk, Option.bind_some]; unfold vb; cases hA : keyB x.Key with
  | false => simp only [cond_true, cond_false, Bool.not_true, Bool.not_false, Bool.not_not, Bool.true_and, Bool.false_and, Bool.and_true, Bool.and_false, Bool.true_or, Bool.false_or, Bool.or_true, Bool.or_false]
  | true =>
    rw [Bool.not_true, cond_false, E_between, Option.bind_some, Bool.true_and]; cases hB : (decide (1 ≤ x.Born) && decide (x.Born ≤ 40)) with
    | false => simp only [cond_true, cond_false, Bool.not_true, Bool.not_false, Bool.not_not, Bool.true_and, Bool.false_and, Bool.and_true, Bool.and_false, Bool.true_or, Bool.false_or, Bool.or_true, Bool.or_false]
    | true =>
      rw [Bool.not_true, cond_false, Bool.true_and]
      by_cases hd : x.Died = 0
      · rw [neF hd, cond_false, E_impl_RowOk hr, Option.bind_some, decide_eq_true hd, Bool.true_or, Bool.true_and]
      · have hb := hB
        simp only [Bool.and_eq_true, decide_eq_true_eq] at hb; rw [beqF' hd, cond_true, ckI_of (by omega) (by omega), Option.bind_some, E_between, Option.bind_some, decide_eq_false hd, Bool.false_or]; cases hC : (decide (x.Born + 1 ≤ x.Died) && decide (x.Died ≤ 40)) with
        | false => simp only [cond_true, cond_false, Bool.not_true, Bool.not_false, Bool.not_not, Bool.true_and, Bool.false_and, Bool.and_true, Bool.and_false, Bool.true_or, Bool.false_or, Bool.or_true, Bool.or_false]
        | true => rw [Bool.not_true, cond_false, E_impl_RowOk hr, Option.bind_some, Bool.true_and]
theorem E_impl_VersionsOk {l : List Ver} (hl : l.length ≤ 3000000) (hr : ∀ v ∈ l, rSm v.Row) : m_impl_VersionsOk l = some (verOk l) := by
  unfold m_impl_VersionsOk verOk; refine scanPrev (p := vb) (bad := vbad) l (fun n k => m_impl_VersionsOk_l1 n l l (l.length : Int) k) (fun n x hx => ?_) (fun n k x y hx hy hp => ?_) (fun n => ?_) _ fuel0
  · show m_impl_VersionsOk_l1 (n + 1) l l (l.length : Int) ((0 : Nat) : Int) = _
    rw [ivo_head hx (hr x (List.mem_of_getElem? hx))]; unfold m_impl_VersionsOk_j1; cases vb x with
    | false => simp only [cond_true, cond_false, Bool.not_true, Bool.not_false, Bool.not_not, Bool.true_and, Bool.false_and, Bool.and_true, Bool.and_false, Bool.true_or, Bool.false_or, Bool.or_true, Bool.or_false]
    | true =>
      rw [Bool.not_true, cond_false, cond_true, show (((0 : Nat) : Int) == 0) = true from rfl, cond_true]; unfold m_impl_VersionsOk_j3; rw [ck1 (by omega), Option.bind_some, nat01]
  · rw [ivo_head hx (hr x (List.mem_of_getElem? hx))]
    have hlt := lt_of_at hx; unfold m_impl_VersionsOk_j1; cases vb x with
    | false => simp only [cond_true, cond_false, Bool.not_true, Bool.not_false, Bool.not_not, Bool.true_and, Bool.false_and, Bool.and_true, Bool.and_false, Bool.true_or, Bool.false_or, Bool.or_true, Bool.or_false]
    | true =>
      rw [Bool.not_true, cond_false, Bool.true_and, beqF (show ¬ ((k + 1 : Nat) : Int) = 0 by omega), cond_false, ckdd (by omega), Option.bind_some, at_of hy, Option.bind_some, ltE]; have hn := vb_nums hp; unfold vbad; have stop : m_impl_VersionsOk_j2 (m_impl_VersionsOk_l1 n) l l (l.length : Int) ((k + 1 : Nat) : Int) true = some false := by unfold m_impl_VersionsOk_j2; rw [cond_true]
      have next : m_impl_VersionsOk_j2 (m_impl_VersionsOk_l1 n) l l (l.length : Int) ((k + 1 : Nat) : Int) false = m_impl_VersionsOk_l1 n l l (l.length : Int) ((k + 1 + 1 : Nat) : Int) := by
        unfold m_impl_VersionsOk_j2 m_impl_VersionsOk_j3; rw [cond_false, ck1 (by omega), Option.bind_some, show ((k + 1 : Nat) : Int) + 1 = ((k + 1 + 1 : Nat) : Int) by omega]
      by_cases h1 : y.Key > x.Key
      · rw [decide_eq_true h1, cond_true, stop]; simp only [cond_true, cond_false, Bool.not_true, Bool.not_false, Bool.not_not, Bool.true_and, Bool.false_and, Bool.and_true, Bool.and_false, Bool.true_or, Bool.false_or, Bool.or_true, Bool.or_false]
      · rw [decide_eq_false h1, cond_false, Bool.false_or]
        by_cases h2 : y.Key = x.Key
        · rw [show (y.Key == x.Key) = true by simp [h2], cond_true, decide_eq_true h2, Bool.true_and]
          by_cases h3 : y.Born ≥ x.Born
          · rw [decide_eq_true h3, cond_true]
            by_cases h4 : y.Died = 0
            · rw [stop, decide_eq_true h4]; simp only [cond_true, cond_false, Bool.not_true, Bool.not_false, Bool.not_not, Bool.true_and, Bool.false_and, Bool.and_true, Bool.and_false, Bool.true_or, Bool.false_or, Bool.or_true, Bool.or_false]
            · rw [stop, decide_eq_false h4, decide_eq_true (show y.Died > x.Born by omega)]; simp only [cond_true, cond_false, Bool.not_true, Bool.not_false, Bool.not_not, Bool.true_and, Bool.false_and, Bool.and_true, Bool.and_false, Bool.true_or, Bool.false_or, Bool.or_true, Bool.or_false]
          · rw [decide_eq_false h3, cond_false]
            by_cases h4 : y.Died = 0
            · rw [show (y.Died == 0) = true by simp [h4], cond_true, decide_eq_true h4, stop]; simp only [cond_true, cond_false, Bool.not_true, Bool.not_false, Bool.not_not, Bool.true_and, Bool.false_and, Bool.and_true, Bool.and_false, Bool.true_or, Bool.false_or, Bool.or_true, Bool.or_false]
            · rw [beqF h4, cond_false, decide_eq_false h4, Bool.false_or]
              by_cases h5 : y.Died > x.Born
              · rw [decide_eq_true h5, stop]; simp only [cond_true, cond_false, Bool.not_true, Bool.not_false, Bool.not_not, Bool.true_and, Bool.false_and, Bool.and_true, Bool.and_false, Bool.true_or, Bool.false_or, Bool.or_true, Bool.or_false]
              · rw [decide_eq_false h5, next]; simp only [cond_true, cond_false, Bool.not_true, Bool.not_false, Bool.not_not, Bool.true_and, Bool.false_and, Bool.and_true, Bool.and_false, Bool.true_or, Bool.false_or, Bool.or_true, Bool.or_false]
        · rw [beqF h2, cond_false, decide_eq_false h2, Bool.false_and, next]; simp only [cond_true, cond_false, Bool.not_true, Bool.not_false, Bool.not_not, Bool.true_and, Bool.false_and, Bool.and_true, Bool.and_false, Bool.true_or, Bool.false_or, Bool.or_true, Bool.or_false]
  · rw [m_impl_VersionsOk_l1, dnlt, cond_false]; rfl
theorem E_l13Version {x : Ver} (hr : rSm x.Row) : m_spec_l13Version x = some (vb x) := by
  unfold m_spec_l13Version m_spec_l13Version_j1 vb; rw [E_l1In, Option.bind_some]; show (bif keyB x.Key then _ else _) = _; cases hA : keyB x.Key with
  | false => simp only [cond_true, cond_false, Bool.not_true, Bool.not_false, Bool.not_not, Bool.true_and, Bool.false_and, Bool.and_true, Bool.and_false, Bool.true_or, Bool.false_or, Bool.or_true, Bool.or_false]
  | true =>
    rw [cond_true, E_l1In, Option.bind_some, Bool.true_and]; cases hB : (decide (1 ≤ x.Born) && decide (x.Born ≤ 40)) with
    | false => simp only [cond_true, cond_false, Bool.not_true, Bool.not_false, Bool.not_not, Bool.true_and, Bool.false_and, Bool.and_true, Bool.and_false, Bool.true_or, Bool.false_or, Bool.or_true, Bool.or_false]
    | true =>
      rw [cond_true, Bool.true_and]
      by_cases hd : x.Died = 0
      · rw [show (x.Died == 0) = true by simp [hd], cond_true, E_spec_RowOk hr, Option.bind_some, decide_eq_true hd, Bool.true_or, Bool.true_and]
      · have hb := hB
        simp only [Bool.and_eq_true, decide_eq_true_eq] at hb; rw [beqF hd, cond_false, ckI_of (by omega) (by omega), Option.bind_some, E_l1In, Option.bind_some, decide_eq_false hd, Bool.false_or]; cases hC : (decide (x.Born + 1 ≤ x.Died) && decide (x.Died ≤ 40)) with
        | false => simp only [cond_true, cond_false, Bool.not_true, Bool.not_false, Bool.not_not, Bool.true_and, Bool.false_and, Bool.and_true, Bool.and_false, Bool.true_or, Bool.false_or, Bool.or_true, Bool.or_false]
        | true => rw [cond_true, E_spec_RowOk hr, Option.bind_some, Bool.true_and]
theorem E_spec_VersionsOk {l : List Ver} (hl : l.length ≤ 3000000) (hr : ∀ v ∈ l, rSm v.Row) : m_spec_VersionsOk l = some (verOk l) := by
  unfold m_spec_VersionsOk verOk; refine scanPrev (p := vb) (bad := vbad) l (fun n k => m_spec_VersionsOk_l1 n l k) (fun n x hx => ?_) (fun n k x y hx hy hp => ?_) (fun n => ?_) _ fuel0
  · have hlt := lt_of_at hx
    have hx' : at? l 0 = some x := at_of hx; show m_spec_VersionsOk_l1 (n + 1) l ((0 : Nat) : Int) = _; rw [m_spec_VersionsOk_l1, dlt hlt, cond_true, at_of hx, Option.bind_some, E_l13Version (hr x (List.mem_of_getElem? hx)), Option.bind_some]; cases vb x with
    | false => simp only [cond_true, cond_false, Bool.not_true, Bool.not_false, Bool.not_not, Bool.true_and, Bool.false_and, Bool.and_true, Bool.and_false, Bool.true_or, Bool.false_or, Bool.or_true, Bool.or_false]
    | true =>
      rw [Bool.not_true, cond_false, cond_true, dgt00, cond_false]; unfold m_spec_VersionsOk_j1; rw [cond_false, ck1 (by omega), Option.bind_some, nat01]
  · have hlt := lt_of_at hx
    have stop : m_spec_VersionsOk_j1 (m_spec_VersionsOk_l1 n) l ((k + 1 : Nat) : Int) true = some false := by unfold m_spec_VersionsOk_j1; rw [cond_true]
    have next : m_spec_VersionsOk_j1 (m_spec_VersionsOk_l1 n) l ((k + 1 : Nat) : Int) false = m_spec_VersionsOk_l1 n l ((k + 1 + 1 : Nat) : Int) := by
      unfold m_spec_VersionsOk_j1; rw [cond_false, ck1 (by omega), Option.bind_some, show ((k + 1 : Nat) : Int) + 1 = ((k + 1 + 1 : Nat) : Int) by omega]
    rw [m_spec_VersionsOk_l1, dlt hlt, cond_true, at_of hx, Option.bind_some, E_l13Version (hr x (List.mem_of_getElem? hx)), Option.bind_some]; cases vb x with
    | false => simp only [cond_true, cond_false, Bool.not_true, Bool.not_false, Bool.not_not, Bool.true_and, Bool.false_and, Bool.and_true, Bool.and_false, Bool.true_or, Bool.false_or, Bool.or_true, Bool.or_false]
    | true =>
      rw [Bool.not_true, cond_false, Bool.true_and, dgt0, cond_true, ckdd (by omega), Option.bind_some, at_of hy, Option.bind_some, Option.bind_some]; unfold vbad
      by_cases h0 : y.Key ≥ x.Key
      · rw [decide_eq_true h0, cond_true, Option.bind_some, at_of hy, Option.bind_some, Option.bind_some]
        by_cases h1 : y.Key > x.Key
        · rw [decide_eq_true h1, cond_true, stop]; simp only [cond_true, cond_false, Bool.not_true, Bool.not_false, Bool.not_not, Bool.true_and, Bool.false_and, Bool.and_true, Bool.and_false, Bool.true_or, Bool.false_or, Bool.or_true, Bool.or_false]
        · have h2 : y.Key = x.Key := by omega
          rw [decide_eq_false h1, cond_false, Option.bind_some, at_of hy, Option.bind_some, Bool.false_or, decide_eq_true h2, Bool.true_and]
          by_cases h4 : y.Died = 0
          · rw [show (y.Died == 0) = true by simp [h4], cond_true, decide_eq_true h4, stop]; simp only [cond_true, cond_false, Bool.not_true, Bool.not_false, Bool.not_not, Bool.true_and, Bool.false_and, Bool.and_true, Bool.and_false, Bool.true_or, Bool.false_or, Bool.or_true, Bool.or_false]
          · rw [beqF h4, cond_false, Option.bind_some, at_of hy, Option.bind_some, Option.bind_some, decide_eq_false h4, Bool.false_or]
            by_cases h5 : y.Died > x.Born
            · rw [decide_eq_true h5, stop]; simp only [cond_true, cond_false, Bool.not_true, Bool.not_false, Bool.not_not, Bool.true_and, Bool.false_and, Bool.and_true, Bool.and_false, Bool.true_or, Bool.false_or, Bool.or_true, Bool.or_false]
            · rw [decide_eq_false h5, next]; simp only [cond_true, cond_false, Bool.not_true, Bool.not_false, Bool.not_not, Bool.true_and, Bool.false_and, Bool.and_true, Bool.and_false, Bool.true_or, Bool.false_or, Bool.or_true, Bool.or_false]
      · rw [decide_eq_false h0, cond_false, decide_eq_false (show ¬ y.Key > x.Key by omega), Bool.false_or, decide_eq_false (show ¬ y.Key = x.Key by omega), Bool.false_and, next]; simp only [cond_true, cond_false, Bool.not_true, Bool.not_false, Bool.not_not, Bool.true_and, Bool.false_and, Bool.and_true, Bool.and_false, Bool.true_or, Bool.false_or, Bool.or_true, Bool.or_false]
  · rw [m_spec_VersionsOk_l1, dnlt, cond_false]; rfl
def wb (w : Wr) : Bool := keyB w.Key && (rowOk w.Row && !(w.Gone && decide ((w.Row.length : Int) > 0)))
def wbad (x w : Wr) : Bool := decide (x.Key ≥ w.Key)
def wOk (l : List Wr) : Bool := l.all wb && adjB wbad l
theorem adj_len {l : List Wr} (h : wOk l = true) : l.length ≤ 5 := by
  unfold wOk at h; rw [Bool.and_eq_true, adjB_iff] at h; obtain ⟨h1, h2⟩ := h
  have key : ∀ (k : Nat) (x : Wr), l[k]? = some x → (k : Int) ≤ x.Key := by
    intro k
    induction k with
    | zero =>
      intro x hx; have := List.all_eq_true.1 h1 x (List.mem_of_getElem? hx); unfold wb keyB at this; simp only [Bool.and_eq_true, decide_eq_true_eq] at this; omega
    | succ k ih =>
      intro x hx; have hlt := lt_of_at hx; have hy : l[k]? = some l[k] := List.getElem?_eq_getElem (by omega); have := h2 k _ _ hy hx; unfold wbad at this; rw [decide_eq_false_iff_not] at this; have := ih _ hy; omega
  rcases Nat.lt_or_ge 5 l.length with h5 | h5
  · have hx : l[5]? = some l[5] := List.getElem?_eq_getElem h5
    have a := key 5 _ hx; have := List.all_eq_true.1 h1 _ (List.mem_of_getElem? hx); unfold wb keyB at this; simp only [Bool.and_eq_true, decide_eq_true_eq] at this; omega
  · exact h5
theorem E_impl_WritesOk {l : List Wr} (hl : l.length ≤ 3000000) (hr : ∀ v ∈ l, rSm v.Row) : m_impl_WritesOk l = some (wOk l) := by
  have main : m_impl_WritesOk l = some (l.all wb && adjB wbad l && decide ((l.length : Int) ≤ 5)) := by
    unfold m_impl_WritesOk
    have head : ∀ n (k : Nat) x (c : Bool) (hc : (bif decide ((k : Int) > 0) then ((ckI ((k : Int) - 1)).bind fun x21 => (at? l x21).bind fun x22 => m_impl_WritesOk_j1 (m_impl_WritesOk_l1 n) l l (l.length : Int) (k : Int) (decide (x22.Key ≥ x.Key))) else (m_impl_WritesOk_j1 (m_impl_WritesOk_l1 n) l l (l.length : Int) (k : Int) false)) = m_impl_WritesOk_j1 (m_impl_WritesOk_l1 n) l l (l.length : Int) (k : Int) c), l[k]? = some x → m_impl_WritesOk_l1 (n + 1) l l (l.length : Int) (k : Int) = m_impl_WritesOk_j1 (m_impl_WritesOk_l1 n) l l (l.length : Int) (k : Int) (!(wb x) || c) := by
      intro n k x c hc hx; have hlt := lt_of_at hx; rw [m_impl_WritesOk_l1, dlt hlt, cond_true, at_of hx, Option.bind_some, ltE, E_keyOk, Option.bind_some]; unfold wb; cases keyB x.Key with
      | false => rw [Bool.not_false, cond_true, Bool.false_and, Bool.not_false, Bool.true_or]
      | true =>
        rw [Bool.not_true, cond_false, E_impl_RowOk (hr x (List.mem_of_getElem? hx)), Option.bind_some, Bool.true_and]; cases rowOk x.Row with
        | false => rw [Bool.not_false, cond_true, Bool.false_and, Bool.not_false, Bool.true_or]
        | true =>
          rw [Bool.not_true, cond_false, Bool.true_and, Bool.not_not]; cases x.Gone with
          | true =>
            rw [cond_true, Bool.true_and]
            by_cases h : (x.Row.length : Int) > 0
            · rw [decide_eq_true h, cond_true, Bool.true_or]
            · rw [decide_eq_false h, cond_false, Bool.false_or]; exact hc
          | false => rw [cond_false, Bool.false_and, Bool.false_or]; exact hc
    refine scanPrev (p := wb) (bad := wbad) l (fun n k => m_impl_WritesOk_l1 n l l (l.length : Int) k) (fun n x hx => ?_) (fun n k x y hx hy hp => ?_) (fun n => ?_) _ fuel0
    · show m_impl_WritesOk_l1 (n + 1) l l (l.length : Int) ((0 : Nat) : Int) = _
      rw [head n 0 x false (by rw [dgt00, cond_false]) hx]; unfold m_impl_WritesOk_j1; cases wb x with
      | false => simp only [cond_true, cond_false, Bool.not_true, Bool.not_false, Bool.not_not, Bool.true_and, Bool.false_and, Bool.and_true, Bool.and_false, Bool.true_or, Bool.false_or, Bool.or_true, Bool.or_false]
      | true => simp only [cond_true, cond_false, Bool.not_true, Bool.not_false, Bool.not_not, Bool.true_and, Bool.false_and, Bool.and_true, Bool.and_false, Bool.true_or, Bool.false_or, Bool.or_true, Bool.or_false]; rw [ck1 (by omega), Option.bind_some, nat01]
    · have hlt := lt_of_at hx
      rw [head n (k + 1) x (wbad y x) (by rw [dgt0, cond_true, ckdd (by omega), Option.bind_some, at_of hy, Option.bind_some, wbad]) hx]; unfold m_impl_WritesOk_j1; cases wb x with
      | false => simp only [cond_true, cond_false, Bool.not_true, Bool.not_false, Bool.not_not, Bool.true_and, Bool.false_and, Bool.and_true, Bool.and_false, Bool.true_or, Bool.false_or, Bool.or_true, Bool.or_false]
      | true =>
        rw [Bool.not_true, Bool.false_or, Bool.true_and]; cases wbad y x with
        | true => simp only [cond_true, cond_false, Bool.not_true, Bool.not_false, Bool.not_not, Bool.true_and, Bool.false_and, Bool.and_true, Bool.and_false, Bool.true_or, Bool.false_or, Bool.or_true, Bool.or_false]
        | false => rw [cond_false, ck1 (by omega), Option.bind_some, natS]; simp only [cond_true, cond_false, Bool.not_true, Bool.not_false, Bool.not_not, Bool.true_and, Bool.false_and, Bool.and_true, Bool.and_false, Bool.true_or, Bool.false_or, Bool.or_true, Bool.or_false]
    · rw [m_impl_WritesOk_l1, dnlt, cond_false, m_impl_WritesOk_j2]
  rw [main]
  congr 1
  cases h : wOk l with
  | false => unfold wOk at h; rw [h]; rfl
  | true =>
    have := adj_len h; unfold wOk at h; rw [h, decide_eq_true (by omega)]; rfl
theorem E_spec_WritesOk {l : List Wr} (hl : l.length ≤ 3000000) (hr : ∀ v ∈ l, rSm v.Row) : m_spec_WritesOk l = some (wOk l) := by
  have main : m_spec_WritesOk l = some (l.all wb && adjB wbad l && true) := by
    unfold m_spec_WritesOk
    have head : ∀ n (k : Nat) x (c : Bool) (hc : (bif decide ((k : Int) > 0) then ((ckI ((k : Int) - 1)).bind fun x21 => (at? l x21).bind fun x22 => m_spec_WritesOk_j1 (m_spec_WritesOk_l1 n) l (k : Int) (decide (x22.Key ≥ x.Key))) else (m_spec_WritesOk_j1 (m_spec_WritesOk_l1 n) l (k : Int) false)) = m_spec_WritesOk_j1 (m_spec_WritesOk_l1 n) l (k : Int) c), l[k]? = some x → m_spec_WritesOk_l1 (n + 1) l (k : Int) = m_spec_WritesOk_j1 (m_spec_WritesOk_l1 n) l (k : Int) (!(wb x) || c) := by
      intro n k x c hc hx; have hlt := lt_of_at hx; rw [m_spec_WritesOk_l1, dlt hlt, cond_true, at_of hx, Option.bind_some, ltE, E_l1In, Option.bind_some]; show (bif !(keyB x.Key) then _ else _) = _; unfold wb; cases keyB x.Key with
      | false => rw [Bool.not_false, cond_true, Bool.false_and, Bool.not_false, Bool.true_or]
      | true =>
        rw [Bool.not_true, cond_false, E_spec_RowOk (hr x (List.mem_of_getElem? hx)), Option.bind_some, Bool.true_and]; cases rowOk x.Row with
        | false => rw [Bool.not_false, cond_true, Bool.false_and, Bool.not_false, Bool.true_or]
        | true =>
          rw [Bool.not_true, cond_false, Bool.true_and, Bool.not_not]; cases x.Gone with
          | true =>
            rw [cond_true, Bool.true_and]
            by_cases h : (x.Row.length : Int) > 0
            · rw [decide_eq_true h, cond_true, Bool.true_or]
            · rw [decide_eq_false h, cond_false, Bool.false_or]; exact hc
          | false => rw [cond_false, Bool.false_and, Bool.false_or]; exact hc
    refine scanPrev (p := wb) (bad := wbad) l (fun n k => m_spec_WritesOk_l1 n l k) (fun n x hx => ?_) (fun n k x y hx hy hp => ?_) (fun n => ?_) _ fuel0
    · show m_spec_WritesOk_l1 (n + 1) l ((0 : Nat) : Int) = _
      rw [head n 0 x false (by rw [dgt00, cond_false]) hx]; unfold m_spec_WritesOk_j1; cases wb x with
      | false => simp only [cond_true, cond_false, Bool.not_true, Bool.not_false, Bool.not_not, Bool.true_and, Bool.false_and, Bool.and_true, Bool.and_false, Bool.true_or, Bool.false_or, Bool.or_true, Bool.or_false]
      | true => simp only [cond_true, cond_false, Bool.not_true, Bool.not_false, Bool.not_not, Bool.true_and, Bool.false_and, Bool.and_true, Bool.and_false, Bool.true_or, Bool.false_or, Bool.or_true, Bool.or_false]; rw [ck1 (by omega), Option.bind_some, nat01]
    · have hlt := lt_of_at hx
      rw [head n (k + 1) x (wbad y x) (by rw [dgt0, cond_true, ckdd (by omega), Option.bind_some, at_of hy, Option.bind_some, wbad]) hx]; unfold m_spec_WritesOk_j1; cases wb x with
      | false => simp only [cond_true, cond_false, Bool.not_true, Bool.not_false, Bool.not_not, Bool.true_and, Bool.false_and, Bool.and_true, Bool.and_false, Bool.true_or, Bool.false_or, Bool.or_true, Bool.or_false]
      | true =>
        rw [Bool.not_true, Bool.false_or, Bool.true_and]; cases wbad y x with
        | true => simp only [cond_true, cond_false, Bool.not_true, Bool.not_false, Bool.not_not, Bool.true_and, Bool.false_and, Bool.and_true, Bool.and_false, Bool.true_or, Bool.false_or, Bool.or_true, Bool.or_false]
        | false => rw [cond_false, ck1 (by omega), Option.bind_some, natS]; simp only [cond_true, cond_false, Bool.not_true, Bool.not_false, Bool.not_not, Bool.true_and, Bool.false_and, Bool.and_true, Bool.and_false, Bool.true_or, Bool.false_or, Bool.or_true, Bool.or_false]
    · rw [m_spec_WritesOk_l1, dnlt, cond_false, m_spec_WritesOk_j2]
  rw [main, Bool.and_true]; rfl
def turn1 (key m : Int) (v : Ver) : Int := if v.Key = key then maxI (maxI m v.Born) v.Died else m
def lastT (l : List Ver) (key : Int) : Int := l.foldl (fun m v => turn1 key m v) 0
def keys5 : List Int := [0, 1, 2, 3, 4]
def turnA (l : List Ver) : Int := keys5.foldl (fun m k => maxI m (lastT l k)) 0
theorem keys5_at {k : Nat} {x : Int} (h : keys5[k]? = some x) : x = (k : Int) ∧ k < 5 := by
  have hlt := lt_of_at h; have : k < 5 := hlt; refine ⟨?_, this⟩; unfold keys5 at h
  match k, this with
  | 0, _ => simp at h; omega
  | 1, _ => simp at h; omega
  | 2, _ => simp at h; omega
  | 3, _ => simp at h; omega
  | 4, _ => simp at h; omega
theorem E_impl_lastTurn {l : List Ver} (hl : l.length ≤ 3000000) (key : Int) : m_impl_lastTurn l key = some (lastT l key) := by
  unfold m_impl_lastTurn
  have := scanF (f := fun m v => turn1 key m v) (J := fun s => some s) (fun _ _ => True) l (fun n k s => m_impl_lastTurn_l1 n key s l (l.length : Int) k) (fun n k x s hx _ => ⟨by
    have hlt := lt_of_at hx; rw [m_impl_lastTurn_l1, dlt hlt, cond_true, at_of hx, Option.bind_some, ltE]; unfold m_impl_lastTurn_j1 turn1
    by_cases h : x.Key = key
    · rw [show (x.Key == key) = true by simp [h], cond_true, ck1 (by omega), Option.bind_some, if_pos h]
    · rw [beqF h, cond_false, ck1 (by omega), Option.bind_some, if_neg h], trivial⟩) (fun n s _ => by rw [m_impl_lastTurn_l1, dnlt, cond_false, m_impl_lastTurn_j2]) _ fuel0 0 trivial
  exact this.1
theorem E_spec_LastTurn {l : List Ver} (hl : l.length ≤ 3000000) (hr : ∀ v ∈ l, rSm v.Row) (key : Int) : m_spec_LastTurn l key = some (if verOk l then lastT l key else 0) := by
  unfold m_spec_LastTurn; have hv := E_spec_VersionsOk hl hr
  by_cases hok : verOk l = true
  · rw [if_pos hok]
    rw [hok] at hv
    have := scanF (f := fun m v => turn1 key m v) (J := fun s => some s) (fun _ _ => True) l (fun n k s => m_spec_LastTurn_l1 n l key s k) (fun n k x s hx _ => ⟨by
      have hlt := lt_of_at hx; rw [m_spec_LastTurn_l1, dlt hlt, cond_true, hv, Option.bind_some]; unfold m_spec_LastTurn_j1 m_spec_LastTurn_j2 turn1; rw [cond_true, at_of hx, Option.bind_some]
      by_cases h : x.Key = key
      · rw [show (x.Key == key) = true by simp [h], cond_true, Option.bind_some, Option.bind_some, ck1 (by omega), Option.bind_some, if_pos h]
      · rw [beqF h, cond_false, ck1 (by omega), Option.bind_some, if_neg h], trivial⟩) (fun n s _ => by rw [m_spec_LastTurn_l1, dnlt, cond_false]; unfold m_spec_LastTurn_j1; rw [cond_false, m_spec_LastTurn_j3]) 1000000000 (by omega) 0 trivial
    exact this.1
  · rw [if_neg hok]
    have hok' : verOk l = false := by simpa using hok
    rw [hok'] at hv; rw [show (1000000000 : Nat) = 999999999 + 1 from rfl, m_spec_LastTurn_l1]; unfold m_spec_LastTurn_j1; cases hc : decide ((0 : Int) < (l.length : Int)) with
    | true => rw [cond_true, hv, Option.bind_some, cond_false, m_spec_LastTurn_j3]
    | false => rw [cond_false, cond_false, m_spec_LastTurn_j3]
theorem E_turnAny {l : List Ver} (hl : l.length ≤ 3000000) : m_impl_turnAny l = some (turnA l) := by
  unfold m_impl_turnAny
  have := scanF (f := fun m k => maxI m (lastT l k)) (J := fun s => some s) (fun _ _ => True) keys5 (fun n k s => m_impl_turnAny_l1 n l s k) (fun n k x s hx _ => ⟨by
    obtain ⟨rfl, hk⟩ := keys5_at hx; rw [m_impl_turnAny_l1, decide_eq_true (by omega), cond_true, E_impl_lastTurn hl, Option.bind_some, ck1 (by omega), Option.bind_some], trivial⟩) (fun n s _ => by show m_impl_turnAny_l1 (n + 1) l s 5 = _; rw [m_impl_turnAny_l1, decide_eq_false (by omega), cond_false, m_impl_turnAny_j1]) (((5 : Int) - (0 : Int)).toNat + 1) (by decide) 0 trivial
  exact this.1
theorem maxI_le {a b c : Int} : maxI a b ≤ c ↔ a ≤ c ∧ b ≤ c := by unfold maxI; split <;> omega
theorem lastT_fold (key : Int) : ∀ (l : List Ver) (m c : Int), l.foldl (fun m v => turn1 key m v) m ≤ c ↔ m ≤ c ∧ ∀ v ∈ l, v.Key = key → v.Born ≤ c ∧ v.Died ≤ c
  | [], m, c => by simp
  | v :: l, m, c => by
    rw [List.foldl_cons, lastT_fold key l]; unfold turn1
    by_cases h : v.Key = key
    · rw [if_pos h, maxI_le, maxI_le]
      constructor
      · rintro ⟨⟨⟨a, b⟩, d⟩, e⟩
        refine ⟨a, fun u hu hk => ?_⟩; rcases List.mem_cons.1 hu with rfl | hu
        · exact ⟨b, d⟩
        · exact e u hu hk
      · rintro ⟨a, b⟩
        obtain ⟨b1, b2⟩ := b v (by simp) h; exact ⟨⟨⟨a, b1⟩, b2⟩, fun u hu => b u (by simp [hu])⟩
    · rw [if_neg h]
      constructor
      · rintro ⟨a, e⟩
        refine ⟨a, fun u hu hk => ?_⟩; rcases List.mem_cons.1 hu with rfl | hu
        · exact absurd hk h
        · exact e u hu hk
      · rintro ⟨a, b⟩
        exact ⟨a, fun u hu => b u (by simp [hu])⟩
theorem lastT_le {l : List Ver} {key c : Int} : lastT l key ≤ c ↔ 0 ≤ c ∧ ∀ v ∈ l, v.Key = key → v.Born ≤ c ∧ v.Died ≤ c := lastT_fold key l 0 c
theorem turnA_le {l : List Ver} {c : Int} : turnA l ≤ c ↔ 0 ≤ c ∧ ∀ k ∈ keys5, lastT l k ≤ c := by
  have key : ∀ (ks : List Int) (m : Int), ks.foldl (fun m k => maxI m (lastT l k)) m ≤ c ↔ m ≤ c ∧ ∀ k ∈ ks, lastT l k ≤ c := by
    intro ks
    induction ks with
    | nil => intro m; simp
    | cons k ks ih => intro m; rw [List.foldl_cons, ih, maxI_le, and_assoc]; simp
  exact key keys5 0
theorem E_l13Copy {l : List Ver} (hl : l.length ≤ 3000000) (hr : ∀ v ∈ l, v.Row.length ≤ 3000000) : m_spec_l13Copy l = some l := by
  unfold m_spec_l13Copy
  have := scanM (f := fun v : Ver => v) (J := fun o => m_spec_l13Copy_j1 o) l (fun n k o => m_spec_l13Copy_l1 n l k o) (fun n k x o hx ho => by
    have hlt := lt_of_at hx; rw [m_spec_l13Copy_l1, dlt hlt, cond_true, at_of hx, Option.bind_some, ltE, E_l3Own (Nat.le_trans (hr x (List.mem_of_getElem? hx)) (by decide)), Option.bind_some, ltE, app_of (by simp; omega), Option.bind_some, ck1 (by omega), Option.bind_some]) (fun n o ho => by
    rw [m_spec_l13Copy_l1, dnlt, cond_false]) _ fuel0
  rw [this, List.map_id']; rfl
theorem E_l14Writes {l : List Wr} (hl : l.length ≤ 3000000) (hr : ∀ v ∈ l, v.Row.length ≤ 3000000) : m_spec_l14Writes l = some l := by
  unfold m_spec_l14Writes
  have := scanM (f := fun v : Wr => v) (J := fun o => m_spec_l14Writes_j1 o) l (fun n k o => m_spec_l14Writes_l1 n l k o) (fun n k x o hx ho => by
    have hlt := lt_of_at hx; rw [m_spec_l14Writes_l1, dlt hlt, cond_true, at_of hx, Option.bind_some, ltE, E_l3Own (Nat.le_trans (hr x (List.mem_of_getElem? hx)) (by decide)), Option.bind_some, ltE, app_of (by simp; omega), Option.bind_some, ck1 (by omega), Option.bind_some]) (fun n o ho => by
    rw [m_spec_l14Writes_l1, dnlt, cond_false]) _ fuel0
  rw [this, List.map_id']; rfl
def endV (k t : Int) (v : Ver) : Ver := if v.Key = k ∧ v.Died = 0 then { v with Died := t } else v
def newV (w : Wr) (t : Int) : Ver := ⟨w.Key, t, 0, w.Row⟩
def insW (w : Wr) (t : Int) : List Ver → List Ver
  | [] => [newV w t]
  | v :: l => if v.Key > w.Key then newV w t :: endV w.Key t v :: l.map (endV w.Key t) else endV w.Key t v :: insW w t l
def put1 (l : List Ver) (w : Wr) (t : Int) : List Ver := if w.Gone then l.map (endV w.Key t) else insW w t l
def putAll (l : List Ver) (ws : List Wr) (t : Int) : List Ver := ws.foldl (fun o w => put1 o w t) l
def step1 (o : List Ver) (w : Wr) (t : Int) : List Ver := if w.Gone then o.map (endV w.Key t) else o.map (endV w.Key t) ++ [newV w t]
theorem endV_row (k t : Int) (v : Ver) : (endV k t v).Row = v.Row ∧ (endV k t v).Key = v.Key ∧ (endV k t v).Born = v.Born := by unfold endV; split <;> exact ⟨rfl, rfl, rfl⟩
theorem insW_perm (w : Wr) (t : Int) : ∀ l : List Ver, (insW w t l).Perm (l.map (endV w.Key t) ++ [newV w t])
  | [] => .refl _
  | v :: l => by
    rw [insW]
    split
    · exact (List.perm_append_comm (l₁ := [newV w t]) (l₂ := endV w.Key t v :: l.map (endV w.Key t)))
    · exact (insW_perm w t l).cons _
theorem put1_perm (l : List Ver) (w : Wr) (t : Int) : (put1 l w t).Perm (step1 l w t) := by
  unfold put1 step1; split
  · exact .refl _
  · exact insW_perm w t l
theorem step1_len (l : List Ver) (w : Wr) (t : Int) : (step1 l w t).length ≤ l.length + 1 := by unfold step1; split <;> simp
theorem put1_len (l : List Ver) (w : Wr) (t : Int) : (put1 l w t).length ≤ l.length + 1 := by rw [(put1_perm l w t).length_eq]; exact step1_len l w t
theorem l13_done {t : Int} {w : Wr} {l : List Ver} (hl : l.length ≤ 100000) : ∀ (rest pre out : List Ver) (n : Nat), l = pre ++ rest → rest.length < n → out.length ≤ pre.length + 1 → m_spec_l13Written_l1 n l t w true (pre.length : Int) out = some (out ++ rest.map (endV w.Key t)) := by
  intro rest
  induction rest with
  | nil =>
    intro pre out n hp hn ho; obtain ⟨n, rfl⟩ : ∃ q, n = q + 1 := ⟨n - 1, by omega⟩; have : pre.length = l.length := by rw [hp]; simp
    rw [this, m_spec_l13Written_l1, dnlt, cond_false]; unfold m_spec_l13Written_j5 m_spec_l13Written_j6; rw [Bool.not_true, cond_false]; simp
  | cons v rest ih =>
    intro pre out n hp hn ho; obtain ⟨n, rfl⟩ : ∃ q, n = q + 1 := ⟨n - 1, by omega⟩; have hx : l[pre.length]? = some v := by rw [hp]; simp
    have hlt := lt_of_at hx
    have tail : ∀ u : Ver, u = endV w.Key t v → m_spec_l13Written_j4 (m_spec_l13Written_l1 n) l t w true (pre.length : Int) u out = some (out ++ (v :: rest).map (endV w.Key t)) := by
      rintro u rfl; unfold m_spec_l13Written_j4; rw [app_of (by simp; omega), Option.bind_some, ck1 (by omega), Option.bind_some]; have := ih (pre ++ [v]) (out ++ [endV w.Key t v]) n (by rw [hp]; simp) (by simp at hn; omega) (by simp; omega); rw [List.length_append, List.length_singleton] at this; rw [natS, this]; simp
    rw [m_spec_l13Written_l1, dlt hlt, cond_true, at_of hx, Option.bind_some, ltE]
    have go : m_spec_l13Written_j2 (m_spec_l13Written_l1 n) l t w true (pre.length : Int) v out = some (out ++ (v :: rest).map (endV w.Key t)) := by
      unfold m_spec_l13Written_j2 m_spec_l13Written_j3
      by_cases h1 : v.Key = w.Key
      · rw [show (v.Key == w.Key) = true by simp [h1], cond_true]
        by_cases h2 : v.Died = 0
        · rw [show (v.Died == 0) = true by simp [h2], cond_true, ltE]
          exact tail _ (by unfold endV; rw [if_pos ⟨h1, h2⟩])
        · rw [beqF h2, cond_false]
          exact tail _ (by unfold endV; rw [if_neg (fun h => h2 h.2)])
      · rw [beqF h1, cond_false, cond_false]
        exact tail _ (by unfold endV; rw [if_neg (fun h => h1 h.1)])
    unfold m_spec_l13Written_j1; cases decide (v.Key > w.Key) with
    | true => rw [cond_true, Bool.not_true, cond_false]; exact go
    | false => rw [cond_false, cond_false]; exact go
theorem l13_open {t : Int} {w : Wr} {l : List Ver} (hl : l.length ≤ 100000) (hw : w.Row.length ≤ 3000000) : ∀ (rest pre out : List Ver) (n : Nat), l = pre ++ rest → rest.length < n → out.length ≤ pre.length → m_spec_l13Written_l1 n l t w false (pre.length : Int) out = some (out ++ insW w t rest) := by
  intro rest
  induction rest with
  | nil =>
    intro pre out n hp hn ho; obtain ⟨n, rfl⟩ : ∃ q, n = q + 1 := ⟨n - 1, by omega⟩; have : pre.length = l.length := by rw [hp]; simp
    rw [this, m_spec_l13Written_l1, dnlt, cond_false]; unfold m_spec_l13Written_j5 m_spec_l13Written_j6; rw [Bool.not_false, cond_true, E_l3Own (Nat.le_trans hw (by decide)), Option.bind_some, app_of (by simp; omega), Option.bind_some]; rfl
  | cons v rest ih =>
    intro pre out n hp hn ho; obtain ⟨n, rfl⟩ : ∃ q, n = q + 1 := ⟨n - 1, by omega⟩; have hx : l[pre.length]? = some v := by rw [hp]; simp
    have hlt := lt_of_at hx
    have body : ∀ (d : Bool) (out' r : List Ver), (∀ u : Ver, u = endV w.Key t v → m_spec_l13Written_j4 (m_spec_l13Written_l1 n) l t w d (pre.length : Int) u out' = some r) → m_spec_l13Written_j2 (m_spec_l13Written_l1 n) l t w d (pre.length : Int) v out' = some r := by
      intro d out' r tail; unfold m_spec_l13Written_j2 m_spec_l13Written_j3
      by_cases h1 : v.Key = w.Key
      · rw [show (v.Key == w.Key) = true by simp [h1], cond_true]
        by_cases h2 : v.Died = 0
        · rw [show (v.Died == 0) = true by simp [h2], cond_true, ltE]
          exact tail _ (by unfold endV; rw [if_pos ⟨h1, h2⟩])
        · rw [beqF h2, cond_false]
          exact tail _ (by unfold endV; rw [if_neg (fun h => h2 h.2)])
      · rw [beqF h1, cond_false, cond_false]
        exact tail _ (by unfold endV; rw [if_neg (fun h => h1 h.1)])
    rw [m_spec_l13Written_l1, dlt hlt, cond_true, at_of hx, Option.bind_some, ltE, insW]; unfold m_spec_l13Written_j1
    by_cases hk : v.Key > w.Key
    · rw [decide_eq_true hk, cond_true, Bool.not_false, cond_true, E_l3Own (Nat.le_trans hw (by decide)), Option.bind_some, app_of (by simp; omega), Option.bind_some, if_pos hk]
      refine body _ _ _ ?_; rintro u rfl; unfold m_spec_l13Written_j4; rw [app_of (by simp; omega), Option.bind_some, ck1 (by omega), Option.bind_some]; have := l13_done (t := t) (w := w) hl rest (pre ++ [v]) (out ++ [newV w t] ++ [endV w.Key t v]) n (by rw [hp]; simp) (by simp at hn; omega) (by simp; omega); rw [List.length_append, List.length_singleton] at this; rw [natS]; refine Eq.trans this ?_; simp
    · rw [decide_eq_false hk, cond_false, cond_false, if_neg hk]
      refine body _ _ _ ?_; rintro u rfl; unfold m_spec_l13Written_j4; rw [app_of (by simp; omega), Option.bind_some, ck1 (by omega), Option.bind_some]; have := ih (pre ++ [v]) (out ++ [endV w.Key t v]) n (by rw [hp]; simp) (by simp at hn; omega) (by simp; omega); rw [List.length_append, List.length_singleton] at this; rw [natS, this]; simp
theorem E_l13Written {l : List Ver} {w : Wr} {t : Int} (hl : l.length ≤ 100000) (hw : w.Row.length ≤ 3000000) : m_spec_l13Written l w t = some (put1 l w t) := by
  unfold m_spec_l13Written put1; cases w.Gone with
  | true =>
    have := l13_done (t := t) (w := w) hl l [] [] (((l.length : Int) - 0).toNat + 1) rfl fuel0 (by simp); rw [if_pos rfl]; exact this
  | false =>
    have := l13_open (t := t) (w := w) hl hw l [] [] (((l.length : Int) - 0).toNat + 1) rfl fuel0 (by simp); rw [if_neg (by simp)]; exact this
def turnsB (l : List Ver) (t : Int) : Bool := keys5.all fun k => decide (lastT l k < t)
def wrOk (l : List Ver) (ws : List Wr) (t : Int) : Bool := verOk l && (wOk ws && ((decide (1 ≤ t) && decide (t ≤ 40)) && turnsB l t))
def wrAt (l : List Ver) (ws : List Wr) (t : Int) : List Ver × Bool := if wrOk l ws t then (if (putAll l ws t).length > 60 then ([], false) else (putAll l ws t, true)) else ([], false)
theorem E_spec_WrittenAt {l : List Ver} {ws : List Wr} {t : Int} (hl : l.length ≤ 10000) (hr : ∀ v ∈ l, rSm v.Row) (hw : ws.length ≤ 10000) (hrw : ∀ w ∈ ws, rSm w.Row) : m_spec_WrittenAt l ws t = some (wrAt l ws t) := by
  have last : verOk l = true → m_spec_WrittenAt_j2 l ws t = some (if (putAll l ws t).length > 60 then ([], false) else (putAll l ws t, true)) := by
    intro hv; unfold m_spec_WrittenAt_j2; rw [E_l13Copy (by omega) (fun v h => by have := (hr v h).1; omega), Option.bind_some]
    have := scanF (f := fun o w => put1 o w t) (J := fun o => m_spec_WrittenAt_j3 o) (fun k o => o.length ≤ l.length + k) ws (fun n k o => m_spec_WrittenAt_l2 n ws t k o) (fun n k x o hx ho => ⟨by
      have hlt := lt_of_at hx; rw [m_spec_WrittenAt_l2, dlt hlt, cond_true, at_of hx, Option.bind_some, E_l13Written (by omega) (by have := (hrw x (List.mem_of_getElem? hx)).1; omega), Option.bind_some, ck1 (by omega), Option.bind_some], by have := put1_len o x t; omega⟩) (fun n o _ => by rw [m_spec_WrittenAt_l2, dnlt, cond_false]) _ fuel0 l (by omega)
    rw [this.1]; unfold m_spec_WrittenAt_j3; show (bif decide (((putAll l ws t).length : Int) > 60) then _ else _) = _
    by_cases h : (putAll l ws t).length > 60
    · rw [decide_eq_true (by omega), cond_true, if_pos h]
    · rw [decide_eq_false (by omega), cond_false, if_neg h]; rfl
  have turns : verOk l = true → m_spec_WrittenAt_l1 (((5 : Int) - (0 : Int)).toNat + 1) l ws t 0 = some (if turnsB l t then (if (putAll l ws t).length > 60 then ([], false) else (putAll l ws t, true)) else ([], false)) := by
    intro hv
    have hc := scanC (S := Unit) keys5 (fun n k (_ : Unit) => m_spec_WrittenAt_l1 n l ws t k) (fun x s k => bif decide (lastT l x ≥ t) then some ([], false) else k s) (fun _ => m_spec_WrittenAt_j2 l ws t) (fun n k x s hx => by
      obtain ⟨rfl, hk⟩ := keys5_at hx; show m_spec_WrittenAt_l1 (n + 1) l ws t (k : Int) = _; rw [m_spec_WrittenAt_l1, decide_eq_true (by omega), cond_true, E_spec_LastTurn (by omega) hr, Option.bind_some, if_pos hv, ck1 (by omega), Option.bind_some]) (fun n s => by
      show m_spec_WrittenAt_l1 (n + 1) l ws t 5 = _; rw [m_spec_WrittenAt_l1, decide_eq_false (by omega), cond_false]) (((5 : Int) - (0 : Int)).toNat + 1) (by decide) ()
    refine Eq.trans hc ?_; rw [last hv]; generalize (if (putAll l ws t).length > 60 then (([] : List Ver), false) else (putAll l ws t, true)) = r; unfold turnsB
    have key : ∀ ks : List Int, foldC (S := Unit) (fun x s k => bif decide (lastT l x ≥ t) then some (([] : List Ver), false) else k s) (fun _ => some r) ks () = some (if (ks.all fun k => decide (lastT l k < t)) = true then r else ([], false)) := by
      intro ks
      induction ks with
      | nil => rfl
      | cons k ks ih =>
        rw [foldC, List.all_cons, ih]
        by_cases h : lastT l k ≥ t
        · rw [decide_eq_true h, cond_true, decide_eq_false (by omega), Bool.false_and, if_neg (by simp)]
        · rw [decide_eq_false h, cond_false, decide_eq_true (by omega), Bool.true_and]
    exact key keys5
  unfold m_spec_WrittenAt wrAt wrOk; rw [E_spec_VersionsOk (by omega) hr, Option.bind_some]; have stop : m_spec_WrittenAt_j1 l ws t true = some ([], false) := by unfold m_spec_WrittenAt_j1; rw [cond_true]
  cases hv : verOk l with
  | false => rw [Bool.not_false, cond_true, stop, Bool.false_and, if_neg (by simp)]
  | true =>
    rw [Bool.not_true, cond_false, E_spec_WritesOk (by omega) hrw, Option.bind_some, Bool.true_and]; cases wOk ws with
    | false => rw [Bool.not_false, cond_true, stop, Bool.false_and, if_neg (by simp)]
    | true =>
      rw [Bool.not_true, cond_false, E_l1In, Option.bind_some, Bool.true_and]; cases (decide (1 ≤ t) && decide (t ≤ 40)) with
      | false => rw [Bool.not_false, stop, Bool.false_and, if_neg (by simp)]
      | true =>
        rw [Bool.not_true, Bool.true_and]; unfold m_spec_WrittenAt_j1; rw [cond_false, turns hv]
theorem vbad_iff {x y : Ver} : vbad x y = false ↔ x.Key < y.Key ∨ (x.Key = y.Key ∧ x.Died ≠ 0 ∧ x.Died ≤ y.Born) := by
  unfold vbad; simp only [Bool.or_eq_false_iff, Bool.and_eq_false_iff, decide_eq_false_iff_not]; omega
theorem adj_ordP {α : Type} {bad : α → α → Bool} {p : α → Prop} (ht : ∀ x y z, p x → p y → p z → bad x y = false → bad y z = false → bad x z = false) : ∀ {l : List α}, (∀ x ∈ l, p x) → Adj bad l → OrdB bad l
  | [], _, _ => List.Pairwise.nil
  | [x], _, _ => List.pairwise_singleton _ _
  | x :: y :: l, hp, h => by
    have h1 : OrdB bad (y :: l) := adj_ordP ht (fun z hz => hp z (by simp [hz])) fun i a b ha hb => h (i + 1) a b (by simpa using ha) (by simpa using hb); refine List.pairwise_cons.2 ⟨?_, h1⟩; intro z hz; have hxy := h 0 x y rfl rfl; rcases List.mem_cons.1 hz with rfl | hz
    · exact hxy
    · exact ht x y z (hp _ (by simp)) (hp _ (by simp)) (hp _ (by simp [hz])) hxy ((List.pairwise_cons.1 h1).1 z hz)
structure VInv (o : List Ver) : Prop where
  vb : ∀ v ∈ o, vb v = true
  ord : OrdB vbad o
theorem verOk_inv {l : List Ver} : verOk l = true ↔ VInv l ∧ l.length ≤ 60 := by
  unfold verOk; rw [Bool.and_eq_true, Bool.and_eq_true, adjB_iff, List.all_eq_true, decide_eq_true_eq]; constructor
  · rintro ⟨⟨h1, h2⟩, h3⟩
    refine ⟨⟨h1, adj_ordP (p := fun v => Go.Proofs.Ytdkpmckpcejceaa.vb v = true) (fun x y z hx hy hz h4 h5 => ?_) h1 h2⟩, by omega⟩; have n1 := vb_nums hx; have n2 := vb_nums hy; have n3 := vb_nums hz; rw [vbad_iff] at *; omega
  · rintro ⟨⟨h1, h2⟩, h3⟩
    exact ⟨⟨h1, h2.adj⟩, by omega⟩
def turnsB4 (o : List Ver) (w : Wr) (t : Int) : Prop := ∀ v ∈ o, v.Key = w.Key → v.Born < t ∧ v.Died ≤ t
theorem endV_bad {k t : Int} {x y : Ver} (h : vbad x y = false) : vbad (endV k t x) (endV k t y) = false := by
  obtain ⟨_, a1, a2⟩ := endV_row k t x; obtain ⟨_, b1, b2⟩ := endV_row k t y; rw [vbad_iff] at *; rw [a1, b1, b2]; rcases h with h | ⟨h1, h2, h3⟩
  · exact .inl h
  · refine .inr ⟨h1, ?_⟩
    have : endV k t x = x := by unfold endV; rw [if_neg (fun h => h2 h.2)]
    rw [this]; exact ⟨h2, h3⟩
theorem map_end_ord {k t : Int} {o : List Ver} (h : OrdB vbad o) : OrdB vbad (o.map (endV k t)) := by
  unfold OrdB at *; rw [List.pairwise_map]; exact h.imp fun h => endV_bad h
theorem insW_mem {w : Wr} {t : Int} {l : List Ver} {u : Ver} : u ∈ insW w t l ↔ (∃ v ∈ l, u = endV w.Key t v) ∨ u = newV w t := by
  rw [(insW_perm w t l).mem_iff, List.mem_append, List.mem_map, List.mem_singleton]; constructor
  · rintro (⟨v, h1, h2⟩ | h)
    · exact .inl ⟨v, h1, h2.symm⟩
    · exact .inr h
  · rintro (⟨v, h1, h2⟩ | h)
    · exact .inl ⟨v, h1, h2.symm⟩
    · exact .inr h
theorem insW_ord {w : Wr} {t : Int} (ht : 1 ≤ t) : ∀ {o : List Ver}, OrdB vbad o → turnsB4 o w t → OrdB vbad (insW w t o)
  | [], _, _ => List.pairwise_singleton _ _
  | v :: l, h, hb => by
    obtain ⟨h1, h2⟩ := List.pairwise_cons.1 h; have hm := map_end_ord (k := w.Key) (t := t) h; rw [insW]
    by_cases hk : v.Key > w.Key
    · rw [if_pos hk]
      refine List.pairwise_cons.2 ⟨?_, hm⟩; intro u hu; have hu' : u ∈ (v :: l).map (endV w.Key t) := hu; obtain ⟨x, hx, rfl⟩ := List.mem_map.1 hu'; rw [vbad_iff, (endV_row w.Key t x).2.1]; left; show w.Key < x.Key; rcases List.mem_cons.1 hx with rfl | hx
      · omega
      · have := vbad_iff.1 (h1 x hx); omega
    · rw [if_neg hk]
      refine List.pairwise_cons.2 ⟨?_, insW_ord ht h2 (fun u hu hk => hb u (by simp [hu]) hk)⟩; intro u hu; rcases insW_mem.1 hu with ⟨x, hx, rfl⟩ | rfl
      · exact endV_bad (h1 x hx)
      · rw [vbad_iff, (endV_row w.Key t v).2.1]
        rcases Int.lt_or_eq_of_le (show v.Key ≤ w.Key by omega) with h3 | h3
        · exact .inl h3
        · obtain ⟨b1, b2⟩ := hb v (by simp) h3
          refine .inr ⟨h3, ?_⟩; unfold endV newV
          by_cases hd : v.Died = 0
          · rw [if_pos ⟨h3, hd⟩]; exact ⟨show t ≠ 0 by omega, show t ≤ t by omega⟩
          · rw [if_neg (fun h => hd h.2)]; exact ⟨hd, b2⟩
theorem endV_vb {k t : Int} {v : Ver} (h : vb v = true) (hb : v.Key = k → v.Born < t ∧ v.Died ≤ t) (ht : 1 ≤ t ∧ t ≤ 40) : vb (endV k t v) = true := by
  unfold endV
  split
  · rename_i hc
    have hn := vb_nums h; have := hb hc.1; unfold vb keyB; simp only [Bool.and_eq_true, Bool.or_eq_true, decide_eq_true_eq]; exact ⟨⟨hn.1, hn.2.1⟩, ⟨hn.2.2.1, hn.2.2.2.1⟩, .inr ⟨by omega, ht.2⟩, hn.2.2.2.2.2⟩
  · exact h
theorem wb_nums {w : Wr} (h : wb w = true) : 0 ≤ w.Key ∧ w.Key ≤ 4 ∧ rowOk w.Row = true ∧ (w.Gone = true → w.Row = []) := by
  unfold wb keyB at h; simp only [Bool.and_eq_true, decide_eq_true_eq, Bool.not_eq_true', Bool.and_eq_false_iff, decide_eq_false_iff_not] at h; refine ⟨h.1.1, h.1.2, h.2.1, fun hg => ?_⟩; rcases h.2.2 with h3 | h3
  · rw [hg] at h3; cases h3
  · exact List.length_eq_zero_iff.1 (by omega)
theorem put1_inv {o : List Ver} {w : Wr} {t : Int} (h : VInv o) (hw : wb w = true) (ht : 1 ≤ t ∧ t ≤ 40) (hb : turnsB4 o w t) : VInv (put1 o w t) := by
  have hwn := wb_nums hw; constructor
  · intro u hu
    have hu := (put1_perm o w t).mem_iff.1 hu; unfold step1 at hu
    have key : ∀ u ∈ o.map (endV w.Key t), vb u = true := by
      intro u hu; obtain ⟨v, hv, rfl⟩ := List.mem_map.1 hu; exact endV_vb (h.vb v hv) (hb v hv) ht
    split at hu
    · exact key u hu
    · rcases List.mem_append.1 hu with hu | hu
      · exact key u hu
      · rw [List.mem_singleton.1 hu]
        unfold vb keyB newV; simp only [Bool.and_eq_true, Bool.or_eq_true, decide_eq_true_eq]; exact ⟨⟨hwn.1, hwn.2.1⟩, ht, .inl trivial, hwn.2.2.1⟩
  · unfold put1
    split
    · exact map_end_ord h.ord
    · exact insW_ord ht.1 h.ord hb
theorem put1_turns {o : List Ver} {w w' : Wr} {t : Int} (hk : w.Key ≠ w'.Key) (hb : turnsB4 o w' t) : turnsB4 (put1 o w t) w' t := by
  intro u hu hk'; have hu := (put1_perm o w t).mem_iff.1 hu; unfold step1 at hu
  have key : ∀ u ∈ o.map (endV w.Key t), u.Key = w'.Key → u.Born < t ∧ u.Died ≤ t := by
    intro u hu hk'; obtain ⟨v, hv, rfl⟩ := List.mem_map.1 hu; have hvk : v.Key = w'.Key := by rw [← hk', (endV_row _ _ _).2.1]
    have : endV w.Key t v = v := by unfold endV; rw [if_neg (fun h => hk (by rw [← hvk, h.1]))]
    rw [this]; exact hb v hv hvk
  split at hu
  · exact key u hu hk'
  · rcases List.mem_append.1 hu with hu | hu
    · exact key u hu hk'
    · rw [List.mem_singleton.1 hu] at hk'; exact absurd hk' hk
structure WInv (o : List Ver) (ws : List Wr) (t : Int) : Prop where
  inv : VInv o
  wb : ∀ w ∈ ws, wb w = true
  keys : ws.Pairwise fun x y => x.Key < y.Key
  time : 1 ≤ t ∧ t ≤ 40
  turns : ∀ w ∈ ws, turnsB4 o w t
theorem WInv.next {o : List Ver} {w : Wr} {ws : List Wr} {t : Int} (h : WInv o (w :: ws) t) : WInv (put1 o w t) ws t where
  inv := put1_inv h.inv (h.wb w (by simp)) h.time (h.turns w (by simp))
  wb := fun u hu => h.wb u (by simp [hu])
  keys := (List.pairwise_cons.1 h.keys).2
  time := h.time
  turns := fun u hu => put1_turns (by have := (List.pairwise_cons.1 h.keys).1 u hu; omega) (h.turns u (by simp [hu]))
theorem putAll_inv {t : Int} : ∀ {ws : List Wr} {o : List Ver}, WInv o ws t → VInv (putAll o ws t)
  | [], _, h => h.inv
  | w :: ws, o, h => putAll_inv (ws := ws) h.next
theorem wOk_inv {ws : List Wr} : wOk ws = true ↔ (∀ w ∈ ws, wb w = true) ∧ ws.Pairwise fun x y => x.Key < y.Key := by
  unfold wOk; rw [Bool.and_eq_true, adjB_iff, List.all_eq_true]
  have e : OrdB wbad ws ↔ ws.Pairwise fun x y => x.Key < y.Key := by
    unfold OrdB wbad; constructor
    · intro h; exact h.imp fun h => by rw [decide_eq_false_iff_not] at h; omega
    · intro h; exact h.imp fun h => by rw [decide_eq_false_iff_not]; omega
  constructor
  · rintro ⟨h1, h2⟩
    exact ⟨h1, e.1 (h2.ord fun x y z h3 h4 => by unfold wbad at *; rw [decide_eq_false_iff_not] at *; omega)⟩
  · rintro ⟨h1, h2⟩
    exact ⟨h1, (e.2 h2).adj⟩
theorem keys5_mem {k : Int} : k ∈ keys5 ↔ 0 ≤ k ∧ k ≤ 4 := by unfold keys5; simp; omega
theorem turnsB_iff {l : List Ver} {t : Int} (ht : 1 ≤ t) (hv : ∀ v ∈ l, vb v = true) : turnsB l t = true ↔ ∀ v ∈ l, v.Born < t ∧ v.Died < t := by
  unfold turnsB; rw [List.all_eq_true]; constructor
  · intro h v hm
    have hn := vb_nums (hv v hm); have := h v.Key (keys5_mem.2 ⟨hn.1, hn.2.1⟩); rw [decide_eq_true_eq] at this; have := (lastT_le (c := t - 1)).1 (show lastT l v.Key ≤ t - 1 by omega); have := this.2 v hm rfl; omega
  · intro h k _
    rw [decide_eq_true_eq]; have := (lastT_le (l := l) (key := k) (c := t - 1)).2 ⟨by omega, fun v hv _ => by have := h v hv; omega⟩; omega
theorem wrOk_inv {l : List Ver} {ws : List Wr} {t : Int} (h : wrOk l ws t = true) : WInv l ws t ∧ l.length ≤ 60 ∧ ∀ v ∈ l, v.Born < t ∧ v.Died < t := by
  unfold wrOk at h; simp only [Bool.and_eq_true, decide_eq_true_eq] at h; obtain ⟨h1, h2, h3, h4⟩ := h; obtain ⟨i1, i2⟩ := verOk_inv.1 h1; obtain ⟨w1, w2⟩ := wOk_inv.1 h2; have h5 := (turnsB_iff h3.1 i1.vb).1 h4; exact ⟨⟨i1, w1, w2, h3, fun w _ v hv _ => by have := h5 v hv; omega⟩, i2, h5⟩
theorem odd_0 (o : Rd) : m_Pspec_l20Rd_odd o 0 = some (false, o) := by
  unfold m_Pspec_l20Rd_odd m_Pspec_l20Rd_odd_j1; rw [show decide ((0 : Int) > 0) = false from rfl, cond_false]
theorem T_l20Small {o : Rd} (ho : 0 ≤ o.p ∧ o.p ≤ 1000000000) : Tot (m_spec_l20Small o) fun r => (rowOk r.1 = true ∧ rDr r.1) ∧ o.p ≤ r.2.p ∧ r.2.p ≤ o.p + 1 := by
  unfold m_spec_l20Small; refine Tot.bind (T_pick ho) fun x hx => Tot.ret ⟨⟨?_, by show [_].length ≤ 9; simp, fun v hv => ?_⟩, by show o.p ≤ x.2.p; omega, by show x.2.p ≤ o.p + 1; omega⟩
  · unfold rowOk vOk
    simp; omega
  · have hv : v ∈ [(⟨1, x.1, ⟨#[]⟩⟩ : V)] := hv
    rw [List.mem_singleton.1 hv]; exact ⟨Nat.zero_le _, by show -10000 ≤ x.1; omega, by show x.1 ≤ 10000; omega, by show (-10 : Int) ≤ 1; omega, by show (1 : Int) ≤ 10; omega⟩
theorem T_l20Any {o : Rd} {n : Int} (ho : 0 ≤ o.p ∧ o.p ≤ 1000000000 - 2000) (hn : -3000000 ≤ n ∧ n ≤ 3000000) : Tot (m_spec_l20Any o n) fun r => rDr r.1 ∧ o.p ≤ r.2.p ∧ r.2.p ≤ o.p + 100 := by
  unfold m_spec_l20Any; refine Tot.bind (T_l20Columns (by omega) (by omega)) fun c hc => Tot.bind (T_l20Fit (by omega) (by omega) (by omega)) fun r hr => Tot.ret ⟨hr.1, by show o.p ≤ r.2.p; omega, by show r.2.p ≤ o.p + 100; omega⟩
def wsDr (ws : List Wr) : Prop := ws.length ≤ 6 ∧ ∀ w ∈ ws, rDr w.Row
theorem T_l20Writes {o : Rd} {n : Int} (ho : 0 ≤ o.p ∧ o.p ≤ 1000000000 - 10000) (hn : -3000000 ≤ n ∧ n ≤ 3000000) : Tot (m_spec_l20Writes o n) fun r => (wsDr r.1 ∧ (n = 0 → wOk r.1 = true)) ∧ o.p ≤ r.2.p ∧ r.2.p ≤ o.p + 200 := by
  unfold m_spec_l20Writes; refine Tot.up 5 (fun f t (s : Rd × List Wr) => m_spec_l20Writes_l1 f n t s.1 s.2) (fun t s => o.p ≤ s.1.p ∧ s.1.p ≤ o.p + 3 * t ∧ (s.2.length : Int) ≤ t ∧ (∀ w ∈ s.2, wb w = true ∧ w.Key < t ∧ rDr w.Row) ∧ s.2.Pairwise fun x y => x.Key < y.Key) (fun f s h => ?_) (fun f t s h0 ht h ih => ?_) _ 0 (o, []) (by omega) (by omega) (by decide) ⟨by show o.p ≤ o.p; omega, by show o.p ≤ o.p + 3 * 0; omega, by simp, by simp, List.Pairwise.nil⟩
  · obtain ⟨g1, g2, g3, g4, g5⟩ := h
    rw [m_spec_l20Writes_l1, decide_eq_false (by omega), cond_false]; unfold m_spec_l20Writes_j3 m_spec_l20Writes_j4; have ws : wsDr s.2 := ⟨by omega, fun w hw => (g4 w hw).2.2⟩
    have add : ∀ w : Wr, rDr w.Row → wsDr (s.2 ++ [w]) := fun w hw => ⟨by simp; omega, fun u hu => by
      rcases List.mem_append.1 hu with hu | hu
      · exact (g4 u hu).2.2
      · rw [List.mem_singleton.1 hu]; exact hw⟩
    rcases Int.lt_or_eq_of_le (show s.1.p ≤ o.p + 15 by omega) with hp | hp <;>
    · by_cases hn0 : n = 0
      · subst hn0
        rw [odd_0, Option.bind_some, cond_false]; exact Tot.ret ⟨⟨ws, fun _ => wOk_inv.2 ⟨fun w hw => (g4 w hw).1, g5⟩⟩, by show o.p ≤ s.1.p; omega, by show s.1.p ≤ o.p + 200; omega⟩
      · refine Tot.bind (T_odd (by omega) (by omega)) fun q hq => Tot.bif (fun _ => ?_) (fun _ => Tot.ret ⟨⟨ws, fun h => absurd h hn0⟩, by show o.p ≤ q.2.p; omega, by show q.2.p ≤ o.p + 200; omega⟩)
        refine Tot.bind (T_pick (by omega)) fun x hx => Tot.bif (fun _ => ?_) (fun _ => Tot.bif (fun _ => ?_) (fun _ => ?_))
        · exact Tot.bind (T_pick (by omega)) fun y hy => Tot.ck (by omega) (by omega) (Tot.app (by simp; omega) (Tot.ret ⟨⟨add _ ⟨by show ([] : Row).length ≤ 9; simp, by intro v hv; cases hv⟩, fun h => absurd h hn0⟩, by show o.p ≤ y.2.p; omega, by show y.2.p ≤ o.p + 200; omega⟩))
        · exact Tot.bind (T_l20Small (by omega)) fun y hy => Tot.app (by simp; omega) (Tot.ret ⟨⟨add _ hy.1.2, fun h => absurd h hn0⟩, by show o.p ≤ y.2.p; omega, by show y.2.p ≤ o.p + 200; omega⟩)
        · exact Tot.bind (T_l20Any (by omega) (by omega)) fun y hy => Tot.app (by simp; omega) (Tot.ret ⟨⟨add _ hy.1, fun h => absurd h hn0⟩, by show o.p ≤ y.2.p; omega, by show y.2.p ≤ o.p + 200; omega⟩)
  · obtain ⟨g1, g2, g3, g4, g5⟩ := h
    rw [m_spec_l20Writes_l1, decide_eq_true ht, cond_true]
    have put : ∀ (r : Rd) (w : Wr), s.1.p ≤ r.p → r.p ≤ s.1.p + 3 → w.Key = t → wb w = true → rDr w.Row → Tot (m_spec_l20Writes_j1 (m_spec_l20Writes_l1 f) n t r w s.2) fun r => (wsDr r.1 ∧ (n = 0 → wOk r.1 = true)) ∧ o.p ≤ r.2.p ∧ r.2.p ≤ o.p + 200 := by
      intro r w h1 h2 h3 h4 h5; unfold m_spec_l20Writes_j1 m_spec_l20Writes_j2; refine Tot.app (by simp; omega) (Tot.ck (by omega) (by omega) (ih (r, s.2 ++ [w]) ⟨by show o.p ≤ r.p; omega, by show r.p ≤ o.p + 3 * (t + 1); omega, by simp; omega, fun u hu => ?_, ?_⟩))
      · rcases List.mem_append.1 hu with hu | hu
        · obtain ⟨a, b, c⟩ := g4 u hu; exact ⟨a, by omega, c⟩
        · rw [List.mem_singleton.1 hu]; exact ⟨h4, by omega, h5⟩
      · refine List.pairwise_append.2 ⟨g5, List.pairwise_singleton _ _, fun x hx y hy => ?_⟩
        rw [List.mem_singleton.1 hy]; have := (g4 x hx).2.1; omega
    refine Tot.bind (T_pick (by omega)) fun x hx => Tot.bif (fun _ => Tot.lt ?_) (fun _ => ?_)
    · refine Tot.bind (T_pick (by omega)) fun y hy => Tot.bif (fun _ => Tot.lt ?_) (fun _ => ?_)
      · refine put y.2 _ (by omega) (by omega) rfl ?_ ⟨by show ([] : Row).length ≤ 9; simp, by intro v hv; cases hv⟩
        unfold wb keyB; simp [rowOk]; omega
      · refine Tot.bind (T_l20Small (by omega)) fun z hz => Tot.lt ?_
        refine put z.2 _ (by omega) (by omega) rfl ?_ hz.1.2; unfold wb keyB; simp [hz.1.1]; omega
    · unfold m_spec_l20Writes_j2
      exact Tot.ck (by omega) (by omega) (ih (x.2, s.2) ⟨by show o.p ≤ x.2.p; omega, by show x.2.p ≤ o.p + 3 * (t + 1); omega, by show (s.2.length : Int) ≤ t + 1; omega, fun u hu => by obtain ⟨a, b, c⟩ := g4 u hu; exact ⟨a, by omega, c⟩, g5⟩)
theorem wsDr_sm {l : List Wr} (h : wsDr l) : l.length ≤ 6 ∧ ∀ v ∈ l, rSm v.Row := ⟨h.1, fun v hv => rDr_sm (h.2 v hv)⟩
theorem scanP {α R : Type} {P : Nat → α → Bool} {r0 e : Option R} (xs : List α) (L : Nat → Int → Option R) (hs : ∀ n (k : Nat) x, xs[k]? = some x → L (n + 1) (k : Int) = bif P k x then r0 else L n ((k : Int) + 1)) (he : ∀ n, L (n + 1) (xs.length : Int) = e) (n : Nat) (hn : xs.length < n) :
    ((∀ k x, xs[k]? = some x → P k x = false) → L n 0 = e) ∧ (¬(∀ k x, xs[k]? = some x → P k x = false) → L n 0 = r0) := by
  have key : ∀ (d k n : Nat), k + d = xs.length → d < n → ((∀ j x, k ≤ j → xs[j]? = some x → P j x = false) → L n (k : Int) = e) ∧ (¬(∀ j x, k ≤ j → xs[j]? = some x → P j x = false) → L n (k : Int) = r0) := by
    intro d
    induction d with
    | zero =>
      intro k n hk hn; obtain ⟨m, rfl⟩ : ∃ m, n = m + 1 := ⟨n - 1, by omega⟩; obtain rfl : k = xs.length := by omega
      refine ⟨fun _ => he m, fun h => absurd (fun j x hj hx => ?_) h⟩; rw [List.getElem?_eq_none hj] at hx; cases hx
    | succ d ih =>
      intro k n hk hn; obtain ⟨m, rfl⟩ : ∃ m, n = m + 1 := ⟨n - 1, by omega⟩; have hx : xs[k]? = some xs[k] := List.getElem?_eq_getElem (by omega); rw [hs m k _ hx]; cases hp : P k xs[k] with
      | true =>
        refine ⟨fun h => ?_, fun _ => rfl⟩; rw [h k _ (Nat.le_refl _) hx] at hp; cases hp
      | false =>
        obtain ⟨i1, i2⟩ := ih (k + 1) m (by omega) (by omega); rw [cond_false, show ((k : Int) + 1) = ((k + 1 : Nat) : Int) by omega]; refine ⟨fun h => i1 fun j x hj hjx => h j x (by omega) hjx, fun h => i2 fun h2 => h fun j x hj hjx => ?_⟩; rcases Nat.eq_or_lt_of_le hj with rfl | hj
        · rw [hx] at hjx; cases hjx; exact hp
        · exact h2 j x hj hjx
  obtain ⟨k1, k2⟩ := key xs.length 0 n (by omega) hn; exact ⟨fun h => k1 fun k x _ hx => h k x hx, fun h => k2 fun h2 => h fun k x hx => h2 k x (Nat.zero_le _) hx⟩
abbrev Txn := S_impl_Txn
abbrev Hs := S_impl_House
def ascBad (a b : Int) : Bool := decide (a ≥ b)
def ascB (l : List Int) : Bool := l.all keyB && adjB ascBad l
theorem E_rising {l : List Int} (hl : l.length ≤ 3000000) : m_impl_rising l 0 4 = some (ascB l) := by
  have main : m_impl_rising l 0 4 = some (l.all keyB && adjB ascBad l && true) := by
    unfold m_impl_rising
    have head : ∀ n (k : Nat) (x : Int) (c : Bool) (hc : (bif decide ((k : Int) > 0) then ((ckI ((k : Int) - 1)).bind fun x16 => (at? l x16).bind fun x17 => m_impl_rising_j1 (m_impl_rising_l1 n) l 0 4 l (l.length : Int) (k : Int) (decide (x17 ≥ x))) else (m_impl_rising_j1 (m_impl_rising_l1 n) l 0 4 l (l.length : Int) (k : Int) false)) = m_impl_rising_j1 (m_impl_rising_l1 n) l 0 4 l (l.length : Int) (k : Int) c), l[k]? = some x → m_impl_rising_l1 (n + 1) l 0 4 l (l.length : Int) (k : Int) = m_impl_rising_j1 (m_impl_rising_l1 n) l 0 4 l (l.length : Int) (k : Int) (!(keyB x) || c) := by
      intro n k x c hc hx; have hlt := lt_of_at hx; rw [m_impl_rising_l1, dlt hlt, cond_true, at_of hx, Option.bind_some, E_between, Option.bind_some]; show (bif !(keyB x) then _ else _) = _; cases keyB x with
      | false => rw [Bool.not_false, cond_true, Bool.true_or]
      | true => rw [Bool.not_true, cond_false, Bool.false_or]; exact hc
    refine scanPrev (p := keyB) (bad := ascBad) l (fun n k => m_impl_rising_l1 n l 0 4 l (l.length : Int) k) (fun n x hx => ?_) (fun n k x y hx hy hp => ?_) (fun n => ?_) _ fuel0
    · show m_impl_rising_l1 (n + 1) l 0 4 l (l.length : Int) ((0 : Nat) : Int) = _
      rw [head n 0 x false (by rw [dgt00, cond_false]) hx]; unfold m_impl_rising_j1; cases keyB x with
      | false => simp only [cond_true, cond_false, Bool.not_true, Bool.not_false, Bool.not_not, Bool.true_and, Bool.false_and, Bool.and_true, Bool.and_false, Bool.true_or, Bool.false_or, Bool.or_true, Bool.or_false]
      | true => simp only [cond_true, cond_false, Bool.not_true, Bool.not_false, Bool.not_not, Bool.true_and, Bool.false_and, Bool.and_true, Bool.and_false, Bool.true_or, Bool.false_or, Bool.or_true, Bool.or_false]; rw [ck1 (by omega), Option.bind_some, nat01]
    · have hlt := lt_of_at hx
      rw [head n (k + 1) x (ascBad y x) (by rw [dgt0, cond_true, ckdd (by omega), Option.bind_some, at_of hy, Option.bind_some, ascBad]) hx]; unfold m_impl_rising_j1; cases keyB x with
      | false => simp only [cond_true, cond_false, Bool.not_true, Bool.not_false, Bool.not_not, Bool.true_and, Bool.false_and, Bool.and_true, Bool.and_false, Bool.true_or, Bool.false_or, Bool.or_true, Bool.or_false]
      | true =>
        rw [Bool.not_true, Bool.false_or, Bool.true_and]; cases ascBad y x with
        | true => simp only [cond_true, cond_false, Bool.not_true, Bool.not_false, Bool.not_not, Bool.true_and, Bool.false_and, Bool.and_true, Bool.and_false, Bool.true_or, Bool.false_or, Bool.or_true, Bool.or_false]
        | false => rw [cond_false, ck1 (by omega), Option.bind_some, natS]; simp only [cond_true, cond_false, Bool.not_true, Bool.not_false, Bool.not_not, Bool.true_and, Bool.false_and, Bool.and_true, Bool.and_false, Bool.true_or, Bool.false_or, Bool.or_true, Bool.or_false]
    · rw [m_impl_rising_l1, dnlt, cond_false, m_impl_rising_j2]
  rw [main, Bool.and_true]; rfl
theorem E_l14Reads {l : List Int} (hl : l.length ≤ 3000000) : m_spec_l14Reads l = some (ascB l) := by
  have main : m_spec_l14Reads l = some (l.all keyB && adjB ascBad l && true) := by
    unfold m_spec_l14Reads
    have head : ∀ n (k : Nat) (x : Int) (c : Bool) (hc : (bif decide ((k : Int) > 0) then ((ckI ((k : Int) - 1)).bind fun x15 => (at? l x15).bind fun x16 => (at? l (k : Int)).bind fun x17 => m_spec_l14Reads_j1 (m_spec_l14Reads_l1 n) l (k : Int) (decide (x16 ≥ x17))) else (m_spec_l14Reads_j1 (m_spec_l14Reads_l1 n) l (k : Int) false)) = m_spec_l14Reads_j1 (m_spec_l14Reads_l1 n) l (k : Int) c), l[k]? = some x → m_spec_l14Reads_l1 (n + 1) l (k : Int) = m_spec_l14Reads_j1 (m_spec_l14Reads_l1 n) l (k : Int) (!(keyB x) || c) := by
      intro n k x c hc hx; have hlt := lt_of_at hx; rw [m_spec_l14Reads_l1, dlt hlt, cond_true, at_of hx, Option.bind_some, E_l1In, Option.bind_some]; rw [at_of hx] at hc; show (bif !(keyB x) then _ else _) = _; cases keyB x with
      | false => rw [Bool.not_false, cond_true, Bool.true_or]
      | true => rw [Bool.not_true, cond_false, Bool.false_or]; exact hc
    refine scanPrev (p := keyB) (bad := ascBad) l (fun n k => m_spec_l14Reads_l1 n l k) (fun n x hx => ?_) (fun n k x y hx hy hp => ?_) (fun n => ?_) _ fuel0
    · show m_spec_l14Reads_l1 (n + 1) l ((0 : Nat) : Int) = _
      rw [head n 0 x false (by rw [dgt00, cond_false]) hx]; unfold m_spec_l14Reads_j1; cases keyB x with
      | false => simp only [cond_true, cond_false, Bool.not_true, Bool.not_false, Bool.not_not, Bool.true_and, Bool.false_and, Bool.and_true, Bool.and_false, Bool.true_or, Bool.false_or, Bool.or_true, Bool.or_false]
      | true => simp only [cond_true, cond_false, Bool.not_true, Bool.not_false, Bool.not_not, Bool.true_and, Bool.false_and, Bool.and_true, Bool.and_false, Bool.true_or, Bool.false_or, Bool.or_true, Bool.or_false]; rw [ck1 (by omega), Option.bind_some, nat01]
    · have hlt := lt_of_at hx
      rw [head n (k + 1) x (ascBad y x) (by rw [dgt0, cond_true, ckdd (by omega), Option.bind_some, at_of hy, Option.bind_some, at_of hx, Option.bind_some, ascBad]) hx]; unfold m_spec_l14Reads_j1; cases keyB x with
      | false => simp only [cond_true, cond_false, Bool.not_true, Bool.not_false, Bool.not_not, Bool.true_and, Bool.false_and, Bool.and_true, Bool.and_false, Bool.true_or, Bool.false_or, Bool.or_true, Bool.or_false]
      | true =>
        rw [Bool.not_true, Bool.false_or, Bool.true_and]; cases ascBad y x with
        | true => simp only [cond_true, cond_false, Bool.not_true, Bool.not_false, Bool.not_not, Bool.true_and, Bool.false_and, Bool.and_true, Bool.and_false, Bool.true_or, Bool.false_or, Bool.or_true, Bool.or_false]
        | false => rw [cond_false, ck1 (by omega), Option.bind_some, natS]; simp only [cond_true, cond_false, Bool.not_true, Bool.not_false, Bool.not_not, Bool.true_and, Bool.false_and, Bool.and_true, Bool.and_false, Bool.true_or, Bool.false_or, Bool.or_true, Bool.or_false]
    · rw [m_spec_l14Reads_l1, dnlt, cond_false, m_spec_l14Reads_j2]
  rw [main, Bool.and_true]; rfl
structure TSm (t : Txn) : Prop where
  rd : t.Reads.length ≤ 3000000
  wr : t.Writes.length ≤ 3000000
  rows : ∀ w ∈ t.Writes, rSm w.Row
def txR (t : Txn) (c : Int) : Bool := (decide (0 ≤ t.Begin) && decide (t.Begin ≤ c)) && (ascB t.Reads && wOk t.Writes)
def txB (t : Txn) (c : Int) : Bool :=
  if t.State = 0 then decide (t.Begin = 0) && (decide (t.End = 0) && (decide ((t.Reads.length : Int) = 0) && decide ((t.Writes.length : Int) = 0)))
  else if t.State = 2 then (decide (t.Begin + 1 ≤ t.End) && decide (t.End ≤ c)) && txR t c
  else if t.State = 1 ∨ t.State = 3 then decide (t.End = 0) && txR t c else false
theorem eqDD (a b : Int) : (a == b) = decide (a = b) := rfl
theorem E_Txn_j3 {t : Txn} {c : Int} (h : TSm t) : m_impl_Txn_ok_j3 c t = some (txR t c) := by
  unfold m_impl_Txn_ok_j3 txR; rw [E_between, Option.bind_some]; cases (decide (0 ≤ t.Begin) && decide (t.Begin ≤ c)) with
  | false => rfl
  | true =>
    rw [cond_true, E_rising h.rd, Option.bind_some]; cases ascB t.Reads with
    | false => rfl
    | true =>
      rw [cond_true, E_impl_WritesOk h.wr h.rows, Option.bind_some]; cases wOk t.Writes <;> rfl
theorem E_Txn_ok {t : Txn} {c : Int} (hc : 0 ≤ c ∧ c ≤ 40) (h : TSm t) : m_impl_Txn_ok t c = some (txB t c) := by
  unfold m_impl_Txn_ok txB
  by_cases s0 : t.State = 0
  · rw [if_pos s0, show (t.State == 0) = true by simp [s0], cond_true]
    simp only [eqDD]; unfold m_impl_Txn_ok_j1; cases decide (t.Begin = 0) <;> cases decide (t.End = 0) <;> cases decide ((t.Reads.length : Int) = 0) <;> rfl
  · rw [if_neg s0, beqF s0, cond_false]
    by_cases s2 : t.State = 2
    · rw [if_pos s2, show (t.State == 2) = true by simp [s2], cond_true, E_between, Option.bind_some, E_Txn_j3 h]
      by_cases hb : 0 ≤ t.Begin ∧ t.Begin ≤ c
      · rw [wrI_of (by omega) (by omega)]
        cases (decide (t.Begin + 1 ≤ t.End) && decide (t.End ≤ c)) with
        | false => rfl
        | true => rw [Bool.not_true, cond_false, Bool.true_and]
      · have hf : txR t c = false := by
          unfold txR
          have : (decide (0 ≤ t.Begin) && decide (t.Begin ≤ c)) = false := by
            rw [Bool.and_eq_false_iff]
            by_cases h0 : 0 ≤ t.Begin
            · exact .inr (decide_eq_false (by omega))
            · exact .inl (decide_eq_false h0)
          rw [this]; rfl
        rw [hf, Bool.and_false]; cases (decide (wrI (t.Begin + 1) ≤ t.End) && decide (t.End ≤ c)) <;> rfl
    · rw [if_neg s2, beqF s2, cond_false]
      by_cases s1 : t.State = 1
      · rw [if_pos (.inl s1), show (t.State == 1) = true by simp [s1], cond_true]
        unfold m_impl_Txn_ok_j2; rw [cond_true, E_Txn_j3 h]
        by_cases he : t.End = 0
        · rw [neF he, cond_false, decide_eq_true he, Bool.true_and]
        · rw [show (t.End != 0) = true by simp [he], cond_true, decide_eq_false he, Bool.false_and]
      · rw [beqF s1, cond_false]
        unfold m_impl_Txn_ok_j2
        by_cases s3 : t.State = 3
        · rw [if_pos (.inr s3), show (t.State == 3) = true by simp [s3], cond_true, E_Txn_j3 h]
          by_cases he : t.End = 0
          · rw [neF he, cond_false, decide_eq_true he, Bool.true_and]
          · rw [show (t.End != 0) = true by simp [he], cond_true, decide_eq_false he, Bool.false_and]
        · rw [if_neg (by simp [s1, s3]), beqF s3, cond_false]
theorem E_l14_j3 {t : Txn} {c s : Int} (hc : 0 ≤ c ∧ c ≤ 40) (h : TSm t) (b : Bool) : m_spec_l14Txn_j3 c t s b = some (bif b then decide (t.End = 0) && txR t c else bif (s == 2) then (decide (t.Begin + 1 ≤ t.End) && decide (t.End ≤ c)) && txR t c else false) := by
  unfold m_spec_l14Txn_j3 txR; simp only [eqDD]; cases b with
  | true =>
    rw [cond_true, cond_true, E_l1In, Option.bind_some]; cases (decide (0 ≤ t.Begin) && decide (t.Begin ≤ c)) with
    | false => rw [Bool.false_and, Bool.and_false]; rfl
    | true =>
      rw [cond_true, Bool.true_and]; cases decide (t.End = 0) with
      | false => rfl
      | true =>
        rw [cond_true, Bool.true_and, E_l14Reads h.rd, Option.bind_some]; cases ascB t.Reads with
        | false => rfl
        | true =>
          rw [cond_true, E_spec_WritesOk h.wr h.rows, Option.bind_some]; cases wOk t.Writes <;> rfl
  | false =>
    rw [cond_false, cond_false]; cases decide (s = 2) with
    | false => rfl
    | true =>
      rw [cond_true, cond_true, E_l1In, Option.bind_some]
      by_cases hb : (decide (0 ≤ t.Begin) && decide (t.Begin ≤ c)) = true
      · have hb' := hb
        rw [Bool.and_eq_true, decide_eq_true_eq, decide_eq_true_eq] at hb'; rw [hb, cond_true, Bool.true_and, ckI_of (by omega) (by omega), Option.bind_some, E_l1In, Option.bind_some]; cases (decide (t.Begin + 1 ≤ t.End) && decide (t.End ≤ c)) with
        | false => rfl
        | true =>
          rw [cond_true, Bool.true_and, E_l14Reads h.rd, Option.bind_some]; cases ascB t.Reads with
          | false => rfl
          | true =>
            rw [cond_true, E_spec_WritesOk h.wr h.rows, Option.bind_some]; cases wOk t.Writes <;> rfl
      · rw [Bool.not_eq_true] at hb
        rw [hb, Bool.false_and, Bool.and_false]; rfl
theorem E_l14Txn {t : Txn} {c : Int} (hc : 0 ≤ c ∧ c ≤ 40) (h : TSm t) : m_spec_l14Txn t c = some (txB t c) := by
  have hj : ∀ b, m_spec_l14Txn_j1 c t b = some (if t.State = 0 then b && decide (t.End = 0) else txB t c) := by
    intro b; unfold m_spec_l14Txn_j1
    by_cases s0 : t.State = 0
    · rw [if_pos s0, show (t.State == 0) = true by simp [s0], cond_true, eqDD]
      unfold m_spec_l14Txn_j2; cases b <;> rfl
    · rw [if_neg s0, beqF s0, cond_false]
      unfold txB; rw [if_neg s0, E_l14_j3 hc h, E_l14_j3 hc h]
      by_cases s2 : t.State = 2
      · rw [if_pos s2, s2]; rfl
      · rw [if_neg s2, beqF s2]
        by_cases s1 : t.State = 1
        · rw [if_pos (.inl s1), s1]; rfl
        · rw [beqF s1]
          by_cases s3 : t.State = 3
          · rw [if_pos (.inr s3), s3]; rfl
          · rw [if_neg (by simp [s1, s3]), beqF s3]; rfl
  unfold m_spec_l14Txn; simp only [hj]
  by_cases s0 : t.State = 0
  · simp only [if_pos s0, eqDD]
    unfold txB; rw [if_pos s0]; cases decide (t.Begin = 0) <;> cases decide (t.End = 0) <;> cases decide ((t.Reads.length : Int) = 0) <;> cases decide ((t.Writes.length : Int) = 0) <;> rfl
  · simp only [if_neg s0]
    cases ((t.Reads.length : Int) == 0) <;> cases ((t.Writes.length : Int) == 0) <;> rfl
structure HSm (h : Hs) : Prop where
  len : h.f_List.length ≤ 3000000
  rows : ∀ v ∈ h.f_List, rSm v.Row
  tl : h.Txns.length ≤ 3000000
  tx : ∀ t ∈ h.Txns, TSm t
def dnT (t : Txn) : Bool := t.State == 2
def badT (h : Hs) (k : Nat) (x : Txn) : Bool := !(txB x h.Clock) || (dnT x && (h.Txns.take k).any fun y => dnT y && decide (x.End = y.End))
structure HOk (h : Hs) : Prop where
  ver : verOk h.f_List = true
  clk : 0 ≤ h.Clock ∧ h.Clock ≤ 40
  turn : turnA h.f_List ≤ h.Clock
  four : h.Txns.length = 4
  txs : ∀ k x, h.Txns[k]? = some x → badT h k x = false
def mets (l : List Txn) : List Int := l.foldl (fun m t => bif dnT t then mapAdd m t.End else m) []
theorem mapAdd_mem {m : List Int} {x y : Int} : y ∈ mapAdd m x ↔ y ∈ m ∨ y = x := by
  unfold mapAdd; cases h : m.contains x with
  | true =>
    have : x ∈ m := by simpa using h
    rw [cond_true]; constructor
    · exact .inl
    · rintro (h | rfl)
      · exact h
      · exact this
  | false => simp
theorem mets_mem : ∀ (l : List Txn) (m : List Int) (e : Int), e ∈ l.foldl (fun m t => bif dnT t then mapAdd m t.End else m) m ↔ e ∈ m ∨ ∃ t ∈ l, dnT t = true ∧ t.End = e
  | [], m, e => by simp
  | t :: l, m, e => by
    rw [List.foldl_cons, mets_mem l]; cases h : dnT t with
    | true =>
      rw [cond_true, mapAdd_mem]; constructor
      · rintro ((h1 | rfl) | ⟨u, hu, h2⟩)
        · exact .inl h1
        · exact .inr ⟨t, by simp, h, rfl⟩
        · exact .inr ⟨u, by simp [hu], h2⟩
      · rintro (h1 | ⟨u, hu, h2, h3⟩)
        · exact .inl (.inl h1)
        · rcases List.mem_cons.1 hu with rfl | hu
          · exact .inl (.inr h3.symm)
          · exact .inr ⟨u, hu, h2, h3⟩
    | false =>
      rw [cond_false]; constructor
      · rintro (h1 | ⟨u, hu, h2⟩)
        · exact .inl h1
        · exact .inr ⟨u, by simp [hu], h2⟩
      · rintro (h1 | ⟨u, hu, h2, h3⟩)
        · exact .inl h1
        · rcases List.mem_cons.1 hu with rfl | hu
          · rw [h] at h2; cases h2
          · exact .inr ⟨u, hu, h2, h3⟩
theorem mets_any (l : List Txn) (e : Int) : (mets l).contains e = l.any fun y => dnT y && decide (e = y.End) := by
  rw [Bool.eq_iff_iff, List.contains_iff_mem]; unfold mets; rw [mets_mem, List.any_eq_true]; constructor
  · rintro (h | ⟨t, ht, h1, h2⟩)
    · cases h
    · exact ⟨t, ht, by rw [h1, decide_eq_true h2.symm]; rfl⟩
  · rintro ⟨t, ht, h⟩
    rw [Bool.and_eq_true, decide_eq_true_eq] at h; exact .inr ⟨t, ht, h.1, h.2.symm⟩
theorem mets_succ {l : List Txn} {k : Nat} {x : Txn} (hx : l[k]? = some x) : mets (l.take (k + 1)) = bif dnT x then mapAdd (mets (l.take k)) x.End else mets (l.take k) := by
  unfold mets; rw [List.take_add_one, hx, List.foldl_append]; rfl
theorem E_impl_HouseOk {h : Hs} (hs : HSm h) : ∃ b, m_impl_HouseOk h = some b ∧ (b = true ↔ HOk h) := by
  unfold m_impl_HouseOk; rw [E_impl_VersionsOk hs.len hs.rows, Option.bind_some]; have no : ∀ {p : Prop}, ¬ p → ∃ b, m_impl_HouseOk_j1 h true = some b ∧ (b = true ↔ p) := fun hp => ⟨false, rfl, fun h => (by cases h), fun h => absurd h hp⟩; cases hv : verOk h.f_List with
  | false => exact no fun H => by have := H.ver; rw [hv] at this; cases this
  | true =>
    rw [Bool.not_true, cond_false, E_between, Option.bind_some]
    by_cases hc : 0 ≤ h.Clock ∧ h.Clock ≤ 40
    case neg =>
      rw [show (decide (0 ≤ h.Clock) && decide (h.Clock ≤ 40)) = false by
        rw [Bool.and_eq_false_iff]
        by_cases h0 : 0 ≤ h.Clock
        · exact .inr (decide_eq_false (by omega))
        · exact .inl (decide_eq_false h0)]
      exact no fun H => hc H.clk
    rw [decide_eq_true hc.1, decide_eq_true hc.2, Bool.true_and, Bool.not_true, cond_false, E_turnAny hs.len, Option.bind_some]
    by_cases ht : turnA h.f_List > h.Clock
    · rw [decide_eq_true ht, cond_true]
      exact no fun H => by have := H.turn; omega
    rw [decide_eq_false ht, cond_false]
    by_cases h4 : (h.Txns.length : Int) = 4
    case neg =>
      rw [show ((h.Txns.length : Int) != 4) = true by simp [h4]]; exact no fun H => h4 (by have := H.four; omega)
    rw [neF h4]; unfold m_impl_HouseOk_j1; rw [cond_false]
    obtain ⟨s1, s2⟩ := scanP (P := badT h) (r0 := some false) (e := some true) h.Txns (fun n k => m_impl_HouseOk_l1 n h (mets (h.Txns.take k.toNat)) h.Txns (h.Txns.length : Int) k) (fun n k x hx => by
      have hlt := lt_of_at hx; have hT := E_Txn_ok hc (hs.tx x (List.mem_of_getElem? hx)); have e2 : ((k : Int) + 1).toNat = k + 1 := by omega
      simp only [Int.toNat_natCast, e2]; rw [m_impl_HouseOk_l1, dlt hlt, cond_true, at_of hx, Option.bind_some, ltE, hT, Option.bind_some]; unfold badT; cases hb : txB x h.Clock with
      | false => rw [Bool.not_false, cond_true, Bool.true_or, cond_true]; rfl
      | true =>
        rw [Bool.not_true, cond_false, Bool.false_or, mets_succ hx, mets_any]
        have j3 : ∀ m, m_impl_HouseOk_j3 (m_impl_HouseOk_l1 n) h m h.Txns (h.Txns.length : Int) (k : Int) = m_impl_HouseOk_l1 n h m h.Txns (h.Txns.length : Int) ((k : Int) + 1) := fun m => by
          unfold m_impl_HouseOk_j3; rw [ck1 (by omega), Option.bind_some]
        have j2 : ∀ m b, m_impl_HouseOk_j2 (m_impl_HouseOk_l1 n) h m h.Txns (h.Txns.length : Int) (k : Int) b x = bif b then some false else m_impl_HouseOk_l1 n h (bif dnT x then mapAdd m x.End else m) h.Txns (h.Txns.length : Int) ((k : Int) + 1) := fun m b => by
          unfold m_impl_HouseOk_j2; rw [j3, j3]; cases b with
          | true => rfl
          | false =>
            rw [cond_false, cond_false]; show (bif dnT x then _ else _) = _; cases dnT x <;> rfl
        rw [j2, j2]; show (bif dnT x then _ else _) = _; cases hd : dnT x with
        | false => rw [cond_false, cond_false, Bool.false_and, cond_false, cond_false]
        | true => rw [cond_true, cond_true, Bool.true_and]) (fun n => by rw [m_impl_HouseOk_l1, dnlt, cond_false]; rfl) (((h.Txns.length : Int) - (0 : Int)).toNat + 1) (by omega)
    simp only [Int.toNat_zero, List.take_zero] at s1 s2
    by_cases hk : ∀ k x, h.Txns[k]? = some x → badT h k x = false
    · exact ⟨true, s1 hk, fun _ => ⟨hv, hc, by omega, by omega, hk⟩, fun _ => rfl⟩
    · exact ⟨false, s2 hk, fun h => (by cases h), fun H => absurd H.txs hk⟩
theorem turn_keys {l : List Ver} {c : Int} (hc : 0 ≤ c) : turnA l ≤ c ↔ ∀ (k : Nat) (x : Int), keys5[k]? = some x → decide (lastT l x > c) = false := by
  rw [turnA_le]; constructor
  · intro h k x hx
    exact decide_eq_false (by have := h.2 x (List.mem_of_getElem? hx); omega)
  · intro h
    refine ⟨hc, fun k hk => ?_⟩; obtain ⟨j, hj⟩ := List.getElem?_of_mem hk; have := h j k hj; rw [decide_eq_false_iff_not] at this; omega
theorem E_spec_txns {h : Hs} (hs : HSm h) (hc : 0 ≤ h.Clock ∧ h.Clock ≤ 40) (h4 : (h.Txns.length : Int) = 4) : ((∀ k x, h.Txns[k]? = some x → badT h k x = false) → m_spec_HouseOk_j2 h = some true) ∧ (¬(∀ k x, h.Txns[k]? = some x → badT h k x = false) → m_spec_HouseOk_j2 h = some false) := by
  unfold m_spec_HouseOk_j2
  exact scanP (P := badT h) (r0 := some false) (e := some true) h.Txns (fun n k => m_spec_HouseOk_l2 n h k) (fun n k x hx => by
    have hlt := lt_of_at hx; rw [m_spec_HouseOk_l2, decide_eq_true (by omega), cond_true, at_of hx, Option.bind_some, E_l14Txn hc (hs.tx x (List.mem_of_getElem? hx)), Option.bind_some]; unfold badT; cases hb : txB x h.Clock with
    | false => simp only [cond_true, cond_false, Bool.not_true, Bool.not_false, Bool.not_not, Bool.true_and, Bool.false_and, Bool.and_true, Bool.and_false, Bool.true_or, Bool.false_or, Bool.or_true, Bool.or_false]
    | true =>
      rw [Bool.not_true, cond_false, Bool.false_or]; have hlen : (h.Txns.take k).length = k := by rw [List.length_take]; omega
      obtain ⟨s1, s2⟩ := scanP (P := fun _ y => dnT x && (dnT y && decide (x.End = y.End))) (r0 := some false) (e := m_spec_HouseOk_l2 n h ((k : Int) + 1)) (h.Txns.take k) (fun m j => m_spec_HouseOk_l3 (m_spec_HouseOk_l2 n) m h (k : Int) j) (fun m j y hy => by
        have hj : j < k := by have := lt_of_at hy; omega
        have hy' : h.Txns[j]? = some y := by rw [List.getElem?_take, if_pos hj] at hy; exact hy
        rw [m_spec_HouseOk_l3, dlt hj, cond_true, at_of hx, Option.bind_some, at_of hy', Option.bind_some, Option.bind_some, Option.bind_some, eqDD x.End]; show (bif dnT x then (bif dnT y then _ else _) else _) = _; unfold m_spec_HouseOk_j3; rw [ck1 (by omega), Option.bind_some]; cases dnT x <;> cases dnT y <;> cases decide (x.End = y.End) <;> rfl) (fun m => by
        rw [hlen, m_spec_HouseOk_l3, dnlt, cond_false, m_spec_HouseOk_j4, ck1 (by omega), Option.bind_some]) (((k : Int) - 0).toNat + 1) (by omega)
      by_cases hall : ∀ (j : Nat) (y : Txn), (h.Txns.take k)[j]? = some y → (dnT x && (dnT y && decide (x.End = y.End))) = false
      · rw [s1 hall]
        have : (dnT x && (h.Txns.take k).any fun y => dnT y && decide (x.End = y.End)) = false := by
          cases hd : dnT x with
          | false => rfl
          | true =>
            rw [Bool.true_and, List.any_eq_false]; intro y hy; obtain ⟨j, hj⟩ := List.getElem?_of_mem hy; have := hall j y hj; rw [hd, Bool.true_and] at this; rw [this]; decide
        rw [this, cond_false]
      · rw [s2 hall]
        have : (dnT x && (h.Txns.take k).any fun y => dnT y && decide (x.End = y.End)) = true := by
          cases hA : (dnT x && (h.Txns.take k).any fun y => dnT y && decide (x.End = y.End)) with
          | true => rfl
          | false =>
            exfalso
            apply hall
            intro j y hy; cases hd : dnT x with
            | false => rfl
            | true =>
              rw [hd, Bool.true_and, List.any_eq_false] at hA; have := hA y (List.mem_of_getElem? hy); rw [Bool.not_eq_true] at this; rw [this]; rfl
        rw [this, cond_true]) (fun n => by rw [show (h.Txns.length : Int) = 4 from h4, m_spec_HouseOk_l2, show decide ((4 : Int) < 4) = false from rfl, cond_false]; rfl) (((4 : Int) - (0 : Int)).toNat + 1) (by rw [show h.Txns.length = 4 by omega]; decide)
theorem E_spec_HouseOk {h : Hs} (hs : HSm h) : ∃ b, m_spec_HouseOk h = some b ∧ (b = true ↔ HOk h) := by
  unfold m_spec_HouseOk; rw [E_spec_VersionsOk hs.len hs.rows, Option.bind_some]; have no : ∀ {p : Prop}, ¬ p → ∃ b, m_spec_HouseOk_j1 h true = some b ∧ (b = true ↔ p) := fun hp => ⟨false, rfl, fun h => (by cases h), fun h => absurd h hp⟩; cases hv : verOk h.f_List with
  | false => exact no fun H => by have := H.ver; rw [hv] at this; cases this
  | true =>
    rw [Bool.not_true, cond_false, E_l1In, Option.bind_some]
    by_cases hc : 0 ≤ h.Clock ∧ h.Clock ≤ 40
    case neg =>
      rw [show (decide (0 ≤ h.Clock) && decide (h.Clock ≤ 40)) = false by
        rw [Bool.and_eq_false_iff]
        by_cases h0 : 0 ≤ h.Clock
        · exact .inr (decide_eq_false (by omega))
        · exact .inl (decide_eq_false h0)]
      exact no fun H => hc H.clk
    rw [decide_eq_true hc.1, decide_eq_true hc.2, Bool.true_and, Bool.not_true, cond_false]
    by_cases h4 : (h.Txns.length : Int) = 4
    case neg =>
      rw [show ((h.Txns.length : Int) != 4) = true by simp [h4]]; exact no fun H => h4 (by have := H.four; omega)
    rw [neF h4]; unfold m_spec_HouseOk_j1; rw [cond_false]
    obtain ⟨s1, s2⟩ := scanP (P := fun _ x => decide (lastT h.f_List x > h.Clock)) (r0 := some false) (e := m_spec_HouseOk_j2 h) keys5 (fun n k => m_spec_HouseOk_l1 n h k) (fun n k x hx => by
      obtain ⟨rfl, hk⟩ := keys5_at hx; rw [m_spec_HouseOk_l1, decide_eq_true (by omega), cond_true, E_spec_LastTurn hs.len hs.rows, Option.bind_some, if_pos hv, ck1 (by omega), Option.bind_some]) (fun n => by
      rw [show (keys5.length : Int) = 5 from rfl, m_spec_HouseOk_l1, show decide ((5 : Int) < 5) = false from rfl, cond_false]) (((5 : Int) - (0 : Int)).toNat + 1) (by decide)
    obtain ⟨t1, t2⟩ := E_spec_txns hs hc h4
    by_cases ht : turnA h.f_List ≤ h.Clock
    · rw [s1 ((turn_keys hc.1).1 ht)]
      by_cases hk : ∀ k x, h.Txns[k]? = some x → badT h k x = false
      · exact ⟨true, t1 hk, fun _ => ⟨hv, hc, ht, by omega, hk⟩, fun _ => rfl⟩
      · exact ⟨false, t2 hk, fun h => (by cases h), fun H => absurd H.txs hk⟩
    · rw [s2 fun h => ht ((turn_keys hc.1).2 h)]
      exact ⟨false, rfl, fun h => (by cases h), fun H => absurd H.turn ht⟩
theorem own_find {t : Txn} (h : t.Writes.length ≤ 3000000) (key : Int) : m_spec_l14Own t key = some (idxI (fun w : Wr => w.Key == key) t.Writes) := by
  unfold m_spec_l14Own
  exact scanI (q := fun w : Wr => w.Key == key) (g := fun i => some i) t.Writes (fun n k => m_spec_l14Own_l1 n key t k) (fun n k x hx => by
    have hlt := lt_of_at hx; rw [m_spec_l14Own_l1, dlt hlt, cond_true, at_of hx, Option.bind_some, ck1 (by omega), Option.bind_some]) (fun n => by rw [m_spec_l14Own_l1, dnlt, cond_false]; rfl) _ fuel0
abbrev Mv := S_impl_Move
theorem vOk_six {v : V} (h : vOk v = true) : v.S.size ≤ 6 := by
  have z : ByteArray.size ⟨#[]⟩ = 0 := rfl; unfold vOk at h
  split at h
  · rw [of_decide_eq_true h]; decide
  split at h
  · rw [Bool.and_eq_true, decide_eq_true_eq] at h; rw [h.1, z]; omega
  split at h
  · rw [Bool.and_eq_true, Bool.and_eq_true, decide_eq_true_eq, decide_eq_true_eq] at h; exact h.1.2
  split at h
  · rw [Bool.and_eq_true, decide_eq_true_eq] at h; rw [h.1, z]; omega
  · cases h
theorem rowOk_rSm {r : Row} (h : rowOk r = true) : rSm r := by
  unfold rowOk at h; rw [Bool.and_eq_true, decide_eq_true_eq, List.all_eq_true] at h; exact ⟨by omega, fun v hv => by have := vOk_six (h.2 v hv); unfold vSm; omega⟩
theorem ascB_inv {l : List Int} : ascB l = true ↔ (∀ x ∈ l, keyB x = true) ∧ l.Pairwise fun x y => x < y := by
  unfold ascB; rw [Bool.and_eq_true, adjB_iff, List.all_eq_true]
  have e : OrdB ascBad l ↔ l.Pairwise fun x y => x < y := by
    unfold OrdB ascBad; constructor
    · intro h; exact h.imp fun h => by rw [decide_eq_false_iff_not] at h; omega
    · intro h; exact h.imp fun h => by rw [decide_eq_false_iff_not]; omega
  constructor
  · rintro ⟨h1, h2⟩
    exact ⟨h1, e.1 (h2.ord fun x y z h3 h4 => by unfold ascBad at *; rw [decide_eq_false_iff_not] at *; omega)⟩
  · rintro ⟨h1, h2⟩
    exact ⟨h1, (e.2 h2).adj⟩
theorem keyB_nums {n : Int} (h : keyB n = true) : 0 ≤ n ∧ n ≤ 4 := by
  unfold keyB at h; rw [Bool.and_eq_true, decide_eq_true_eq, decide_eq_true_eq] at h; exact h
theorem asc_len : ∀ {l : List Int} {a : Int}, (∀ x ∈ l, a ≤ x ∧ x ≤ 4) → l.Pairwise (fun x y => x < y) → a ≤ 5 → (l.length : Int) ≤ 5 - a
  | [], a, _, _, ha => by simp; omega
  | x :: l, a, h1, h2, ha => by
    obtain ⟨h3, h4⟩ := List.pairwise_cons.1 h2; have hx := h1 x (by simp); have := asc_len (l := l) (a := x + 1) (fun y hy => ⟨by have := h3 y hy; omega, (h1 y (by simp [hy])).2⟩) h4 (by omega); rw [List.length_cons]; omega
theorem txB_wk {t : Txn} {c : Int} (h : txB t c = true) : ascB t.Reads = true ∧ wOk t.Writes = true := by
  have r : txR t c = true → ascB t.Reads = true ∧ wOk t.Writes = true := fun h => by
    unfold txR at h; rw [Bool.and_eq_true, Bool.and_eq_true (ascB t.Reads)] at h; exact h.2
  unfold txB at h
  split at h
  · simp only [Bool.and_eq_true, decide_eq_true_eq] at h
    have e1 : t.Reads = [] := List.length_eq_zero_iff.1 (by omega); have e2 : t.Writes = [] := List.length_eq_zero_iff.1 (by omega); rw [e1, e2]; exact ⟨rfl, rfl⟩
  split at h
  · rw [Bool.and_eq_true] at h; exact r h.2
  split at h
  · rw [Bool.and_eq_true] at h; exact r h.2
  · cases h
theorem txB_sm {t : Txn} {c : Int} (h : txB t c = true) : TSm t := by
  obtain ⟨h1, h2⟩ := txB_wk h; obtain ⟨a1, a2⟩ := ascB_inv.1 h1; have := asc_len (a := 0) (fun x hx => keyB_nums (a1 x hx)) a2 (by decide); have w := adj_len h2; obtain ⟨w1, _⟩ := wOk_inv.1 h2; exact ⟨by omega, by omega, fun w hw => rowOk_rSm (wb_nums (w1 w hw)).2.2.1⟩
theorem HOk.tx {h : Hs} (H : HOk h) {k : Nat} {x : Txn} (hx : h.Txns[k]? = some x) : txB x h.Clock = true := by
  have := H.txs k x hx; unfold badT at this; rw [Bool.or_eq_false_iff, Bool.not_eq_false'] at this; exact this.1
theorem HOk.sm {h : Hs} (H : HOk h) : HSm h := by
  obtain ⟨i1, i2⟩ := verOk_inv.1 H.ver
  exact ⟨by omega, fun v hv => rowOk_rSm (vb_nums (i1.vb v hv)).2.2.2.2.2, by have := H.four; omega, fun t ht => by
    obtain ⟨k, hk⟩ := List.getElem?_of_mem ht; exact txB_sm (H.tx hk)⟩
theorem E_l14Copy {h : Hs} (H : HSm h) : m_spec_l14Copy h = some h := by
  unfold m_spec_l14Copy; rw [E_l13Copy H.len (fun v hv => by have := (H.rows v hv).1; omega), Option.bind_some, ltE]
  have := scanM (f := fun t : Txn => t) (J := fun o => m_spec_l14Copy_j1 [] (⟨[], 0, []⟩ : Hs) o ⟨h.f_List, h.Clock, []⟩) h.Txns (fun n k o => m_spec_l14Copy_l1 n h k [] (⟨[], 0, []⟩ : Hs) o ⟨h.f_List, h.Clock, []⟩) (fun n k x o hx ho => by
    have hlt := lt_of_at hx; have hT := H.tx x (List.mem_of_getElem? hx); have h1 := hT.rd; have h2 := H.tl; rw [m_spec_l14Copy_l1, dlt hlt, cond_true, at_of hx, Option.bind_some, ltE, app_of (by simp; omega), Option.bind_some, ltE, E_l14Writes hT.wr (fun w hw => by have := (hT.rows w hw).1; omega), Option.bind_some, ltE, app_of (by simp; omega), Option.bind_some, ck1 (by omega), Option.bind_some, List.nil_append]) (fun n o ho => by
    rw [m_spec_l14Copy_l1, dnlt, cond_false]) _ fuel0
  refine this.trans ?_; unfold m_spec_l14Copy_j1; rw [ltE, List.map_id']
def noteG {α : Type} (key : α → Int) (w : α) : List α → Bool → List α
  | [], d => if d = true then [] else [w]
  | x :: l, d => (if key w ≤ key x ∧ d = false then [w] else []) ++ ((if key x ≠ key w then [x] else []) ++ noteG key w l (d || decide (key w ≤ key x)))
theorem noteG_mem {α : Type} {key : α → Int} {w : α} : ∀ {l : List α} {d : Bool} {y : α}, y ∈ noteG key w l d → y ∈ l ∨ y = w
  | [], d, y, h => by
    unfold noteG at h
    split at h
    · cases h
    · exact .inr (List.mem_singleton.1 h)
  | x :: l, d, y, h => by
    unfold noteG at h; rw [List.mem_append, List.mem_append] at h; rcases h with h | h | h
    · split at h
      · exact .inr (List.mem_singleton.1 h)
      · cases h
    · split at h
      · exact .inl (by rw [List.mem_singleton.1 h]; simp)
      · cases h
    · rcases noteG_mem h with h | h
      · exact .inl (by simp [h])
      · exact .inr h
theorem noteG_done {α : Type} {key : α → Int} {w : α} : ∀ {l : List α}, (∀ x ∈ l, key w < key x) → noteG key w l true = l
  | [], _ => rfl
  | x :: l, h => by
    have hx := h x (by simp); unfold noteG; rw [if_neg (by simp), if_pos (by omega), Bool.true_or, noteG_done (fun y hy => h y (by simp [hy]))]; rfl
theorem noteG_ord {α : Type} {key : α → Int} {w : α} : ∀ {l : List α}, l.Pairwise (fun x y => key x < key y) → (noteG key w l false).Pairwise fun x y => key x < key y
  | [], _ => List.pairwise_singleton _ _
  | x :: l, h => by
    obtain ⟨h1, h2⟩ := List.pairwise_cons.1 h; unfold noteG
    by_cases hk : key w ≤ key x
    · rw [if_pos ⟨hk, rfl⟩, decide_eq_true hk, Bool.or_true, noteG_done (fun y hy => by have := h1 y hy; omega)]
      by_cases he : key x = key w
      · rw [if_neg (fun h => h he)]
        exact List.pairwise_cons.2 ⟨fun y hy => by have := h1 y hy; omega, h2⟩
      · rw [if_pos he]
        refine List.pairwise_cons.2 ⟨fun y hy => ?_, h⟩; rcases List.mem_cons.1 hy with rfl | hy
        · omega
        · have := h1 y hy; omega
    · rw [if_neg (fun h => hk h.1), if_pos (by omega), decide_eq_false hk, Bool.or_false]
      refine List.pairwise_cons.2 ⟨fun y hy => ?_, noteG_ord h2⟩; rcases noteG_mem hy with hy | rfl
      · exact h1 y hy
      · omega
theorem note_loop {l : List Int} {key : Int} (hl : l.length ≤ 100000) : ∀ (rest pre out : List Int) (d : Bool) (n : Nat), l = pre ++ rest → rest.length < n → out.length ≤ 2 * pre.length → m_spec_l14Note_l1 n l key d (pre.length : Int) out = some (out ++ noteG (fun x => x) key rest d) := by
  intro rest
  induction rest with
  | nil =>
    intro pre out d n hp hn ho; obtain ⟨n, rfl⟩ : ∃ q, n = q + 1 := ⟨n - 1, by omega⟩; have : pre.length = l.length := by rw [hp]; simp
    rw [this, m_spec_l14Note_l1, dnlt, cond_false]; unfold m_spec_l14Note_j4 m_spec_l14Note_j5 noteG; cases d with
    | true => rw [Bool.not_true, cond_false, if_pos rfl, List.append_nil]
    | false => rw [Bool.not_false, cond_true, app_of (by simp; omega), Option.bind_some, if_neg (by decide)]
  | cons x rest ih =>
    intro pre out d n hp hn ho; obtain ⟨n, rfl⟩ : ∃ q, n = q + 1 := ⟨n - 1, by omega⟩; have hx : l[pre.length]? = some x := by rw [hp]; simp
    have hlt := lt_of_at hx
    have j2 : ∀ (d' : Bool) (out' : List Int), out'.length ≤ 2 * pre.length + 1 → m_spec_l14Note_j2 (m_spec_l14Note_l1 n) l key d' (pre.length : Int) out' = some (out' ++ ((if x ≠ key then [x] else []) ++ noteG (fun x => x) key rest d')) := by
      intro d' out' ho'; unfold m_spec_l14Note_j2 m_spec_l14Note_j3; rw [at_of hx, Option.bind_some]
      by_cases h1 : x = key
      · rw [neF h1, cond_false, ck1 (by omega), Option.bind_some]
        have := ih (pre ++ [x]) out' d' n (by rw [hp]; simp) (by simp at hn; omega) (by simp; omega); rw [List.length_append, List.length_singleton] at this; rw [natS, this, if_neg (fun h => h h1), List.nil_append]
      · rw [beqF' h1, cond_true, Option.bind_some, app_of (by simp; omega), Option.bind_some, ck1 (by omega), Option.bind_some]
        have := ih (pre ++ [x]) (out' ++ [x]) d' n (by rw [hp]; simp) (by simp at hn; omega) (by simp; omega); rw [List.length_append, List.length_singleton] at this; rw [natS, this, if_pos h1, List.append_assoc]
    rw [m_spec_l14Note_l1, dlt hlt, cond_true, at_of hx, Option.bind_some]; unfold m_spec_l14Note_j1 noteG
    by_cases h1 : key ≤ x
    · rw [decide_eq_true (show x ≥ key from h1), cond_true, Bool.or_true]
      cases d with
      | true => rw [Bool.not_true, cond_false, j2 _ _ (by omega), if_neg (show ¬ (key ≤ x ∧ true = false) from fun h => by cases h.2), List.nil_append]
      | false => rw [Bool.not_false, cond_true, app_of (by simp; omega), Option.bind_some, j2 _ _ (by simp; omega), if_pos (show key ≤ x ∧ false = false from ⟨h1, rfl⟩), List.append_assoc]
    · rw [decide_eq_false (show ¬ x ≥ key from h1), cond_false, cond_false, j2 _ _ (by omega), Bool.or_false, if_neg (show ¬ (key ≤ x ∧ d = false) from fun h => h1 h.1), List.nil_append]
theorem E_l14Note {l : List Int} {key : Int} (hl : l.length ≤ 100000) : m_spec_l14Note l key = some (noteG (fun x => x) key l false) := note_loop hl l [] [] false _ rfl fuel0 (by simp)
theorem put_loop {l : List Wr} {w : Wr} (hl : l.length ≤ 100000) : ∀ (rest pre out : List Wr) (d : Bool) (n : Nat), l = pre ++ rest → rest.length < n → out.length ≤ 2 * pre.length → m_spec_l14Put_l1 n l w d (pre.length : Int) out = some (out ++ noteG (fun x => x.Key) w rest d) := by
  intro rest
  induction rest with
  | nil =>
    intro pre out d n hp hn ho; obtain ⟨n, rfl⟩ : ∃ q, n = q + 1 := ⟨n - 1, by omega⟩; have : pre.length = l.length := by rw [hp]; simp
    rw [this, m_spec_l14Put_l1, dnlt, cond_false]; unfold m_spec_l14Put_j4 m_spec_l14Put_j5 noteG; cases d with
    | true => rw [Bool.not_true, cond_false, if_pos rfl, List.append_nil]
    | false => rw [Bool.not_false, cond_true, app_of (by simp; omega), Option.bind_some, if_neg (by decide)]
  | cons x rest ih =>
    intro pre out d n hp hn ho; obtain ⟨n, rfl⟩ : ∃ q, n = q + 1 := ⟨n - 1, by omega⟩; have hx : l[pre.length]? = some x := by rw [hp]; simp
    have hlt := lt_of_at hx
    have j2 : ∀ (d' : Bool) (out' : List Wr), out'.length ≤ 2 * pre.length + 1 → m_spec_l14Put_j2 (m_spec_l14Put_l1 n) l w d' (pre.length : Int) out' = some (out' ++ ((if x.Key ≠ w.Key then [x] else []) ++ noteG (fun x => x.Key) w rest d')) := by
      intro d' out' ho'; unfold m_spec_l14Put_j2 m_spec_l14Put_j3; rw [at_of hx, Option.bind_some]
      by_cases h1 : x.Key = w.Key
      · rw [neF h1, cond_false, ck1 (by omega), Option.bind_some]
        have := ih (pre ++ [x]) out' d' n (by rw [hp]; simp) (by simp at hn; omega) (by simp; omega); rw [List.length_append, List.length_singleton] at this; rw [natS, this, if_neg (fun h => h h1), List.nil_append]
      · rw [beqF' h1, cond_true, Option.bind_some, app_of (by simp; omega), Option.bind_some, ck1 (by omega), Option.bind_some]
        have := ih (pre ++ [x]) (out' ++ [x]) d' n (by rw [hp]; simp) (by simp at hn; omega) (by simp; omega); rw [List.length_append, List.length_singleton] at this; rw [natS, this, if_pos h1, List.append_assoc]
    rw [m_spec_l14Put_l1, dlt hlt, cond_true, at_of hx, Option.bind_some]; unfold m_spec_l14Put_j1 noteG
    by_cases h1 : w.Key ≤ x.Key
    · rw [decide_eq_true (show x.Key ≥ w.Key from h1), cond_true, Bool.or_true]
      cases d with
      | true => rw [Bool.not_true, cond_false, j2 _ _ (by omega), if_neg (show ¬ (w.Key ≤ x.Key ∧ true = false) from fun h => by cases h.2), List.nil_append]
      | false => rw [Bool.not_false, cond_true, app_of (by simp; omega), Option.bind_some, j2 _ _ (by simp; omega), if_pos (show w.Key ≤ x.Key ∧ false = false from ⟨h1, rfl⟩), List.append_assoc]
    · rw [decide_eq_false (show ¬ x.Key ≥ w.Key from h1), cond_false, cond_false, j2 _ _ (by omega), Bool.or_false, if_neg (show ¬ (w.Key ≤ x.Key ∧ d = false) from fun h => h1 h.1), List.nil_append]
theorem E_l14Put {l : List Wr} {w : Wr} (hl : l.length ≤ 100000) : m_spec_l14Put l w = some (noteG (fun x => x.Key) w l false) := put_loop hl l [] [] false _ rfl fuel0 (by simp)
theorem ascB_note {l : List Int} {key : Int} (h : ascB l = true) (hk : keyB key = true) : ascB (noteG (fun x => x) key l false) = true := by
  obtain ⟨h1, h2⟩ := ascB_inv.1 h; refine ascB_inv.2 ⟨fun x hx => ?_, noteG_ord (key := fun x => x) h2⟩; rcases noteG_mem hx with hx | rfl
  · exact h1 x hx
  · exact hk
theorem wOk_put {l : List Wr} {w : Wr} (h : wOk l = true) (hw : wb w = true) : wOk (noteG (fun x => x.Key) w l false) = true := by
  obtain ⟨h1, h2⟩ := wOk_inv.1 h; refine wOk_inv.2 ⟨fun x hx => ?_, noteG_ord (key := fun x : Wr => x.Key) h2⟩; rcases noteG_mem hx with hx | rfl
  · exact h1 x hx
  · exact hw
theorem T_l14Late {h : Hs} {t : Txn} (H : HSm h) (ht : TSm t) : Tot (m_spec_l14Late h t) fun _ => True := by
  have w1 := ht.wr; have w2 := H.tl; unfold m_spec_l14Late; refine Tot.up (t.Writes.length : Int) (fun n k (_ : Unit) => m_spec_l14Late_l1 n h t k) (fun _ _ => True) (fun n s _ => ?_) (fun n k s h0 h1 _ ih => ?_) _ 0 () (by omega) (by omega) (by omega) trivial
  · rw [m_spec_l14Late_l1, dnlt, cond_false]; exact Tot.ret trivial
  · rw [m_spec_l14Late_l1, decide_eq_true h1, cond_true]
    refine Tot.at h0 h1 fun x hx => Tot.eq (E_spec_LastTurn H.len H.rows _) ?_; refine Tot.up (h.Txns.length : Int) (fun m j (b : Bool) => m_spec_l14Late_l2 (m_spec_l14Late_l1 n) m h t k x.Key b j) (fun _ _ => True) (fun m b _ => ?_) (fun m j b g0 g1 _ ih2 => ?_) _ 0 _ (by omega) (by omega) (by omega) trivial
    · rw [m_spec_l14Late_l2, dnlt, cond_false]
      unfold m_spec_l14Late_j2 m_spec_l14Late_j3; exact Tot.bif (fun _ => Tot.ret trivial) (fun _ => Tot.ck (by omega) (by omega) (ih () trivial))
    · have j1 : ∀ b', Tot (m_spec_l14Late_j1 (m_spec_l14Late_l1 n) (m_spec_l14Late_l2 (m_spec_l14Late_l1 n) m) h t k x.Key b' j) fun _ => True := fun b' => by
        unfold m_spec_l14Late_j1; exact Tot.ck (by omega) (by omega) (ih2 b' trivial)
      rw [m_spec_l14Late_l2, decide_eq_true g1, cond_true]; exact Tot.bif (fun _ => j1 _) (fun _ => Tot.at g0 g1 fun y hy => Tot.bif (fun _ => Tot.at g0 g1 fun z hz => Tot.bif (fun _ => Tot.at g0 g1 fun u hu => Tot.eq (own_find (H.tx u hu).wr _) (j1 _)) (fun _ => j1 _)) (fun _ => j1 _))
theorem txB_mono {t : Txn} {c c' : Int} (h : txB t c = true) (hc : c ≤ c') : txB t c' = true := by
  have r : txR t c = true → txR t c' = true := fun h => by
    unfold txR at *; simp only [Bool.and_eq_true, decide_eq_true_eq] at *; exact ⟨⟨h.1.1, by omega⟩, h.2⟩
  unfold txB at *
  split at h
  · rename_i h0; rw [if_pos h0]; exact h
  rename_i h0; rw [if_neg h0]
  split at h
  · rename_i h2
    rw [if_pos h2]; simp only [Bool.and_eq_true, decide_eq_true_eq] at *; exact ⟨⟨h.1.1, by omega⟩, r h.2⟩
  rename_i h2; rw [if_neg h2]
  split at h
  · rename_i h3
    rw [if_pos h3]; rw [Bool.and_eq_true] at *; exact ⟨h.1, r h.2⟩
  · cases h
theorem txB_dn {t : Txn} {c : Int} (h : txB t c = true) (hd : dnT t = true) : t.End ≤ c := by
  unfold dnT at hd; have hs : t.State = 2 := by simpa using hd
  unfold txB at h; rw [if_neg (by omega), if_pos hs] at h; simp only [Bool.and_eq_true, decide_eq_true_eq] at h; exact h.1.2
theorem HOk.put {h : Hs} (H : HOk h) {k : Nat} {t : Txn} {l : List Ver} {c : Int} (hv : verOk l = true) (hc : h.Clock ≤ c ∧ c ≤ 40) (hl : turnA l ≤ c) (ht : txB t c = true) (hd : dnT t = true → h.Clock < t.End) : HOk (⟨l, c, h.Txns.set k t⟩ : Hs) := by
  refine ⟨hv, ⟨by have := H.clk; show 0 ≤ c; omega, hc.2⟩, hl, by show (h.Txns.set k t).length = 4; rw [List.length_set]; exact H.four, fun j x hx0 => ?_⟩; have hx : (h.Txns.set k t)[j]? = some x := hx0; clear hx0; show badT (⟨l, c, h.Txns.set k t⟩ : Hs) j x = false; unfold badT; show (!(txB x c) || (dnT x && ((h.Txns.set k t).take j).any fun y => dnT y && decide (x.End = y.End))) = false
  have old : ∀ y ∈ h.Txns, dnT y = true → y.End ≤ h.Clock := fun y hy hdy => by
    obtain ⟨q, hq⟩ := List.getElem?_of_mem hy; exact txB_dn (H.tx hq) hdy
  rw [List.getElem?_set] at hx
  by_cases hkj : k = j
  · rw [if_pos hkj] at hx
    subst hkj
    split at hx
    · cases hx
      rw [ht, Bool.not_true, Bool.false_or]; cases hdt : dnT t with
      | false => rfl
      | true =>
        rw [Bool.true_and, List.any_eq_false]; intro y hy hb; rw [Bool.and_eq_true, decide_eq_true_eq] at hb; rw [List.take_set] at hy
        have hy' : y ∈ h.Txns := by
          rw [List.set_eq_of_length_le (by rw [List.length_take]; omega)] at hy; exact List.mem_of_mem_take hy
        have := old y hy' hb.1; have := hd hdt; omega
    · cases hx
  · rw [if_neg hkj] at hx
    rw [txB_mono (H.tx hx) hc.1, Bool.not_true, Bool.false_or]; cases hdx : dnT x with
    | false => rfl
    | true =>
      rw [Bool.true_and, List.any_eq_false]; intro y hy hb; rw [Bool.and_eq_true, decide_eq_true_eq] at hb; rw [List.take_set] at hy; rcases List.mem_or_eq_of_mem_set hy with hy | rfl
      · have hb2 := H.txs j x hx
        unfold badT at hb2; rw [Bool.or_eq_false_iff, hdx, Bool.true_and, List.any_eq_false] at hb2; exact hb2.2 y hy (by rw [Bool.and_eq_true, decide_eq_true_eq]; exact hb)
      · have := old x (List.mem_of_getElem? hx) hdx
        have := hd hb.1; omega
theorem putAll_le {t : Int} (ht : 0 ≤ t) : ∀ {ws : List Wr} {o : List Ver}, (∀ v ∈ o, v.Born ≤ t ∧ v.Died ≤ t) → ∀ v ∈ putAll o ws t, v.Born ≤ t ∧ v.Died ≤ t
  | [], o, h => h
  | w :: ws, o, h => putAll_le ht (ws := ws) (o := put1 o w t) (fun v hv => by
      have hv := (put1_perm o w t).mem_iff.1 hv
      have key : ∀ u ∈ o.map (endV w.Key t), u.Born ≤ t ∧ u.Died ≤ t := by
        intro u hu; obtain ⟨v, hv, rfl⟩ := List.mem_map.1 hu; have := h v hv; unfold endV
        split
        · exact ⟨this.1, Int.le_refl _⟩
        · exact this
      unfold step1 at hv
      split at hv
      · exact key v hv
      · rcases List.mem_append.1 hv with hv | hv
        · exact key v hv
        · rw [List.mem_singleton.1 hv]; exact ⟨Int.le_refl _, ht⟩)
theorem wrAt_ok {l : List Ver} {ws : List Wr} {t : Int} (h : (wrAt l ws t).2 = true) : verOk (wrAt l ws t).1 = true ∧ turnA (wrAt l ws t).1 ≤ t ∧ t ≤ 40 := by
  unfold wrAt at *
  split at h
  · rename_i hw
    rw [if_pos hw]
    split at h
    · cases h
    · rename_i hn
      rw [if_neg hn]; obtain ⟨W, _, hb⟩ := wrOk_inv hw; have hle := putAll_le (t := t) (by have := W.time; omega) (ws := ws) (o := l) (fun v hv => by have := hb v hv; omega); refine ⟨verOk_inv.2 ⟨putAll_inv W, by show (putAll l ws t).length ≤ 60; omega⟩, turnA_le.2 ⟨by have := W.time; omega, fun k _ => lastT_le.2 ⟨by have := W.time; omega, fun v hv _ => hle v hv⟩⟩, W.time.2⟩
  · cases h
theorem txB_of {t : Txn} {c : Int} (hs : t.State = 1 ∨ t.State = 3) (he : t.End = 0) (hr : txR t c = true) : txB t c = true := by
  unfold txB; rw [if_neg (by omega), if_neg (by omega), if_pos hs, he, hr]; rfl
theorem txB_open {t : Txn} {c : Int} (h : txB t c = true) (hs : t.State = 1) : t.End = 0 ∧ 0 ≤ t.Begin ∧ t.Begin ≤ c ∧ ascB t.Reads = true ∧ wOk t.Writes = true := by
  unfold txB txR at h; rw [if_neg (by omega), if_neg (by omega), if_pos (.inl hs)] at h; simp only [Bool.and_eq_true, decide_eq_true_eq] at h; exact ⟨h.1, h.2.1.1, h.2.1.2, h.2.2⟩
theorem txR_of {t : Txn} {c : Int} (h0 : 0 ≤ t.Begin) (h1 : t.Begin ≤ c) (h2 : ascB t.Reads = true) (h3 : wOk t.Writes = true) : txR t c = true := by
  unfold txR; rw [decide_eq_true h0, decide_eq_true h1, h2, h3]; rfl
theorem T_HouseStep {h : Hs} {m : Mv} (H : HOk h) (hm : rSm m.Row) : Tot (m_spec_HouseStep h m) fun r => HOk r.1 := by
  have hS := H.sm; have clk := H.clk; have four := H.four
  have j1 : ∀ b : Bool, (b = false → (∃ k : Nat, m.Who = (k : Int) ∧ k < 4) ∧ keyB m.Key = true ∧ rowOk m.Row = true) → Tot (m_spec_HouseStep_j1 h m b [] (⟨[], 0, []⟩ : Hs) h.Txns h) fun r => HOk r.1 := by
    intro b hb; unfold m_spec_HouseStep_j1; refine Tot.bif (fun _ => Tot.lt (Tot.ret H)) (fun hf => ?_); obtain ⟨⟨k, hk, hk4⟩, hkey, hrow⟩ := hb hf; have hx : h.Txns[k]? = some (h.Txns[k]'(by omega)) := List.getElem?_eq_getElem (by omega); generalize h.Txns[k]'(by omega) = x at hx; have hT := H.tx hx; have hsm := txB_sm hT
    have j4 : ∀ (t : Txn) (l : List Ver) (c : Int), HOk (⟨l, c, h.Txns.set k t⟩ : Hs) → Tot (m_spec_HouseStep_j4 m [] (⟨[], 0, []⟩ : Hs) h.Txns (⟨l, c, h.Txns⟩ : Hs) t) fun r => HOk r.1 := by
      intro t l c ht; unfold m_spec_HouseStep_j4; rw [hk]; exact Tot.eq (at_of hx) (Tot.eq (at_of hx) (Tot.lt (Tot.lt (Tot.ret ht))))
    have j4' : ∀ t : Txn, dnT t = false → txB t h.Clock = true → Tot (m_spec_HouseStep_j4 m [] (⟨[], 0, []⟩ : Hs) h.Txns h t) fun r => HOk r.1 := fun t hd ht =>
      j4 t h.f_List h.Clock (H.put H.ver ⟨Int.le_refl _, clk.2⟩ H.turn ht (fun h => by rw [hd] at h; cases h))
    have j3 : ∀ b : Bool, x.State = 1 → Tot (m_spec_HouseStep_j3 h m b [] (⟨[], 0, []⟩ : Hs) h.Txns h x) fun r => HOk r.1 := by
      intro b hs; obtain ⟨o1, o2, o3, o4, o5⟩ := txB_open hT hs; unfold m_spec_HouseStep_j3; rw [hk]; refine Tot.bif (fun _ => Tot.lt (Tot.eq (at_of hx) (Tot.eq (at_of hx) (Tot.lt (Tot.lt (Tot.ret ?_)))))) (fun _ => ?_)
      · exact H.put H.ver ⟨Int.le_refl _, clk.2⟩ H.turn (txB_of (.inr rfl) o1 (txR_of o2 o3 o4 o5)) (fun h => by cases h)
      · refine Tot.bif (fun _ => ?_) (fun _ => Tot.lt (Tot.ret H))
        have hver := verOk_inv.1 H.ver; refine Tot.ck (by omega) (by omega) (Tot.eq (E_spec_WrittenAt (by omega) hS.rows (by have := adj_len o5; omega) hsm.rows) ?_); refine Tot.bif (fun _ => Tot.lt (Tot.ret H)) (fun hw => ?_); rw [Bool.not_eq_false'] at hw; obtain ⟨w1, w2, w3⟩ := wrAt_ok hw; refine Tot.lt (Tot.ck (by omega) (by omega) (Tot.lt (Tot.lt (Tot.lt (j4 _ _ _ ?_))))); refine H.put w1 ⟨by omega, w3⟩ w2 ?_ (fun _ => by show h.Clock < h.Clock + 1; omega); unfold txB; rw [if_neg (by show ¬ (2 : Int) = 0; decide), if_pos rfl]; show ((decide (x.Begin + 1 ≤ h.Clock + 1) && decide (h.Clock + 1 ≤ h.Clock + 1)) && txR _ _) = true; rw [decide_eq_true (by omega), decide_eq_true (by omega)]; exact txR_of o2 (by show x.Begin ≤ h.Clock + 1; omega) o4 o5
    have j2 : ∀ b : Bool, Tot (m_spec_HouseStep_j2 h m b [] (⟨[], 0, []⟩ : Hs) h.Txns h x) fun r => HOk r.1 := by
      intro b; unfold m_spec_HouseStep_j2; refine Tot.bif (fun _ => Tot.lt (j4' _ rfl (txB_of (.inl rfl) rfl (txR_of clk.1 (Int.le_refl _) rfl rfl)))) (fun _ => ?_); refine Tot.bif (fun _ => Tot.lt (Tot.ret H)) (fun hs => ?_); have hs : x.State = 1 := by simpa using hs
      obtain ⟨o1, o2, o3, o4, o5⟩ := txB_open hT hs; have nd : ∀ t : Txn, t.State = 1 → dnT t = false := fun t ht => by unfold dnT; rw [ht]; rfl
      have rl := hsm.rd; have r5 := asc_len (a := 0) (fun x hx => keyB_nums ((ascB_inv.1 o4).1 x hx)) (ascB_inv.1 o4).2 (by decide); have w5 := adj_len o5; refine Tot.bif (fun _ => Tot.eq (own_find hsm.wr _) (Tot.bif (fun _ => Tot.eq (E_l14Note (by omega)) (Tot.lt (j4' _ (nd _ hs) (txB_of (.inl hs) o1 (txR_of o2 o3 (ascB_note o4 hkey) o5))))) (fun _ => j4' _ (nd _ hs) hT))) (fun _ => ?_)
      have pt : ∀ w : Wr, wb w = true → Tot ((m_spec_l14Put x.Writes w).bind fun x49 => lt ({ x with Writes := x49 } : Txn) fun y50 => m_spec_HouseStep_j4 m [] (⟨[], 0, []⟩ : Hs) h.Txns h y50) fun r => HOk r.1 := fun w hw =>
        Tot.eq (E_l14Put (by omega)) (Tot.lt (j4' _ (nd _ hs) (txB_of (.inl hs) o1 (txR_of o2 o3 o4 (wOk_put o5 hw)))))
      refine Tot.bif (fun _ => Tot.eq (E_l3Own (by have := hm.1; omega)) (pt _ ?_)) (fun _ => ?_)
      · unfold wb
        rw [hkey, hrow]; rfl
      refine Tot.bif (fun _ => pt _ ?_) (fun _ => ?_)
      · unfold wb
        rw [hkey]; rfl
      refine Tot.bif (fun _ => Tot.lt (j4' _ rfl (txB_of (.inr rfl) o1 (txR_of o2 o3 o4 o5)))) (fun _ => ?_); exact Tot.bif (fun _ => Tot.bind (T_l14Late hS hsm) fun b _ => j3 b hs) (fun _ => j3 _ hs)
    rw [hk]; exact Tot.eq (at_of hx) (Tot.eq (at_of hx) (Tot.lt (Tot.bif (fun _ => j2 _) (fun _ => j2 _))))
  unfold m_spec_HouseStep; obtain ⟨b, e, i⟩ := E_spec_HouseOk hS; rw [i.2 H] at e; refine Tot.eq e ?_; rw [Bool.not_true, cond_false]; refine Tot.eq (E_l14Copy hS) (Tot.lt (Tot.eq (E_l1In _ _ _) (Tot.bif (fun _ => j1 true (fun h => by cases h)) (fun hw => Tot.eq (E_l1In _ _ _) (Tot.bif (fun _ => j1 true (fun h => by cases h)) (fun hk => Tot.eq (E_spec_RowOk hm) (Tot.bif (fun _ => j1 true (fun h => by cases h)) (fun hr => ?_))))))))
  have fin : ∀ b : Bool, Tot (m_spec_HouseStep_j1 h m b [] (⟨[], 0, []⟩ : Hs) h.Txns h) fun r => HOk r.1 := fun b => j1 b fun _ => by
    rw [Bool.not_eq_false'] at hw hk hr; rw [Bool.and_eq_true, decide_eq_true_eq, decide_eq_true_eq] at hw; exact ⟨⟨m.Who.toNat, by omega, by omega⟩, hk, hr⟩
  exact Tot.bif (fun _ => Tot.bif (fun _ => fin _) (fun _ => Tot.bif (fun _ => Tot.bif (fun _ => fin _) (fun _ => fin _)) (fun _ => fin _))) (fun _ => fin _)
theorem T_HouseRun {h : Hs} {ms : List Mv} (H : HOk h) (hl : ms.length ≤ 100000) (hm : ∀ m ∈ ms, rSm m.Row) : Tot (m_spec_HouseRun h ms) fun r => HOk r := by
  unfold m_spec_HouseRun; obtain ⟨b, e, i⟩ := E_spec_HouseOk H.sm; rw [i.2 H] at e; refine Tot.lt (Tot.eq e ?_); rw [Bool.not_true, cond_false]; refine Tot.eq (E_l14Copy H.sm) (Tot.lt ?_); refine Tot.up (ms.length : Int) (fun n t (s : List Txn × Hs) => m_spec_HouseRun_l1 n ms t [] (⟨[], 0, []⟩ : Hs) s.1 s.2) (fun t s => HOk { s.2 with Txns := s.1 }) (fun n s hs => ?_) (fun n t s h0 h1 hs ih => ?_) _ 0 (h.Txns, h) (by omega) (by omega) (by omega) H
  · rw [m_spec_HouseRun_l1, dnlt, cond_false]
    unfold m_spec_HouseRun_j1; exact Tot.lt (Tot.ret hs)
  · rw [m_spec_HouseRun_l1, decide_eq_true h1, cond_true]
    exact Tot.at h0 h1 fun m hmm => Tot.bind (T_HouseStep hs (hm m hmm)) fun r hr => Tot.lt (Tot.ck (by omega) (by omega) (ih (r.1.Txns, r.1) hr))
def hsNew : Hs := ⟨[], 0, [⟨0, 0, 0, [], []⟩, ⟨0, 0, 0, [], []⟩, ⟨0, 0, 0, [], []⟩, ⟨0, 0, 0, [], []⟩]⟩
theorem hsNew_ok : HOk hsNew := by
  refine ⟨rfl, by decide, by decide, rfl, fun k x hx => ?_⟩; have hm : x ∈ [(⟨0, 0, 0, [], []⟩ : Txn), ⟨0, 0, 0, [], []⟩, ⟨0, 0, 0, [], []⟩, ⟨0, 0, 0, [], []⟩] := List.mem_of_getElem? hx; have hx0 : x = ⟨0, 0, 0, [], []⟩ := by simpa using hm
  subst hx0; rfl
theorem E_HouseNew : m_spec_HouseNew 0 = some hsNew := rfl
theorem HSm.set {h : Hs} (H : HSm h) {k : Nat} {t : Txn} (ht : TSm t) : HSm { h with Txns := h.Txns.set k t } :=
  ⟨H.len, H.rows, by show (h.Txns.set k t).length ≤ 3000000; rw [List.length_set]; exact H.tl, fun u hu => by
    rcases List.mem_or_eq_of_mem_set hu with hu | rfl
    · exact H.tx u hu
    · exact ht⟩
structure BesV (h : Hs) (a b : Int) : Prop where
  ok : HOk h
  ne : a ≠ b
  at' : ∃ (i j : Nat) (x y : Txn), a = (i : Int) ∧ b = (j : Int) ∧ h.Txns[i]? = some x ∧ h.Txns[j]? = some y ∧ x.State = 2 ∧ y.State = 2 ∧ x.Begin < y.End ∧ y.Begin < x.End
theorem BesV.symm {h : Hs} {a b : Int} (H : BesV h a b) : BesV h b a := by
  obtain ⟨i, j, x, y, h1, h2, h3, h4, h5, h6, h7, h8⟩ := H.at'; exact ⟨H.ok, H.ne.symm, j, i, y, x, h2, h1, h4, h3, h6, h5, h8, h7⟩
theorem E_Beside {h : Hs} (hs : HSm h) (a b : Int) : ∃ r, m_impl_Beside h a b = some r ∧ m_spec_Beside h a b = some r ∧ (r = true ↔ BesV h a b) := by
  obtain ⟨b1, e1, i1⟩ := E_impl_HouseOk hs; obtain ⟨b2, e2, i2⟩ := E_spec_HouseOk hs; have hb : b1 = b2 := by rw [Bool.eq_iff_iff, i1, i2]
  subst hb; unfold m_impl_Beside m_spec_Beside; rw [e1, Option.bind_some, e2, Option.bind_some]; cases b1 with
  | false =>
    refine ⟨false, rfl, rfl, fun h => (by cases h), fun H => ?_⟩; have := i1.2 H.ok; cases this
  | true =>
    have H := i1.1 rfl; have four := H.four; rw [cond_true, Bool.not_true, cond_false, E_between, Option.bind_some, E_l1In, Option.bind_some]
    have inr : ∀ {c : Int}, ¬ (0 ≤ c ∧ c ≤ 3) → (decide (0 ≤ c) && decide (c ≤ 3)) = false := fun {c} hc => by
      rw [Bool.and_eq_false_iff]
      by_cases h0 : 0 ≤ c
      · exact .inr (decide_eq_false (by omega))
      · exact .inl (decide_eq_false h0)
    have idx : ∀ {i : Nat} {x : Txn}, h.Txns[i]? = some x → i < 4 := fun hx => by have := lt_of_at hx; omega
    by_cases ha : 0 ≤ a ∧ a ≤ 3
    case neg =>
      rw [inr ha]
      exact ⟨false, rfl, rfl, fun h => (by cases h), fun H => by
        obtain ⟨i, j, x, y, h1, h2, h3, h4, _⟩ := H.at'; have := idx h3; omega⟩
    rw [decide_eq_true ha.1, decide_eq_true ha.2, Bool.true_and, cond_true, Bool.not_true, cond_false, E_between, Option.bind_some, E_l1In, Option.bind_some]
    by_cases hb : 0 ≤ b ∧ b ≤ 3
    case neg =>
      rw [inr hb]
      exact ⟨false, rfl, rfl, fun h => (by cases h), fun H => by
        obtain ⟨i, j, x, y, h1, h2, h3, h4, _⟩ := H.at'; have := idx h4; omega⟩
    rw [decide_eq_true hb.1, decide_eq_true hb.2, Bool.true_and, cond_true, Bool.not_true, cond_false]; obtain ⟨i, rfl⟩ : ∃ i : Nat, a = (i : Int) := ⟨a.toNat, by omega⟩; obtain ⟨j, rfl⟩ : ∃ j : Nat, b = (j : Int) := ⟨b.toNat, by omega⟩; have hx : h.Txns[i]? = some (h.Txns[i]'(by omega)) := List.getElem?_eq_getElem (by omega); have hy : h.Txns[j]? = some (h.Txns[j]'(by omega)) := List.getElem?_eq_getElem (by omega); generalize h.Txns[i]'(by omega) = x at hx; generalize h.Txns[j]'(by omega) = y at hy; refine ⟨!((i : Int) == (j : Int)) && ((x.State == 2) && ((y.State == 2) && (decide (x.Begin < y.End) && decide (y.Begin < x.End)))), ?_, ?_, ?_⟩
    · unfold m_impl_House_beside m_impl_House_beside_j1 m_impl_Beside_j1
      rw [at_of hx, Option.bind_some, at_of hy, Option.bind_some, ltE, ltE]; unfold bne; cases ((i : Int) == (j : Int)) <;> cases (x.State == 2) <;> cases (y.State == 2) <;> cases decide (x.Begin < y.End) <;> rfl
    · unfold m_spec_Beside_j1 m_spec_l15Beside m_spec_l15Beside_j1
      rw [at_of hx, Option.bind_some, at_of hy]; simp only [Option.bind_some]; unfold bne; cases ((i : Int) == (j : Int)) <;> cases (x.State == 2) <;> cases (y.State == 2) <;> cases decide (x.Begin < y.End) <;> rfl
    · simp only [Bool.and_eq_true, Bool.not_eq_true', beq_eq_false_iff_ne, beq_iff_eq, decide_eq_true_eq]
      constructor
      · rintro ⟨h1, h2, h3, h4, h5⟩
        exact ⟨H, h1, i, j, x, y, rfl, rfl, hx, hy, h2, h3, h4, h5⟩
      · rintro ⟨_, h1, i', j', x', y', e1, e2, hx', hy', h2, h3, h4, h5⟩
        obtain rfl : i = i' := by omega
        obtain rfl : j = j' := by omega
        rw [hx] at hx'; rw [hy] at hy'; cases hx'; cases hy'; exact ⟨h1, h2, h3, h4, h5⟩
theorem T_l20Ended {o : Rd} (ho : o.p = 0) : Tot (m_spec_l20Ended o) fun r => HOk r.1 ∧ 0 ≤ r.2.p ∧ r.2.p ≤ 1000 := by
  have r0 : rSm ([] : Row) := ⟨by decide, fun v hv => by cases hv⟩
  have add : ∀ {ms : List Mv} {m : Mv}, (∀ u ∈ ms, rSm u.Row) → rSm m.Row → ∀ u ∈ ms ++ [m], rSm u.Row := fun {ms m} h1 h2 u hu => by
    rcases List.mem_append.1 hu with hu | hu
    · exact h1 u hu
    · rw [List.mem_singleton.1 hu]; exact h2
  have j6 : ∀ (q : Rd) (ms : List Mv), 0 ≤ q.p → q.p ≤ 1000 → ms.length ≤ 50 → (∀ m ∈ ms, rSm m.Row) → Tot (m_spec_l20Ended_j6 q [] (⟨[], 0, []⟩ : Hs) ms) fun r => HOk r.1 ∧ 0 ≤ r.2.p ∧ r.2.p ≤ 1000 := by
    intro q ms h0 h1 h2 h3; unfold m_spec_l20Ended_j6; refine Tot.up 4 (fun n t (s : List Mv) => m_spec_l20Ended_l3 n t q [] (⟨[], 0, []⟩ : Hs) s) (fun t s => (s.length : Int) ≤ 50 + t ∧ ∀ m ∈ s, rSm m.Row) (fun n s hs => ?_) (fun n t s g0 g1 hs ih => ?_) _ 0 ms (by omega) (by omega) (by decide) ⟨by omega, h3⟩
    · rw [m_spec_l20Ended_l3, show decide ((4 : Int) < 4) = false from rfl, cond_false]
      unfold m_spec_l20Ended_j7; exact Tot.eq E_HouseNew (Tot.bind (T_HouseRun hsNew_ok (by omega) hs.2) fun h H => Tot.lt (Tot.ret ⟨H, h0, h1⟩))
    · rw [m_spec_l20Ended_l3, decide_eq_true g1, cond_true]
      exact Tot.app (by simp; omega) (Tot.ck (by omega) (by omega) (ih _ ⟨by simp; omega, add hs.2 r0⟩))
  have j2 : ∀ (q : Rd) (ms : List Mv), 0 ≤ q.p → q.p ≤ 10 → ms.length ≤ 4 → (∀ m ∈ ms, rSm m.Row) → Tot (m_spec_l20Ended_j2 q [] (⟨[], 0, []⟩ : Hs) ms) fun r => HOk r.1 ∧ 0 ≤ r.2.p ∧ r.2.p ≤ 1000 := by
    intro q ms h0 h1 h2 h3; unfold m_spec_l20Ended_j2; refine Tot.bind (T_pick (by omega)) fun k hk => Tot.ck (by omega) (by omega) ?_; refine Tot.down (fun f t (s : Rd × List Mv) => m_spec_l20Ended_l2 f t s.1 [] (⟨[], 0, []⟩ : Hs) s.2) (fun t s => t ≤ 14 ∧ 0 ≤ s.1.p ∧ s.1.p + 10 * t ≤ 200 ∧ (s.2.length : Int) + t ≤ 20 ∧ ∀ m ∈ s.2, rSm m.Row) (fun f s h => ?_) (fun f t s ht h ih => ?_) _ (4 + k.1) (k.2, ms) (by omega) (by omega) ⟨by omega, by simp only; omega, by simp only; omega, by simp only; omega, h3⟩
    · obtain ⟨g1, g2, g3, g4, g5⟩ := h
      rw [m_spec_l20Ended_l2, show decide ((0 : Int) > 0) = false from rfl, cond_false]; exact j6 _ _ (by omega) (by omega) (by omega) g5
    · obtain ⟨g1, g2, g3, g4, g5⟩ := h
      have k5 : ∀ (r : Rd) (m : Mv), 0 ≤ r.p → r.p ≤ s.1.p + 10 → rSm m.Row → Tot (m_spec_l20Ended_j5 (m_spec_l20Ended_l2 f) t r [] (⟨[], 0, []⟩ : Hs) m s.2) fun r => HOk r.1 ∧ 0 ≤ r.2.p ∧ r.2.p ≤ 1000 := fun r m e0 e1 e2 => by
        unfold m_spec_l20Ended_j5; exact Tot.app (by simp; omega) (Tot.ck (by omega) (by omega) (ih (r, s.2 ++ [m]) ⟨by omega, e0, by simp only; omega, by simp; omega, add g5 e2⟩))
      have k4 : ∀ (r : Rd) (m : Mv), 0 ≤ r.p → r.p ≤ s.1.p + 5 → rSm m.Row → Tot (m_spec_l20Ended_j4 (m_spec_l20Ended_l2 f) t r [] (⟨[], 0, []⟩ : Hs) m s.2) fun r => HOk r.1 ∧ 0 ≤ r.2.p ∧ r.2.p ≤ 1000 := fun r m e0 e1 e2 => by
        unfold m_spec_l20Ended_j4; exact Tot.bif (fun _ => Tot.bind (T_l20Small (by omega)) fun v hv => Tot.lt (k5 _ _ (by omega) (by omega) (rDr_sm hv.1.2))) (fun _ => k5 _ _ e0 (by omega) e2)
      have k3 : ∀ (b : Bool) (r : Rd) (m : Mv), 0 ≤ r.p → r.p ≤ s.1.p + 3 → rSm m.Row → Tot (m_spec_l20Ended_j3 (m_spec_l20Ended_l2 f) t b r [] (⟨[], 0, []⟩ : Hs) m s.2) fun r => HOk r.1 ∧ 0 ≤ r.2.p ∧ r.2.p ≤ 1000 := fun b r m e0 e1 e2 => by
        unfold m_spec_l20Ended_j3; exact Tot.bif (fun _ => Tot.bind (T_pick (by omega)) fun v hv => Tot.lt (k4 _ _ (by omega) (by omega) e2)) (fun _ => k4 _ _ e0 (by omega) e2)
      rw [m_spec_l20Ended_l2, decide_eq_true (show t > 0 by omega), cond_true]; refine Tot.bind (T_pick (by omega)) fun x hx => Tot.at hx.1 (by simp only [List.length_cons, List.length_nil]; omega) fun y hy => Tot.bind (T_pick (by omega)) fun z hz => Tot.lt (Tot.bif (fun _ => k3 _ _ _ (by omega) (by omega) r0) (fun _ => Tot.bif (fun _ => k3 _ _ _ (by omega) (by omega) r0) (fun _ => k3 _ _ _ (by omega) (by omega) r0)))
  unfold m_spec_l20Ended; refine Tot.up 4 (fun n t (s : Rd × List Mv) => m_spec_l20Ended_l1 n t s.1 [] (⟨[], 0, []⟩ : Hs) s.2) (fun t s => 0 ≤ s.1.p ∧ s.1.p ≤ t ∧ (s.2.length : Int) ≤ t ∧ ∀ m ∈ s.2, rSm m.Row) (fun n s hs => ?_) (fun n t s g0 g1 hs ih => ?_) _ 0 (o, []) (by omega) (by omega) (by decide) ⟨by simp only; omega, by simp only; omega, by simp, by simp⟩
  · rw [m_spec_l20Ended_l1, show decide ((4 : Int) < 4) = false from rfl, cond_false]
    exact j2 _ _ hs.1 (by omega) (by omega) hs.2.2.2
  · obtain ⟨h1, h2, h3, h4⟩ := hs
    have j1 : ∀ (r : Rd) (ms : List Mv), 0 ≤ r.p → r.p ≤ t + 1 → (ms.length : Int) ≤ t + 1 → (∀ m ∈ ms, rSm m.Row) → Tot (m_spec_l20Ended_j1 (m_spec_l20Ended_l1 n) t r [] (⟨[], 0, []⟩ : Hs) ms) fun r => HOk r.1 ∧ 0 ≤ r.2.p ∧ r.2.p ≤ 1000 := fun r ms e0 e1 e2 e3 => by
      unfold m_spec_l20Ended_j1; exact Tot.ck (by omega) (by omega) (ih (r, ms) ⟨e0, e1, e2, e3⟩)
    rw [m_spec_l20Ended_l1, decide_eq_true g1, cond_true]; exact Tot.bind (T_pick (by omega)) fun x hx => Tot.bif (fun _ => Tot.app (by simp; omega) (j1 _ _ (by omega) (by omega) (by simp; omega) (add h4 r0))) (fun _ => j1 _ _ (by omega) (by omega) (by omega) h4)
theorem T_l20Late {o : Rd} {n : Int} (ho : o.p = 0) (hn : -900000 ≤ n ∧ n ≤ 900000) : Tot (m_spec_l20Late o n) fun r => HSm r.1 ∧ 0 ≤ r.2.p ∧ r.2.p ≤ 3000 := by
  unfold m_spec_l20Late; refine Tot.bind (T_l20Ended ho) fun e he => Tot.lt ?_; obtain ⟨H, p0, p1⟩ := he; have hS := H.sm; have h4 := H.four
  have j1 : ∀ (q : Rd) (a b : Hs), 0 ≤ q.p → q.p ≤ 3000 → HSm b → Tot (m_spec_l20Late_j1 q a b) fun r => HSm r.1 ∧ 0 ≤ r.2.p ∧ r.2.p ≤ 3000 := fun q a b h1 h2 h3 => by
    unfold m_spec_l20Late_j1; exact Tot.lt (Tot.ret ⟨h3, h1, h2⟩)
  refine Tot.bind (T_odd (by omega) (by omega)) fun w hw => Tot.bif (fun _ => ?_) (fun _ => j1 _ _ _ (by omega) (by omega) hS); refine Tot.bind (T_pick (by omega)) fun x hx => Tot.bind (T_pick (by omega)) fun y hy => Tot.bif (fun _ => ?_) (fun _ => Tot.bif (fun _ => ?_) (fun _ => ?_))
  · refine Tot.bind (T_pick (by omega)) fun z hz => Tot.at hx.1 (by omega) fun u hu => Tot.at hx.1 (by omega) fun v hv => Tot.lt (j1 _ _ _ (by omega) (by omega) (hS.set ?_))
    exact ⟨by show 1 ≤ 3000000; decide, (hS.tx v hv).wr, (hS.tx v hv).rows⟩
  · refine Tot.bind (T_l20Writes (by omega) (by decide)) fun z hz => Tot.at hx.1 (by omega) fun u hu => Tot.at hx.1 (by omega) fun v hv => Tot.lt (j1 _ _ _ (by omega) (by omega) (hS.set ?_))
    have hz' := wsDr_sm hz.1.1; exact ⟨(hS.tx v hv).rd, by show z.1.length ≤ 3000000; omega, hz'.2⟩
  · refine Tot.eq (x := ()) (by unfold rng?; rw [if_pos (by omega)]) (Tot.eq (x := ()) (by unfold leN; rw [if_pos (by show 0 + 2 ≤ e.1.Txns.length; omega)]) (Tot.lt (Tot.lt (j1 _ _ _ (by omega) (by omega) ⟨hS.len, hS.rows, ?_, fun t ht => ?_⟩))))
    · show ((e.1.Txns.drop 0).take _).length ≤ 3000000
      rw [List.length_take, List.length_drop]; omega
    · exact hS.tx t (List.mem_of_mem_drop (List.mem_of_mem_take ht))
theorem pure_FnBeside (l : List UInt8) : m_laws_FnBeside l = some true := by
  unfold m_laws_FnBeside
  by_cases hl : (l.length : Int) > 1048576
  · rw [decide_eq_true hl, cond_true]
  rw [decide_eq_false hl, cond_false]
  obtain ⟨d, ed, hd⟩ : Tot (m_spec_DrawBeside l) fun r => HSm r.1 := by
    unfold m_spec_DrawBeside; refine Tot.bind T_l20Open fun o ho => Tot.bind (T_l20Late ho (by decide)) fun r hr => Tot.bind (T_pick (by omega)) fun x hx => Tot.bind (T_pick (by omega)) fun y hy => Tot.bind (P := fun z => -100 ≤ z ∧ z ≤ 100) ⟨y.1 / 19, by unfold quoI; rw [if_neg (by decide), Int.tdiv_eq_ediv_of_nonneg hy.1, ckI_of (by omega) (by omega)], by omega⟩ fun z hz => Tot.ck (by omega) (by omega) (Tot.bind (T_pick (by omega)) fun u hu => Tot.lt (Tot.ret hr.1))
  rw [ed, Option.bind_some, ltE]; obtain ⟨r, h1, h2, h3⟩ := E_Beside hd d.2.1 d.2.2; obtain ⟨r', g1, g2, g3⟩ := E_Beside hd d.2.2 d.2.1; obtain ⟨q, k1, k2, k3⟩ := E_Beside hd d.2.1 d.2.1
  have er : r = r' := by
    rw [Bool.eq_iff_iff, h3, g3]; exact ⟨BesV.symm, BesV.symm⟩
  have eq : q = false := by
    cases hq : q with
    | false => rfl
    | true => exact absurd rfl (k3.1 hq).ne
  subst er; rw [h1, Option.bind_some, h2, Option.bind_some, g1, Option.bind_some, k1, Option.bind_some, eq, show (r == r) = true by cases r <;> rfl, cond_true, cond_true, Bool.not_false, cond_true, E_alive, Option.bind_some]; rfl
end Go.Proofs.Ytdkpmckpcejceaa
