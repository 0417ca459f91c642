/- What the mirrors come to, in plain Lean: the law itself at the end. -/
import Derived.Test.YtgepipglchpabaaXW5
import Derived.Test.YtgepipglchpabaaLd
set_option linter.unusedVariables false
set_option linter.unusedSimpArgs false
set_option linter.unnecessarySimpa false
namespace Go.Proofs.Ytgepipglchpabaa
open Go.Proofs Go.Lift
abbrev V := S_impl_Value
abbrev Row := List V
abbrev Rows := List Row

def cmpI (a b : Int) : Int := if a < b then -1 else if b < a then 1 else 0
def cmpS (a b : ByteArray) : Int := if sLt a b then -1 else if sLt a b || sEq a b then 0 else 1
def orI (l : List Int) : Int := (l.find? (· != 0)).getD 0
def lower (l : List UInt8) : Bool := l.all fun b => decide (97 ≤ b.toNat) && decide (b.toNat ≤ 122)
/-- A value is one. -/
def vOk (v : V) : Bool :=
  if v.Kind = 0 then decide (v = ⟨0, 0, ⟨#[]⟩⟩)
  else if v.Kind = 1 then decide (v.S = ⟨#[]⟩) && (decide (-9999 ≤ v.N) && decide (v.N ≤ 9999))
  else if v.Kind = 2 then decide (v.N = 0) && decide (v.S.size ≤ 6) && lower v.S.data.toList
  else if v.Kind = 3 then decide (v.S = ⟨#[]⟩) && (decide (0 ≤ v.N) && decide (v.N ≤ 1))
  else false
def vOrd (v w : V) : Int := orI [cmpI v.Kind w.Kind, cmpI v.N w.N, cmpS v.S w.S]
def rowOk (l : Row) : Bool := decide (l.length ≤ 4) && l.all vOk
/-- As memory holds it with ease. -/
def vSm (v : V) : Prop := v.S.size ≤ 1100000
def rSm (l : Row) : Prop := l.length ≤ 1100000 ∧ ∀ v ∈ l, vSm v
def cmpL {α : Type} (p : α → α → Int) : List α → List α → Int
  | [], [] => 0
  | [], _ :: _ => -1
  | _ :: _, [] => 1
  | a :: x, b :: y => if p a b = 0 then cmpL p x y else p a b
def vvOrd (a b : V) : Int := if vOk a && vOk b then vOrd a b else 0
theorem E_IndexFunc_V {l : Row} {p : V → Option Bool} {q : V → Bool} (hl : l.length ≤ 3000000) (hp : ∀ v ∈ l, p v = some (q v)) : m_slices_ContainsFunc_Limpl_Value_impl_Value l p = some (l.any q) := by
  unfold m_slices_ContainsFunc_Limpl_Value_impl_Value m_slices_IndexFunc_Limpl_Value_impl_Value
  have key : ∀ (ys : Row) (k n : Nat), l.drop k = ys → k ≤ l.length → ys.length < n → ∃ i : Int, m_slices_IndexFunc_Limpl_Value_impl_Value_l1 p n l (l.length : Int) (k : Int) = some i ∧ decide (i ≥ 0) = ys.any q := by
    intro ys
    induction ys with
    | nil =>
      intro k n hd hk hn
      have : k = l.length := by
        have := congrArg List.length hd
        simp at this; omega
      subst this
      obtain ⟨m, rfl⟩ : ∃ m, n = m + 1 := ⟨n - 1, by simp at hn; omega⟩
      exact ⟨-1, by simp only [m_slices_IndexFunc_Limpl_Value_impl_Value_l1, dnlt]; rfl, rfl⟩
    | cons y ys ih =>
      intro k n hd hk hn
      have hlt : k < l.length := by
        have := congrArg List.length hd
        simp at this; omega
      have hc := List.drop_eq_getElem_cons hlt
      rw [hd] at hc
      simp only [List.cons.injEq] at hc
      have hx : l[k]? = some y := by rw [List.getElem?_eq_getElem hlt, hc.1]
      obtain ⟨m, rfl⟩ : ∃ m, n = m + 1 := ⟨n - 1, by simp at hn; omega⟩
      simp only [m_slices_IndexFunc_Limpl_Value_impl_Value_l1, dlt hlt, at_of hx, hp y (List.mem_of_getElem? hx), ck1 (show k < 1000000000000 by omega), Option.bind_some, cond_true]
      cases hq : q y
      · obtain ⟨i, h1, h2⟩ := ih (k + 1) m hc.2.symm (by omega) (by simp at hn; omega)
        exact ⟨i, by simpa using h1, by rw [h2]; simp [hq]⟩
      · exact ⟨(k : Int), rfl, by simp [hq]⟩
  obtain ⟨i, h1, h2⟩ := key l 0 _ rfl (by omega) (show l.length < (((l.length : Int) - 0).toNat + 1) by omega)
  rw [show ((0 : Nat) : Int) = 0 from rfl] at h1
  rw [h1]
  simp only [Option.bind_some, h2]
theorem E_between (a b c : Int) : m_impl_between a b c = some (decide (b ≤ a) && decide (a ≤ c)) := by
  unfold m_impl_between m_impl_between_j1
  by_cases h : a ≥ b <;> simp [h]
theorem E_l1In (a b c : Int) : m_spec_l1In a b c = some (decide (b ≤ a) && decide (a ≤ c)) := by
  unfold m_spec_l1In m_spec_l1In_j1
  by_cases h : a ≥ b <;> simp [h]
theorem lower_any (l : List UInt8) : lower l = !(l.any fun b => !(decide (97 ≤ (b.toNat : Int)) && decide ((b.toNat : Int) ≤ 122))) := by
  unfold lower
  rw [List.all_eq_not_any_not]
  congr 2
  funext b
  congr 1
  have h1 : decide (97 ≤ b.toNat) = decide (97 ≤ (b.toNat : Int)) := by rw [decide_eq_decide]; omega
  have h2 : decide (b.toNat ≤ 122) = decide ((b.toNat : Int) ≤ 122) := by rw [decide_eq_decide]; omega
  rw [h1, h2]
theorem E_letters {s : ByteArray} (h : s.size ≤ 3000000) : m_impl_letters s = some (lower s.data.toList) := by
  unfold m_impl_letters sBytes?
  rw [if_pos (by omega)]
  simp only [Option.bind_some]
  have hl : s.data.toList.length ≤ 3000000 := h
  have := scanA (p := fun b : UInt8 => !(decide (97 ≤ (b.toNat : Int)) && decide ((b.toNat : Int) ≤ 122))) (r0 := false) (r1 := true) s.data.toList (fun n k => m_impl_letters_l1 n s.data.toList (s.data.toList.length : Int) k) (fun n k x hx => by
    have := lt_of_at hx
    simp only [m_impl_letters_l1, dlt this, at_of hx, E_between, ck1 (show k < 1000000000000 by omega), Option.bind_some, cond_true]) (fun n => by simp only [m_impl_letters_l1, dnlt]; rfl) _ fuel0
  rw [this, lower_any]
  cases s.data.toList.any fun b => !(decide (97 ≤ (b.toNat : Int)) && decide ((b.toNat : Int) ≤ 122)) <;> rfl
theorem sAt_of {s : ByteArray} {k : Nat} {x : UInt8} (h : s.data.toList[k]? = some x) : sAt? s (k : Int) = some x := by
  unfold sAt?
  rw [if_pos (by omega)]
  obtain ⟨h1, h2⟩ := List.getElem?_eq_some_iff.1 h
  have hs : k < s.size := by have := h1; rwa [Array.length_toList] at this
  have : s[k]? = some (s[k]'hs) := by simp [hs]
  rw [Int.toNat_natCast, this]
  congr 1
theorem E_l1Text {s : ByteArray} (h : s.size ≤ 3000000) : m_spec_l1Text s = some (lower s.data.toList && decide (s.size ≤ 6)) := by
  unfold m_spec_l1Text
  have hl : s.data.toList.length = s.size := rfl
  rw [← hl]
  have := scanA (p := fun b : UInt8 => !(decide (97 ≤ (b.toNat : Int)) && decide ((b.toNat : Int) ≤ 122))) (r0 := false) (r1 := decide ((s.size : Int) ≤ 6)) s.data.toList (fun n k => m_spec_l1Text_l1 n s k) (fun n k x hx => by
    have := lt_of_at hx
    have hd : decide ((k : Int) < (s.size : Int)) = true := by rw [← hl]; exact dlt this
    simp only [m_spec_l1Text_l1, m_spec_l1Text_j1, hd, sAt_of hx, ck1 (show k < 1000000000000 by omega), Option.bind_some, cond_true]
    have e1 : ((97 : UInt8).toNat : Int) = 97 := rfl
    have e2 : ((122 : UInt8).toNat : Int) = 122 := rfl
    rw [e1, e2]
    by_cases h1 : (x.toNat : Int) < 97
    · have : ¬ (97 ≤ (x.toNat : Int)) := by omega
      simp [h1, this]
    · have h1' : 97 ≤ (x.toNat : Int) := by omega
      by_cases h2 : (x.toNat : Int) > 122
      · have : ¬ ((x.toNat : Int) ≤ 122) := by omega
        simp [h1, h2, this]
      · have : (x.toNat : Int) ≤ 122 := by omega
        simp [h1, h2, this, h1']) (fun n => by simp only [m_spec_l1Text_l1, hl, dnlt]; rfl) _ fuel0
  rw [this, lower_any]
  have e : decide ((s.size : Int) ≤ 6) = decide (s.size ≤ 6) := by rw [decide_eq_decide]; omega
  rw [e]
  cases s.data.toList.any fun b => !(decide (97 ≤ (b.toNat : Int)) && decide ((b.toNat : Int) ≤ 122)) <;> simp
theorem E_Value_ok {v : V} (h : v.S.size ≤ 3000000) : m_impl_Value_ok v = some (vOk v) := by
  unfold m_impl_Value_ok m_impl_Value_ok_j1 m_impl_Value_ok_j2 m_impl_Value_ok_j3 vOk
  simp only [E_between, E_letters h, Option.bind_some, sEq_eq]
  by_cases h0 : v.Kind = 0
  · simp [h0]
  · by_cases h1 : v.Kind = 1
    · by_cases hs : v.S = ⟨#[]⟩ <;> simp [beqF h0, h0, h1, hs]
    · by_cases h2 : v.Kind = 2
      · by_cases hn : v.N = 0
        · by_cases hs : v.S.size ≤ 6
          · have : (v.S.size : Int) ≤ 6 := by omega
            simp [beqF h0, beqF h1, h0, h1, h2, hn, hs, this]
          · have : ¬ (v.S.size : Int) ≤ 6 := by omega
            simp [beqF h0, beqF h1, h0, h1, h2, hn, hs, this]
        · simp [beqF h0, beqF h1, h0, h1, h2, beqF hn, hn]
      · by_cases h3 : v.Kind = 3
        · by_cases hs : v.S = ⟨#[]⟩ <;> simp [beqF h0, beqF h1, beqF h2, h0, h1, h2, h3, hs]
        · simp [beqF h0, beqF h1, beqF h2, beqF h3, h0, h1, h2, h3]
theorem E_spec_ValueOk {v : V} (h : v.S.size ≤ 3000000) : m_spec_ValueOk v = some (vOk v) := by
  unfold m_spec_ValueOk m_spec_ValueOk_j1 m_spec_ValueOk_j2 m_spec_ValueOk_j3 m_spec_ValueOk_j4 vOk
  simp only [E_l1In, E_l1Text h, Option.bind_some, sEq_eq]
  obtain ⟨k, n, s⟩ := v
  simp only [S_impl_Value.mk.injEq]
  by_cases h0 : k = 0
  · by_cases hn : n = 0
    · simp [h0, hn]
    · simp [h0, hn, beqF hn]
  · by_cases h1 : k = 1
    · by_cases hs : s = ⟨#[]⟩ <;> by_cases ha : -9999 ≤ n <;> by_cases hb : n ≤ 9999 <;> simp [beqF h0, h0, h1, hs, ha, hb]
    · by_cases h2 : k = 2
      · by_cases hn : n = 0
        · simp [beqF h0, beqF h1, h0, h1, h2, hn, Bool.and_comm]
        · simp [beqF h0, beqF h1, h0, h1, h2, beqF hn, hn]
      · by_cases h3 : k = 3
        · by_cases hs : s = ⟨#[]⟩ <;> by_cases ha : 0 ≤ n <;> by_cases hb : n ≤ 1 <;> simp [beqF h0, beqF h1, beqF h2, h0, h1, h2, h3, hs, ha, hb]
        · simp [beqF h0, beqF h1, beqF h2, beqF h3, h0, h1, h2, h3]
theorem E_impl_RowOk {l : Row} (h : rSm l) : m_impl_RowOk l = some (rowOk l) := by
  unfold m_impl_RowOk m_impl_RowOk_j1 rowOk
  obtain ⟨h1, h2⟩ := h
  rw [E_IndexFunc_V (q := fun v => !(vOk v)) (by omega) (fun v hv => by unfold m_impl_RowOk_1; rw [E_Value_ok (by have := h2 v hv; unfold vSm at this; omega)]; rfl)]
  simp only [Option.bind_some]
  rw [List.all_eq_not_any_not]
  by_cases h : l.length ≤ 4
  · have : (l.length : Int) ≤ 4 := by omega
    simp [h, this]
  · have : ¬ (l.length : Int) ≤ 4 := by omega
    simp [h, this]
theorem E_spec_RowOk {l : Row} (h : rSm l) : m_spec_RowOk l = some (rowOk l) := by
  unfold m_spec_RowOk rowOk
  obtain ⟨h1, h2⟩ := h
  have := scanA (p := fun v => !(vOk v)) (r0 := false) (r1 := decide ((l.length : Int) ≤ 4)) l (fun n k => m_spec_RowOk_l1 n l k) (fun n k x hx => by
    have := lt_of_at hx
    have hsm := h2 x (List.mem_of_getElem? hx)
    unfold vSm at hsm
    simp only [m_spec_RowOk_l1, dlt this, at_of hx, E_spec_ValueOk (show x.S.size ≤ 3000000 by omega), ck1 (show k < 1000000000000 by omega), Option.bind_some, cond_true]) (fun n => by simp only [m_spec_RowOk_l1, dnlt]; rfl) _ fuel0
  rw [this, List.all_eq_not_any_not]
  have e : decide ((l.length : Int) ≤ 4) = decide (l.length ≤ 4) := by rw [decide_eq_decide]; omega
  rw [e]
  cases l.any fun v => !(vOk v) <;> simp
theorem E_alive : m_laws_alive = some true := by
  unfold m_laws_alive m_laws_alive_j1 m_impl_ValueOk
  rw [E_Value_ok (by decide), E_Value_ok (by decide)]
  rfl
theorem E_CompareI (a b : Int) : m_cmp_Compare_int a b = some (cmpI a b) := by
  unfold m_cmp_Compare_int m_cmp_isNaN_int cmpI
  have e : ∀ x : Int, (x != x) = false := fun x => by simp
  simp only [e, Option.bind_some, cond_false]
  by_cases h : a < b
  · simp [h]
  · by_cases h2 : a > b
    · simp [h, h2]
    · simp [h, h2]
theorem E_CompareS (a b : ByteArray) : m_cmp_Compare_string a b = some (cmpS a b) := by
  unfold m_cmp_Compare_string m_cmp_isNaN_string cmpS
  have e : ∀ x : ByteArray, (!(sEq x x)) = false := fun x => by simp [sEq_eq]
  simp only [e, Option.bind_some, cond_false]
  cases h1 : sLt a b <;> cases h2 : sEq a b <;> simp
theorem E_l1Cmp (a b : ByteArray) : m_spec_l1Cmp a b = some (cmpS a b) := by
  unfold m_spec_l1Cmp cmpS
  cases h1 : sLt a b <;> cases h2 : sEq a b <;> simp
theorem E_Or {l : List Int} (h : l.length ≤ 3000000) : m_cmp_Or_int l = some (orI l) := by
  unfold m_cmp_Or_int
  rw [scanC l (fun n k (_ : Unit) => m_cmp_Or_int_l1 n 0 l (l.length : Int) k) (fun x s k => bif (x != 0) then some x else k s) (fun _ => some 0) (fun n k x s hx => by
    have := lt_of_at hx
    rw [m_cmp_Or_int_l1, dlt this, cond_true, at_of hx, Option.bind_some, ck1 (show k < 1000000000000 by omega), Option.bind_some]) (fun n s => by rw [m_cmp_Or_int_l1, dnlt]; rfl) _ fuel0 ()]
  clear h
  unfold orI
  induction l with
  | nil => rfl
  | cons x l ih =>
    simp only [foldC, List.find?_cons]
    cases hx : (x != 0)
    · simpa using ih
    · rfl
theorem E_order (v w : V) : m_impl_Value_order v w = some (vOrd v w) := by
  unfold m_impl_Value_order vOrd
  rw [E_CompareI, Option.bind_some, E_CompareI, Option.bind_some, E_CompareS, Option.bind_some, E_Or (by simp)]
  rfl
def lessI (a b : Int) : Int := if a < b then 1 else 0
theorem E_Less (a b : Int) : m_spec_l1Less a b = some (lessI a b) := by
  unfold m_spec_l1Less lessI
  by_cases h : a < b <;> simp [h]
theorem less_b (a b : Int) : 0 ≤ lessI a b ∧ lessI a b ≤ 1 := by unfold lessI; split <;> omega
theorem orI_1 {x : Int} {l : List Int} (h : x ≠ 0) : orI (x :: l) = x := by simp [orI, h]
theorem orI_0 {l : List Int} : orI (0 :: l) = orI l := by simp [orI]
theorem cmpI_0 {a b : Int} : cmpI a b = 0 ↔ a = b := by unfold cmpI; split <;> (try split) <;> omega
theorem less_cmp {a b : Int} (h : a ≠ b) : 2 * lessI b a - 1 = cmpI a b := by unfold lessI cmpI; split <;> split <;> (try split) <;> omega
theorem E_ValueOrder {a b : V} (ha : vSm a) (hb : vSm b) : m_spec_ValueOrder a b = some (vvOrd a b) := by
  unfold m_spec_ValueOrder m_spec_ValueOrder_j1 vvOrd vOrd
  unfold vSm at ha hb
  rw [E_spec_ValueOk (by omega), Option.bind_some, E_spec_ValueOk (by omega), Option.bind_some]
  cases vOk a
  · rfl
  cases vOk b
  · rfl
  simp only [Bool.not_true, cond_false, Bool.and_self, if_true, E_Less, E_l1Cmp, Option.bind_some]
  by_cases h1 : a.Kind = b.Kind
  · have : (a.Kind != b.Kind) = false := by simp [h1]
    rw [this, cond_false, cmpI_0.2 h1, orI_0]
    by_cases h2 : a.N = b.N
    · have : (a.N != b.N) = false := by simp [h2]
      rw [this, cond_false, cmpI_0.2 h2, orI_0]
      by_cases h3 : cmpS a.S b.S = 0
      · rw [h3, orI_0]; rfl
      · rw [orI_1 h3]
    · rw [beqF' h2, cond_true, orI_1 (by rw [ne_eq, cmpI_0]; exact h2), ← less_cmp h2]
      have := less_b b.N a.N
      rw [ckI_of (by omega) (by omega), Option.bind_some, ckI_of (by omega) (by omega), Option.bind_some]
  · rw [beqF' h1, cond_true, orI_1 (by rw [ne_eq, cmpI_0]; exact h1), ← less_cmp h1]
    have := less_b b.Kind a.Kind
    rw [ckI_of (by omega) (by omega), Option.bind_some, ckI_of (by omega) (by omega), Option.bind_some]
abbrev Rd := S_spec_l20Rd
def Rd.ok (o : Rd) : Prop := 0 ≤ o.p ∧ o.p ≤ 1000000000
theorem tmod_b {m n : Int} (h : 0 ≤ m) (hn : 0 < n) : 0 ≤ m.tmod n ∧ m.tmod n < n := ⟨Int.tmod_nonneg n h, Int.tmod_lt_of_pos m hn⟩
theorem tdiv_b {m n : Int} (h : 0 ≤ m) (hn : 0 < n) : 0 ≤ m.tdiv n ∧ m.tdiv n ≤ m := ⟨Int.tdiv_nonneg h (Int.le_of_lt hn), Int.tdiv_le_self _ h⟩
theorem T_pick {o : Rd} {n : Int} (ho : 0 ≤ o.p ∧ o.p ≤ 1000000000) : Tot (m_Pspec_l20Rd_pick o n) fun r => 0 ≤ r.1 ∧ (r.1 < n ∨ r.1 = 0) ∧ r.2.p = o.p + 1 := by
  unfold m_Pspec_l20Rd_pick
  refine Tot.ck (by omega) (by omega) (Tot.lt ?_)
  refine Tot.bif (fun h => ?_) (fun h => ?_)
  · unfold m_Pspec_l20Rd_pick_j1
    exact Tot.ret ⟨Int.le_refl _, .inr rfl, rfl⟩
  · simp only [decide_eq_false_iff_not] at h
    unfold m_Pspec_l20Rd_pick_j1
    refine Tot.bif (fun h2 => Tot.ret ⟨Int.le_refl _, .inr rfl, rfl⟩) (fun h2 => ?_)
    have hb : 0 < (o.b.length : Int) := by simp at h2; have := List.length_pos_iff.2 h2; omega
    refine Tot.ck (by simp only; omega) (by simp only; omega) ?_
    have e : (o.p + 1 - 1) = o.p := by omega
    simp only [e]
    refine Tot.bif (fun h3 => ?_) (fun h3 => ?_)
    · simp only [decide_eq_true_eq] at h3
      refine Tot.at (by omega) h3 (fun x _ => ?_)
      refine Tot.rem (by omega) (Tot.ret ?_)
      have := tmod_b (m := (x.toNat : Int)) (n := n) (by omega) (by omega)
      exact ⟨this.1, .inl this.2, rfl⟩
    · have m1 := tmod_b (m := o.p) (n := o.b.length) (by omega) hb
      refine Tot.rem (by omega) (Tot.at m1.1 m1.2 (fun x _ => ?_))
      have hx := x.toNat_lt
      refine Tot.ck (by omega) (by omega) (Tot.ck (by omega) (by omega) (Tot.ck (by omega) (by omega) ?_))
      have m2 := tmod_b (m := o.p * 7 + 3) (n := o.b.length) (by omega) hb
      refine Tot.rem (by omega) (Tot.at m2.1 m2.2 (fun y _ => ?_))
      have hy := y.toNat_lt
      refine Tot.ck (by omega) (by omega) (Tot.ck (by omega) (by omega) (Tot.ck (by omega) (by omega) (Tot.ck (by omega) (by omega) ?_)))
      have d1 := tdiv_b (m := o.p) (n := o.b.length) (by omega) hb
      refine Tot.quo (by omega) (by omega) (by omega) (Tot.ck (by omega) (by omega) (Tot.ck (by omega) (by omega) ?_))
      have hz : 0 ≤ (x.toNat : Int) * 131 + (y.toNat : Int) * 1117 + o.p * 29 + o.p.tdiv o.b.length * 53 ∧ (x.toNat : Int) * 131 + (y.toNat : Int) * 1117 + o.p * 29 + o.p.tdiv o.b.length * 53 < 1000000000000 := by omega
      generalize (x.toNat : Int) * 131 + (y.toNat : Int) * 1117 + o.p * 29 + o.p.tdiv o.b.length * 53 = z at hz ⊢
      have d2 := tdiv_b (m := z) (n := 64) (by omega) (by omega)
      refine Tot.quo (by omega) (by omega) (by omega) (Tot.xor (by omega) (fun u h4 h5 => Tot.rem (by omega) (Tot.ret ?_)))
      have := tmod_b (m := u) (n := n) (by omega) (by omega)
      exact ⟨this.1, .inl this.2, rfl⟩
theorem T_odd {o : Rd} {n : Int} (ho : 0 ≤ o.p ∧ o.p ≤ 1000000000) (hn : -3000000 ≤ n ∧ n ≤ 3000000) : Tot (m_Pspec_l20Rd_odd o n) fun r => o.p ≤ r.2.p ∧ r.2.p ≤ o.p + 1 := by
  unfold m_Pspec_l20Rd_odd m_Pspec_l20Rd_odd_j1
  refine Tot.bif (fun h => ?_) (fun h => Tot.ret ⟨Int.le_refl _, by simp only; omega⟩)
  refine Tot.bind (T_pick ho) (fun r hr => ?_)
  exact Tot.ck (by omega) (by omega) (Tot.ret ⟨by simp only; omega, by simp only; omega⟩)
/-- A value that was drawn. -/
def vDr (v : V) : Prop := v.S.size ≤ 20 ∧ -10000 ≤ v.N ∧ v.N ≤ 10000 ∧ -10 ≤ v.Kind ∧ v.Kind ≤ 10
theorem T_l20Value_j3 {n : Int} {o : Rd} {v w : V} (ho : 0 ≤ o.p ∧ o.p ≤ 1000000000 - 10) (hn : -3000000 ≤ n ∧ n ≤ 3000000) (hv : w.S.size ≤ 10 ∧ -10000 ≤ w.N ∧ w.N ≤ 10000 ∧ -10 ≤ w.Kind ∧ w.Kind ≤ 10) : Tot (m_spec_l20Value_j3 n o v w) fun r => vDr r.1 ∧ o.p ≤ r.2.p ∧ r.2.p ≤ o.p + 5 := by
  unfold m_spec_l20Value_j3 m_spec_l20Value_j4
  refine Tot.bind (T_odd (by omega) hn) (fun r hr => ?_)
  refine Tot.bif (fun _ => ?_) (fun _ => ?_)
  · refine Tot.bind (T_pick (by omega)) (fun q hq => ?_)
    refine Tot.bif (fun _ => ?_) (fun _ => Tot.bif (fun _ => ?_) (fun _ => Tot.bif (fun _ => ?_) (fun _ => ?_)))
    · refine Tot.lt (Tot.lt (Tot.ret ⟨⟨by simp only; omega, by simp only; omega, by simp only; omega, by simp only; omega, by simp only; omega⟩, by simp only; omega, by simp only; omega⟩))
    · refine Tot.cat (by rw [show ByteArray.size ⟨#[97, 98, 99, 100, 101, 102, 103]⟩ = 7 from rfl]; omega) (Tot.lt (Tot.lt (Tot.ret ⟨⟨?_, by simp only; omega, by simp only; omega, by simp only; omega, by simp only; omega⟩, by simp only; omega, by simp only; omega⟩)))
      simp only [ByteArray.size_append]
      rw [show ByteArray.size ⟨#[97, 98, 99, 100, 101, 102, 103]⟩ = 7 from rfl]; omega
    · refine Tot.bind (T_pick (by omega)) (fun u hu => ?_)
      refine Tot.ck (by omega) (by omega) (Tot.lt (Tot.lt (Tot.ret ⟨⟨by simp only; omega, by simp only; omega, by simp only; omega, by simp only; omega, by simp only; omega⟩, by simp only; omega, by simp only; omega⟩)))
    · refine Tot.cat (by rw [show ByteArray.size ⟨#[65]⟩ = 1 from rfl]; omega) (Tot.lt (Tot.lt (Tot.ret ⟨⟨?_, by simp only; omega, by simp only; omega, by simp only; omega, by simp only; omega⟩, by simp only; omega, by simp only; omega⟩)))
      simp only [ByteArray.size_append]
      rw [show ByteArray.size ⟨#[65]⟩ = 1 from rfl]; omega
  · exact Tot.lt (Tot.ret ⟨⟨by simp only; omega, by simp only; omega, by simp only; omega, by simp only; omega, by simp only; omega⟩, by simp only; omega, by simp only; omega⟩)
theorem T_l20Value_l1 {n : Int} {v : V} (hn : -3000000 ≤ n ∧ n ≤ 3000000) {p : Int} (hp : 0 ≤ p ∧ p ≤ 1000000000 - 20) : ∀ (f : Nat) (t : Int) (s : Rd × V), 0 ≤ t → t < f → (t ≤ 4 ∧ p ≤ s.1.p ∧ s.1.p + t ≤ p + 4 ∧ (s.2.S.size : Int) + t ≤ 4 ∧ -10000 ≤ s.2.N ∧ s.2.N ≤ 10000 ∧ -10 ≤ s.2.Kind ∧ s.2.Kind ≤ 10) →
    Tot (m_spec_l20Value_l1 f n t s.1 v s.2) fun r => vDr r.1 ∧ p ≤ r.2.p ∧ r.2.p ≤ p + 9 := by
  refine Tot.down (fun f t (s : Rd × V) => m_spec_l20Value_l1 f n t s.1 v s.2) _ (fun f s h => ?_) (fun f t s ht h ih => ?_)
  · rw [m_spec_l20Value_l1, show decide ((0 : Int) > 0) = false from rfl, cond_false]
    exact (T_l20Value_j3 (by omega) hn ⟨by omega, by omega, by omega, by omega, by omega⟩).mono fun r hr => ⟨hr.1, by omega, by omega⟩
  · rw [m_spec_l20Value_l1, decide_eq_true (show t > 0 by omega), cond_true]
    refine Tot.bind (T_pick (by omega)) (fun r hr => ?_)
    refine Tot.ck (by omega) (by omega) (Tot.cat ?_ (Tot.lt (Tot.ck (by omega) (by omega) ?_)))
    · rw [show (bStr [Lift.byteOf (97 + r.1)]).size = 1 from rfl]; omega
    · refine ih (r.2, { s.2 with S := s.2.S ++ bStr [Lift.byteOf (97 + r.1)] }) ⟨by omega, by simp only; omega, by simp only; omega, ?_, by simp only; omega, by simp only; omega, by simp only; omega, by simp only; omega⟩
      simp only [ByteArray.size_append]
      rw [show (bStr [Lift.byteOf (97 + r.1)]).size = 1 from rfl]; omega
theorem T_l20Value {o : Rd} {n : Int} (ho : 0 ≤ o.p ∧ o.p ≤ 1000000000 - 100) (hn : -3000000 ≤ n ∧ n ≤ 3000000) : Tot (m_spec_l20Value o n) fun r => vDr r.1 ∧ o.p ≤ r.2.p ∧ r.2.p ≤ o.p + 15 := by
  unfold m_spec_l20Value
  have e0 : ByteArray.size ⟨#[]⟩ = 0 := rfl
  have j2 : ∀ (b : Bool) (q : Rd) (v w : V), o.p ≤ q.p → q.p ≤ o.p + 2 → w.S.size = 0 → w.N = 0 → w.Kind = 0 → Tot (m_spec_l20Value_j2 n b q v w) fun r => vDr r.1 ∧ o.p ≤ r.2.p ∧ r.2.p ≤ o.p + 15 := by
    intro b q v w h1 h2 h3 h4 h5
    unfold m_spec_l20Value_j2
    refine Tot.bif (fun _ => Tot.lt ?_) (fun _ => ?_)
    · refine Tot.bind (T_pick (by omega)) (fun r hr => ?_)
      exact (T_l20Value_l1 (v := v) hn (p := r.2.p) (by omega) _ r.1 (r.2, ⟨2, 0, ⟨#[]⟩⟩) (by omega) (by omega) ⟨by omega, by simp only; omega, by simp only; omega, by simp only [e0]; omega, by first | decide | omega | (simp only; omega), by first | decide | omega | (simp only; omega), by first | decide | omega | (simp only; omega), by first | decide | omega | (simp only; omega)⟩).mono fun x hx => ⟨hx.1, by omega, by omega⟩
    · refine Tot.bind (T_pick (by omega)) (fun r hr => Tot.lt ?_)
      exact (T_l20Value_j3 (by omega) hn ⟨by simp only [e0]; omega, by simp only; omega, by simp only; omega, by first | decide | omega | (simp only; omega), by first | decide | omega | (simp only; omega)⟩).mono fun x hx => ⟨hx.1, by omega, by omega⟩
  have j1 : ∀ (t : Int) (b : Bool) (q : Rd) (v w : V), o.p ≤ q.p → q.p ≤ o.p + 1 → w.S.size = 0 → w.N = 0 → w.Kind = 0 → Tot (m_spec_l20Value_j1 n t b q v w) fun r => vDr r.1 ∧ o.p ≤ r.2.p ∧ r.2.p ≤ o.p + 15 := by
    intro t b q v w h1 h2 h3 h4 h5
    unfold m_spec_l20Value_j1
    refine Tot.bif (fun _ => ?_) (fun _ => Tot.bif (fun _ => j2 _ _ _ _ h1 (by omega) h3 h4 h5) (fun _ => j2 _ _ _ _ h1 (by omega) h3 h4 h5))
    refine Tot.bind (T_pick (by omega)) (fun r hr => Tot.ck (by omega) (by omega) (Tot.lt ?_))
    refine Tot.bind (T_pick (by omega)) (fun u hu => Tot.bif (fun _ => ?_) (fun _ => ?_))
    · refine Tot.bind (T_pick (by omega)) (fun x hx => Tot.at (by omega) (by simp only [List.length_cons, List.length_nil]; omega) (fun y hy => Tot.lt ?_))
      have hy' : -10000 ≤ y ∧ y ≤ 10000 := by simp at hy; omega
      exact (T_l20Value_j3 (by omega) hn ⟨by simp only [e0]; omega, by simp only; omega, by simp only; omega, by first | decide | omega | (simp only; omega), by first | decide | omega | (simp only; omega)⟩).mono fun x hx => ⟨hx.1, by omega, by omega⟩
    · exact (T_l20Value_j3 (by omega) hn ⟨by simp only [e0]; omega, by simp only; omega, by simp only; omega, by first | decide | omega | (simp only; omega), by first | decide | omega | (simp only; omega)⟩).mono fun x hx => ⟨hx.1, by omega, by omega⟩
  refine Tot.lt (Tot.bind (T_pick (by omega)) (fun r hr => ?_))
  refine Tot.bif (fun _ => ?_) (fun _ => Tot.bif (fun _ => ?_) (fun _ => Tot.bif (fun _ => ?_) (fun _ => ?_)))
  · exact (T_l20Value_j3 (by omega) hn ⟨by simp only [e0]; omega, by simp only; omega, by simp only; omega, by first | decide | omega | (simp only; omega), by first | decide | omega | (simp only; omega)⟩).mono fun x hx => ⟨hx.1, by omega, by omega⟩
  · exact j1 _ _ _ _ _ (by omega) (by omega) rfl rfl rfl
  · exact j1 _ _ _ _ _ (by omega) (by omega) rfl rfl rfl
  · exact j1 _ _ _ _ _ (by omega) (by omega) rfl rfl rfl
def cDr (c : S_impl_Column) : Prop := -10 ≤ c.Kind ∧ c.Kind ≤ 10
theorem T_l20Like {o : Rd} {c : S_impl_Column} (ho : 0 ≤ o.p ∧ o.p ≤ 1000000000 - 100) : Tot (m_spec_l20Like o c) fun r => vDr r.1 ∧ o.p ≤ r.2.p ∧ r.2.p ≤ o.p + 3 := by
  unfold m_spec_l20Like
  have e0 : ByteArray.size ⟨#[]⟩ = 0 := rfl
  have j1 : ∀ (b : Bool) (q : Rd) (v : V), o.p ≤ q.p → q.p ≤ o.p + 1 → Tot (m_spec_l20Like_j1 c b q v) fun r => vDr r.1 ∧ o.p ≤ r.2.p ∧ r.2.p ≤ o.p + 3 := by
    intro b q v h1 h2
    unfold m_spec_l20Like_j1
    refine Tot.bif (fun _ => Tot.lt (Tot.ret ⟨⟨by first | decide | omega | (simp only; omega), by first | decide | omega | (simp only; omega), by first | decide | omega | (simp only; omega), by first | decide | omega | (simp only; omega), by first | decide | omega | (simp only; omega)⟩, h1, by simp only; omega⟩)) (fun _ => Tot.bif (fun _ => ?_) (fun _ => Tot.bif (fun _ => ?_) (fun _ => ?_)))
    · refine Tot.bind (T_pick (by omega)) (fun r hr => Tot.lt (Tot.ret ⟨⟨by simp only [e0]; omega, by simp only; omega, by simp only; omega, by simp only; omega, by simp only; omega⟩, by simp only; omega, by simp only; omega⟩))
    · refine Tot.bind (T_pick (by omega)) (fun r hr => Tot.at (by omega) (by simp only [List.length_cons, List.length_nil]; omega) (fun y hy => Tot.lt (Tot.ret ⟨⟨?_, by simp only; omega, by simp only; omega, by simp only; omega, by simp only; omega⟩, by simp only; omega, by simp only; omega⟩)))
      simp only [List.mem_cons, List.mem_nil_iff, or_false] at hy
      rcases hy with rfl | rfl | rfl | rfl <;> exact Nat.le_of_ble_eq_true rfl
    · refine Tot.bind (T_pick (by omega)) (fun r hr => Tot.lt (Tot.ret ⟨⟨by simp only [e0]; omega, by simp only; omega, by simp only; omega, by simp only; omega, by simp only; omega⟩, by simp only; omega, by simp only; omega⟩))
  refine Tot.bif (fun _ => Tot.bind (T_pick (by omega)) (fun r hr => j1 _ _ _ (by omega) (by omega))) (fun _ => j1 _ _ _ (by omega) (by omega))
theorem T_l20Columns {o : Rd} {n : Int} (ho : 0 ≤ o.p ∧ o.p ≤ 1000000000 - 100) (hn : -3000000 ≤ n ∧ n ≤ 3000000) : Tot (m_spec_l20Columns o n) fun r => (1 ≤ r.1.length ∧ r.1.length ≤ 6 ∧ ∀ c ∈ r.1, cDr c) ∧ o.p ≤ r.2.p ∧ r.2.p ≤ o.p + 20 := by
  unfold m_spec_l20Columns
  refine Tot.bind (T_pick (by omega)) (fun r hr => Tot.ck (by omega) (by omega) ?_)
  refine Tot.down (fun f t (s : Rd × List S_impl_Column) => m_spec_l20Columns_l1 f n t s.1 s.2) (fun t s => t ≤ 3 ∧ r.2.p ≤ s.1.p ∧ s.1.p + 2 * t ≤ r.2.p + 6 ∧ (s.2.length : Int) + t = 1 + r.1 ∧ ∀ c ∈ s.2, cDr c) (fun f s h => ?_) (fun f t s ht h ih => ?_) _ (1 + r.1) (r.2, []) (by omega) (by omega) ⟨by omega, by simp only; omega, by simp only; omega, by first | (simp; done) | (simp; omega), by simp⟩
  · obtain ⟨g1, g2, g3, g4, g5⟩ := h
    rw [m_spec_l20Columns_l1, show decide ((0 : Int) > 0) = false from rfl, cond_false]
    unfold m_spec_l20Columns_j1 m_spec_l20Columns_j2
    refine Tot.bind (T_odd (by omega) hn) (fun q hq => Tot.bif (fun _ => ?_) (fun _ => Tot.ret ⟨⟨by simp only; omega, by simp only; omega, g5⟩, by simp only; omega, by simp only; omega⟩))
    refine Tot.bind (T_pick (by omega)) (fun u hu => Tot.ck (by omega) (by omega) (Tot.app (by simp only [List.length_cons, List.length_nil]; omega) (Tot.ret ⟨⟨by first | (simp; done) | (simp; omega), by first | (simp; done) | (simp; omega), ?_⟩, by simp only; omega, by simp only; omega⟩)))
    intro c hc
    simp only [List.mem_append, List.mem_cons, List.mem_nil_iff, or_false] at hc
    rcases hc with hc | rfl | rfl | rfl
    · exact g5 c hc
    · exact ⟨by simp only; omega, by simp only; omega⟩
    · exact ⟨by first | decide | omega | (simp only; omega), by first | decide | omega | (simp only; omega)⟩
    · exact ⟨by first | decide | omega | (simp only; omega), by first | decide | omega | (simp only; omega)⟩
  · obtain ⟨g1, g2, g3, g4, g5⟩ := h
    rw [m_spec_l20Columns_l1, decide_eq_true (show t > 0 by omega), cond_true]
    refine Tot.bind (T_pick (by omega)) (fun x hx => Tot.at (by omega) (by simp only [List.length_cons, List.length_nil]; omega) (fun y hy => ?_))
    have hy' : -10 ≤ y ∧ y ≤ 10 := by simp at hy; omega
    refine Tot.bind (T_pick (by omega)) (fun z hz => Tot.app (by simp only [List.length_cons, List.length_nil]; omega) (Tot.ck (by omega) (by omega) ?_))
    refine ih (z.2, s.2 ++ [⟨y, decide (z.1 > 0)⟩]) ⟨by omega, by simp only; omega, by simp only; omega, by first | (simp; done) | (simp; omega), ?_⟩
    intro c hc
    simp only [List.mem_append, List.mem_cons, List.mem_nil_iff, or_false] at hc
    rcases hc with hc | rfl
    · exact g5 c hc
    · exact hy'
/-- A row that was drawn. -/
def rDr (r : Row) : Prop := r.length ≤ 9 ∧ ∀ v ∈ r, vDr v
theorem T_l20Fit {o : Rd} {cs : List S_impl_Column} {n : Int} (ho : 0 ≤ o.p ∧ o.p ≤ 1000000000 - 1000) (hn : -3000000 ≤ n ∧ n ≤ 3000000) (hc : cs.length ≤ 6) : Tot (m_spec_l20Fit o cs n) fun r => rDr r.1 ∧ o.p ≤ r.2.p ∧ r.2.p ≤ o.p + 80 := by
  unfold m_spec_l20Fit
  refine Tot.up (cs.length : Int) (fun f t (s : Rd × Row) => m_spec_l20Fit_l1 f cs n t s.1 s.2) (fun t s => o.p ≤ s.1.p ∧ s.1.p ≤ o.p + 3 * t ∧ (s.2.length : Int) = t ∧ ∀ v ∈ s.2, vDr v) (fun f s h => ?_) (fun f t s h0 ht h ih => ?_) _ 0 (o, []) (by omega) (by omega) (by omega) ⟨by simp only; omega, by simp only; omega, by simp, by simp⟩
  · obtain ⟨g1, g2, g3, g4⟩ := h
    rw [m_spec_l20Fit_l1, show decide ((cs.length : Int) < cs.length) = false by simp, cond_false]
    unfold m_spec_l20Fit_j1 m_spec_l20Fit_j2
    refine Tot.bind (T_odd (by omega) hn) (fun q hq => Tot.bif (fun _ => ?_) (fun _ => Tot.ret ⟨⟨by simp only; omega, g4⟩, by simp only; omega, by simp only; omega⟩))
    refine Tot.bind (T_pick (by omega)) (fun u hu => Tot.bif (fun _ => ?_) (fun _ => Tot.bif (fun _ => ?_) (fun _ => ?_)))
    · refine Tot.app (by simp only [List.length_cons, List.length_nil]; omega) (Tot.ret ⟨⟨by first | (simp; done) | (simp; omega), ?_⟩, by simp only; omega, by simp only; omega⟩)
      intro c hc
      simp only [List.mem_append, List.mem_cons, List.mem_nil_iff, or_false] at hc
      rcases hc with hc | rfl
      · exact g4 c hc
      · exact ⟨by first | decide | omega | (simp only; omega), by first | decide | omega | (simp only; omega), by first | decide | omega | (simp only; omega), by first | decide | omega | (simp only; omega), by first | decide | omega | (simp only; omega)⟩
    · refine Tot.bif (fun h3 => ?_) (fun _ => Tot.ret ⟨⟨by simp only; omega, g4⟩, by simp only; omega, by simp only; omega⟩)
      simp only [gt_iff_lt, decide_eq_true_eq] at h3
      refine Tot.bind (T_pick (by omega)) (fun x hx => Tot.bind (T_l20Value (by omega) (by omega)) (fun y hy => Tot.at (by omega) (by omega) (fun _ _ => Tot.at (by omega) (by omega) (fun _ _ => Tot.lt (Tot.ret ⟨⟨by first | (simp; done) | (simp; omega), ?_⟩, by simp only; omega, by simp only; omega⟩)))))
      intro c hc
      rcases List.mem_or_eq_of_mem_set hc with hc | rfl
      · exact g4 c hc
      · exact hy.1
    · refine Tot.bind (T_l20Value (by omega) (by omega)) (fun x hx => Tot.bind (T_l20Value (by omega) (by omega)) (fun y hy => Tot.bind (T_l20Value (by omega) (by omega)) (fun z hz => Tot.app (by simp only [List.length_cons, List.length_nil]; omega) (Tot.ret ⟨⟨by first | (simp; done) | (simp; omega), ?_⟩, by simp only; omega, by simp only; omega⟩))))
      intro c hc
      simp only [List.mem_append, List.mem_cons, List.mem_nil_iff, or_false] at hc
      rcases hc with hc | rfl | rfl | rfl
      · exact g4 c hc
      · exact hx.1
      · exact hy.1
      · exact hz.1
  · obtain ⟨g1, g2, g3, g4⟩ := h
    rw [m_spec_l20Fit_l1, decide_eq_true ht, cond_true]
    refine Tot.at h0 ht (fun c hc => Tot.bind (T_l20Like (by omega)) (fun x hx => Tot.app (by simp only [List.length_cons, List.length_nil]; omega) (Tot.ck (by omega) (by omega) ?_)))
    refine ih (x.2, s.2 ++ [x.1]) ⟨by simp only; omega, by simp only; omega, by first | (simp; done) | (simp; omega), ?_⟩
    intro c hc
    simp only [List.mem_append, List.mem_cons, List.mem_nil_iff, or_false] at hc
    rcases hc with hc | rfl
    · exact g4 c hc
    · exact hx.1
theorem rDr_sm {r : Row} (h : rDr r) : rSm r := ⟨by have := h.1; omega, fun v hv => by have := (h.2 v hv).1; unfold vSm; omega⟩
theorem T_l20Open {l : List UInt8} : Tot (m_spec_l20Open l) fun r => r.p = 0 := by
  unfold m_spec_l20Open m_spec_l20Open_j1
  refine Tot.bif (fun h => ?_) (fun _ => Tot.ret rfl)
  simp only [gt_iff_lt, decide_eq_true_eq] at h
  exact Tot.cut (by omega) (Tot.ret rfl)
/-- A total order, told by numbers. -/
structure TO {α : Type} (p : α → α → Int) : Prop where
  eq0 : ∀ a b, p a b = 0 ↔ a = b
  anti : ∀ a b, p a b < 0 ↔ 0 < p b a
  trans : ∀ a b c, p a b < 0 → p b c < 0 → p a c < 0
theorem TO.comap {α β : Type} {p : β → β → Int} (h : TO p) (f : α → β) (hf : ∀ a b, f a = f b → a = b) : TO fun a b => p (f a) (f b) where
  eq0 a b := ⟨fun e => hf a b ((h.eq0 _ _).1 e), fun e => (h.eq0 _ _).2 (by rw [e])⟩
  anti a b := h.anti _ _
  trans a b c := h.trans _ _ _
theorem TO.total {α : Type} {p : α → α → Int} (h : TO p) (a b : α) : 0 < p a b ↔ p b a < 0 := (h.anti b a).symm
def lx (x y : Int) : Int := if x = 0 then y else x
theorem TO.lex {α β : Type} {p : α → α → Int} {q : β → β → Int} (h : TO p) (k : TO q) : TO fun (a b : α × β) => lx (p a.1 b.1) (q a.2 b.2) where
  eq0 a b := by
    have h1 := h.eq0 a.1 b.1
    have h2 := k.eq0 a.2 b.2
    unfold lx
    split
    · rename_i e; rw [h2]; exact ⟨fun e2 => Prod.ext (h1.1 e) e2, fun e2 => by rw [e2]⟩
    · rename_i e; exact ⟨fun e2 => absurd e2 e, fun e2 => absurd (h1.2 (by rw [e2])) e⟩
  anti a b := by
    have h1 := h.anti a.1 b.1
    have h2 := k.anti a.2 b.2
    have h3 := h.eq0 a.1 b.1
    have h4 := h.eq0 b.1 a.1
    unfold lx
    by_cases e : a.1 = b.1
    · rw [if_pos (h3.2 e), if_pos (h4.2 e.symm)]; exact h2
    · rw [if_neg (fun x => e (h3.1 x)), if_neg (fun x => e (h4.1 x).symm)]; exact h1
  trans a b c := by
    have h1 := h.trans a.1 b.1 c.1
    have h2 := k.trans a.2 b.2 c.2
    unfold lx
    by_cases e1 : a.1 = b.1
    · rw [if_pos ((h.eq0 _ _).2 e1), e1]
      by_cases e2 : b.1 = c.1
      · rw [if_pos ((h.eq0 _ _).2 e2), if_pos ((h.eq0 _ _).2 e2)]; exact h2
      · rw [if_neg (fun x => e2 ((h.eq0 _ _).1 x)), if_neg (fun x => e2 ((h.eq0 _ _).1 x))]; exact fun _ g => g
    · rw [if_neg (fun x => e1 ((h.eq0 _ _).1 x))]
      by_cases e2 : b.1 = c.1
      · rw [← e2, if_pos ((h.eq0 _ _).2 rfl), if_neg (fun x => e1 ((h.eq0 _ _).1 x))]; exact fun g _ => g
      · rw [if_neg (fun x => e2 ((h.eq0 _ _).1 x))]
        intro g1 g2
        have := h1 g1 g2
        rw [if_neg (by omega)]; exact this
theorem TO_int : TO cmpI where
  eq0 a b := by unfold cmpI; split <;> (try split) <;> omega
  anti a b := by unfold cmpI; split <;> split <;> (try split) <;> (try split) <;> omega
  trans a b c := by unfold cmpI; split <;> split <;> (try split) <;> (try split) <;> (try split) <;> omega
def cmpB : List UInt8 → List UInt8 → Int
  | [], [] => 0
  | [], _ :: _ => -1
  | _ :: _, [] => 1
  | a :: x, b :: y => lx (cmpI a.toNat b.toNat) (cmpB x y)
theorem cmpB_less : ∀ a b : List UInt8, (if Op.bytesLess a b then (-1 : Int) else if Op.bytesLess a b || a == b then 0 else 1) = cmpB a b
  | [], [] => rfl
  | [], _ :: _ => rfl
  | _ :: _, [] => rfl
  | a :: x, b :: y => by
    have ih := cmpB_less x y
    simp only [cmpB, ← ih]
    unfold lx cmpI
    simp only [Op.bytesLess]
    rcases Nat.lt_trichotomy a.toNat b.toNat with h | h | h
    · have h' : a < b := UInt8.lt_iff_toNat_lt.2 h
      have h2 : (a.toNat : Int) < b.toNat := by omega
      simp [h', h2]
    · have h' : a = b := UInt8.toNat_inj.1 h
      subst h'
      simp
    · have h' : ¬ a < b := fun e => by have := UInt8.lt_iff_toNat_lt.1 e; omega
      have h2 : ¬ (a.toNat : Int) < b.toNat := by omega
      have h3 : (b.toNat : Int) < a.toNat := by omega
      have h4 : ¬ a = b := fun e => by rw [e] at h; omega
      simp [h', h2, h3, h4]
theorem TO_list {α : Type} {p : α → α → Int} (h : TO p) : TO (cmpL p) where
  eq0 := by
    intro a
    induction a with
    | nil => intro b; cases b <;> simp [cmpL]
    | cons x a ih =>
      intro b
      cases b with
      | nil => simp [cmpL]
      | cons y b =>
        simp only [cmpL]
        split
        · rename_i e; rw [ih b, List.cons.injEq]; exact ⟨fun e2 => ⟨(h.eq0 _ _).1 e, e2⟩, fun e2 => e2.2⟩
        · rename_i e; rw [List.cons.injEq]; exact ⟨fun e2 => absurd e2 e, fun e2 => absurd ((h.eq0 _ _).2 e2.1) e⟩
  anti := by
    intro a
    induction a with
    | nil => intro b; cases b <;> simp [cmpL]
    | cons x a ih =>
      intro b
      cases b with
      | nil => simp [cmpL]
      | cons y b =>
        simp only [cmpL]
        by_cases e : x = y
        · rw [if_pos ((h.eq0 _ _).2 e), if_pos ((h.eq0 _ _).2 e.symm)]; exact ih b
        · rw [if_neg (fun g => e ((h.eq0 _ _).1 g)), if_neg (fun g => e ((h.eq0 _ _).1 g).symm)]; exact h.anti x y
  trans := by
    intro a
    induction a with
    | nil => intro b c; cases b <;> cases c <;> simp [cmpL]
    | cons x a ih =>
      intro b c
      cases b with
      | nil => simp [cmpL]
      | cons y b =>
        cases c with
        | nil => simp [cmpL]
        | cons z c =>
          simp only [cmpL]
          by_cases e1 : x = y
          · rw [if_pos ((h.eq0 _ _).2 e1), e1]
            by_cases e2 : y = z
            · rw [if_pos ((h.eq0 _ _).2 e2), if_pos ((h.eq0 _ _).2 e2)]; exact ih b c
            · rw [if_neg (fun g => e2 ((h.eq0 _ _).1 g)), if_neg (fun g => e2 ((h.eq0 _ _).1 g))]; exact fun _ g => g
          · rw [if_neg (fun g => e1 ((h.eq0 _ _).1 g))]
            by_cases e2 : y = z
            · rw [← e2, if_pos ((h.eq0 _ _).2 rfl), if_neg (fun g => e1 ((h.eq0 _ _).1 g))]; exact fun g _ => g
            · rw [if_neg (fun g => e2 ((h.eq0 _ _).1 g))]
              intro g1 g2
              have := h.trans x y z g1 g2
              rw [if_neg (by omega)]; exact this
theorem TO_byte : TO fun (a b : UInt8) => cmpI a.toNat b.toNat := TO_int.comap (fun b : UInt8 => (b.toNat : Int)) fun a b h => UInt8.toNat_inj.1 (by omega)
theorem cmpB_L : ∀ a b : List UInt8, cmpB a b = cmpL (fun (a b : UInt8) => cmpI a.toNat b.toNat) a b
  | [], [] => rfl
  | [], _ :: _ => rfl
  | _ :: _, [] => rfl
  | a :: x, b :: y => by simp only [cmpB, cmpL, lx, cmpB_L x y]
theorem TO_str : TO cmpS := by
  have h := (TO_list TO_byte).comap (fun s : ByteArray => s.data.toList) (fun a b h => ByteArray.ext (Array.toList_inj.1 h))
  have e : cmpS = fun a b : ByteArray => cmpL (fun (a b : UInt8) => cmpI a.toNat b.toNat) a.data.toList b.data.toList := by
    funext a b
    unfold cmpS sLt sEq
    rw [ByteArray.toList_eq, ByteArray.toList_eq, cmpB_less, cmpB_L]
  rw [e]; exact h
theorem orI_2 (a b : Int) : orI [a, b] = lx a b := by
  unfold lx; split
  · rename_i h; subst h; rw [orI_0]
    by_cases h : b = 0
    · subst h; rfl
    · rw [orI_1 h]
  · rename_i h; rw [orI_1 h]
theorem orI_3 (a b c : Int) : orI [a, b, c] = lx a (lx b c) := by
  by_cases h : a = 0
  · subst h; rw [orI_0, orI_2]; rfl
  · rw [orI_1 h]; unfold lx; rw [if_neg h]
theorem TO_value : TO vOrd := by
  have h := (TO_int.lex (TO_int.lex TO_str)).comap (fun v : V => (v.Kind, (v.N, v.S))) (fun a b h => by
    cases a; cases b; simp only [Prod.mk.injEq] at h; simp [h])
  have e : vOrd = fun a b : V => lx (cmpI a.Kind b.Kind) (lx (cmpI a.N b.N) (cmpS a.S b.S)) := by
    funext a b; unfold vOrd; rw [orI_3]
  rw [e]; exact h
theorem L_slices_IndexFunc_Limpl_Column_impl_Column {l : List S_impl_Column} {p : S_impl_Column → Option Bool} {q : S_impl_Column → Bool} (hl : l.length ≤ 3000000) (hp : ∀ v ∈ l, p v = some (q v)) : m_slices_IndexFunc_Limpl_Column_impl_Column l p = some (idxI q l) := by
  unfold m_slices_IndexFunc_Limpl_Column_impl_Column
  exact scanI (q := q) (g := fun i => some i) l (fun n k => m_slices_IndexFunc_Limpl_Column_impl_Column_l1 p n l (l.length : Int) k) (fun n k x hx => by
    have := lt_of_at hx
    rw [m_slices_IndexFunc_Limpl_Column_impl_Column_l1, dlt this, cond_true]
    simp only [at_of hx, Option.bind_some, hp x (List.mem_of_getElem? hx), ck1 (show k < 1000000000000 by omega)]) (fun n => by rw [m_slices_IndexFunc_Limpl_Column_impl_Column_l1, dnlt]; rfl) _ fuel0
theorem L_slices_ContainsFunc_Limpl_Column_impl_Column {l : List S_impl_Column} {p : S_impl_Column → Option Bool} {q : S_impl_Column → Bool} (hl : l.length ≤ 3000000) (hp : ∀ v ∈ l, p v = some (q v)) : m_slices_ContainsFunc_Limpl_Column_impl_Column l p = some (l.any q) := by
  unfold m_slices_ContainsFunc_Limpl_Column_impl_Column
  rw [L_slices_IndexFunc_Limpl_Column_impl_Column hl hp, Option.bind_some, (idxI_ge q l).2.2]
theorem L_slices_IndexFunc_Lint_int {l : List Int} {p : Int → Option Bool} {q : Int → Bool} (hl : l.length ≤ 3000000) (hp : ∀ v ∈ l, p v = some (q v)) : m_slices_IndexFunc_Lint_int l p = some (idxI q l) := by
  unfold m_slices_IndexFunc_Lint_int
  exact scanI (q := q) (g := fun i => some i) l (fun n k => m_slices_IndexFunc_Lint_int_l1 p n l (l.length : Int) k) (fun n k x hx => by
    have := lt_of_at hx
    rw [m_slices_IndexFunc_Lint_int_l1, dlt this, cond_true]
    simp only [at_of hx, Option.bind_some, hp x (List.mem_of_getElem? hx), ck1 (show k < 1000000000000 by omega)]) (fun n => by rw [m_slices_IndexFunc_Lint_int_l1, dnlt]; rfl) _ fuel0
theorem L_slices_ContainsFunc_Lint_int {l : List Int} {p : Int → Option Bool} {q : Int → Bool} (hl : l.length ≤ 3000000) (hp : ∀ v ∈ l, p v = some (q v)) : m_slices_ContainsFunc_Lint_int l p = some (l.any q) := by
  unfold m_slices_ContainsFunc_Lint_int
  rw [L_slices_IndexFunc_Lint_int hl hp, Option.bind_some, (idxI_ge q l).2.2]
abbrev Col := S_impl_Column
def colOk (c : Col) : Bool := decide (1 ≤ c.Kind) && decide (c.Kind ≤ 3)
def colsOk (cs : List Col) : Bool := decide (cs.length ≤ 4) && cs.all colOk
def vFit (v : V) (c : Col) : Bool := decide (v.Kind = c.Kind) || (decide (v.Kind = 0) && c.Empty)
def rowFits (cs : List Col) (r : Row) : Bool := colsOk cs && (rowOk r && (decide (r.length = cs.length) && all2 vFit r cs))
theorem lenD (n m : Nat) : decide ((n : Int) ≤ (m : Int)) = decide (n ≤ m) := by rw [decide_eq_decide]; omega
theorem E_impl_ColumnsOk {cs : List Col} (h : cs.length ≤ 3000000) : m_impl_ColumnsOk cs = some (colsOk cs) := by
  unfold m_impl_ColumnsOk m_impl_ColumnsOk_j1 colsOk
  rw [L_slices_ContainsFunc_Limpl_Column_impl_Column (q := fun c => !(colOk c)) h (fun c _ => by unfold m_impl_ColumnsOk_1; rw [E_between]; rfl), Option.bind_some,
    show (4 : Int) = ((4 : Nat) : Int) from rfl, lenD, List.all_eq_not_any_not]
  cases decide (cs.length ≤ 4) <;> rfl
theorem E_spec_ColumnsOk {cs : List Col} (h : cs.length ≤ 3000000) : m_spec_ColumnsOk cs = some (colsOk cs) := by
  unfold m_spec_ColumnsOk colsOk
  rw [scanA (p := fun c => !(colOk c)) (r0 := false) (r1 := decide ((cs.length : Int) ≤ 4)) cs (fun n k => m_spec_ColumnsOk_l1 n cs k) (fun n k x hx => by
    have := lt_of_at hx
    rw [m_spec_ColumnsOk_l1, dlt this, cond_true]
    simp only [at_of hx, E_l1In, Option.bind_some, ck1 (show k < 1000000000000 by omega)]
    rfl) (fun n => by rw [m_spec_ColumnsOk_l1, dnlt]; rfl) _ fuel0, List.all_eq_not_any_not, show (4 : Int) = ((4 : Nat) : Int) from rfl, lenD]
  cases cs.any fun c => !(colOk c) <;> simp
theorem E_impl_RowFits {cs : List Col} {r : Row} (h : cs.length ≤ 3000000) (hr : rSm r) : m_impl_RowFits cs r = some (rowFits cs r) := by
  unfold m_impl_RowFits rowFits
  rw [E_impl_ColumnsOk h, Option.bind_some]
  cases colsOk cs
  · rfl
  rw [Bool.not_true, cond_false, E_impl_RowOk hr, Option.bind_some]
  cases rowOk r
  · rfl
  rw [Bool.not_true, cond_false]
  unfold m_impl_RowFits_j1
  rw [neN]
  by_cases hl : r.length = cs.length
  · rw [decide_eq_true hl, Bool.not_true, cond_false]
    simp only [Bool.true_and]
    exact scan2 (q := vFit) r cs hl (fun n k => m_impl_RowFits_l1 n cs r (r.length : Int) k) (fun n k x y hx hy => by
      have := lt_of_at hx
      have hrl := hr.1
      rw [m_impl_RowFits_l1, dlt this, cond_true]
      simp only [at_of hx, at_of hy, Option.bind_some, Go.Lift.lt]
      unfold m_impl_RowFits_j2
      rw [ck1 (show k < 1000000000000 by omega), Option.bind_some]
      unfold vFit
      rw [neB, neB]
      cases decide (x.Kind = y.Kind) <;> cases decide (x.Kind = 0) <;> cases y.Empty <;> rfl) (fun n => by rw [m_impl_RowFits_l1, dnlt]; rfl) _ fuel0
  · rw [decide_eq_false hl]; rfl
theorem E_spec_RowFits {cs : List Col} {r : Row} (h : cs.length ≤ 3000000) (hr : rSm r) : m_spec_RowFits cs r = some (rowFits cs r) := by
  unfold m_spec_RowFits rowFits
  rw [E_spec_ColumnsOk h, Option.bind_some]
  cases colsOk cs
  · rfl
  rw [Bool.not_true, cond_false, E_spec_RowOk hr, Option.bind_some]
  cases rowOk r
  · rfl
  rw [Bool.not_true, cond_false]
  unfold m_spec_RowFits_j1
  rw [neN]
  by_cases hl : r.length = cs.length
  · rw [decide_eq_true hl, Bool.not_true, cond_false]
    simp only [Bool.true_and]
    exact scan2 (q := vFit) r cs hl (fun n k => m_spec_RowFits_l1 n cs r k) (fun n k x y hx hy => by
      have := lt_of_at hx
      have hrl := hr.1
      rw [m_spec_RowFits_l1, dlt this, cond_true]
      simp only [at_of hx, at_of hy, Option.bind_some]
      unfold m_spec_RowFits_j2
      rw [ck1 (show k < 1000000000000 by omega), Option.bind_some]
      unfold vFit
      rw [neB, neB]
      cases decide (x.Kind = y.Kind) <;> cases decide (x.Kind = 0) <;> cases y.Empty <;> rfl) (fun n => by rw [m_spec_RowFits_l1, dnlt]; rfl) _ fuel0
  · rw [decide_eq_false hl]; rfl
def v0 : V := ⟨0, 0, ⟨#[]⟩⟩
def total (left : List Rows) : Nat := left.flatten.length
abbrev Pt := S_impl_Part
def tells (cs : List Col) (p : Pt) : Bool :=
  if p.Kind = 1 then decide (p.N = 0) && (vOk p.V && !decide (p.V.Kind = 0))
  else if p.Kind = 2 then (decide (0 ≤ p.N) && decide (p.N ≤ (cs.length : Int) - 1)) && decide (p.V = v0)
  else if p.Kind = 4 then (decide (1 ≤ p.N) && decide (p.N ≤ 4)) && decide (p.V = v0)
  else if p.Kind = 3 ∨ p.Kind = 5 ∨ p.Kind = 6 ∨ p.Kind = 7 ∨ p.Kind = 8 then decide (p.N = 0) && decide (p.V = v0)
  else false
def takesN (p : Pt) : Nat := if p.Kind = 3 ∨ p.Kind = 4 ∨ p.Kind = 5 ∨ p.Kind = 6 then 2 else if p.Kind = 7 ∨ p.Kind = 8 then 1 else 0
def kindOf (cs : List Col) (p : Pt) (ins : List Int) : Int × Bool :=
  if p.Kind = 1 then (p.V.Kind, true)
  else if p.Kind = 2 then ((cs.getD p.N.toNat ⟨0, false⟩).Kind, true)
  else if p.Kind = 3 then (1, ins.all fun k => decide (k = 1))
  else if p.Kind = 4 then (3, decide (ins.getD 0 0 = ins.getD 1 0))
  else if p.Kind = 8 then (3, true)
  else (3, ins.all fun k => decide (k = 3))
def kStep (cs : List Col) (st : List Int) (p : Pt) : Option (List Int) :=
  if tells cs p = true ∧ takesN p ≤ st.length ∧ (kindOf cs p (st.drop (st.length - takesN p))).2 = true then some (st.take (st.length - takesN p) ++ [(kindOf cs p (st.drop (st.length - takesN p))).1]) else none
def kGo (cs : List Col) : List Pt → List Int → Option (List Int)
  | [], st => some st
  | p :: ps, st => (kStep cs st p).bind (kGo cs ps)
def fin1 : Option (List Int) → Int
  | some [k] => k
  | _ => -1
def exprKind (cs : List Col) (e : List Pt) : Int := if colsOk cs = true ∧ e.length ≤ 12 then fin1 (kGo cs e []) else -1
theorem beqE {a b : Int} (h : a = b) : (a == b) = true := by simp [h]
theorem at0' {α : Type} {l : List α} {x : α} (h : l[0]? = some x) : at? l 0 = some x := at_of (k := 0) h
theorem at1' {α : Type} {l : List α} {x : α} (h : l[1]? = some x) : at? l 1 = some x := at_of (k := 1) h
theorem ltE' {α β : Type} (x : α) (f : α → β) : lt x f = f x := rfl
theorem E_takes (p : Pt) : m_impl_Part_takes p = some (takesN p : Int) := by
  unfold m_impl_Part_takes m_impl_Part_takes_j1 m_impl_Part_takes_j2 takesN
  by_cases h3 : p.Kind = 3
  · rw [beqE h3, cond_true, cond_true, if_pos (.inl h3)]; rfl
  · by_cases h4 : p.Kind = 4
    · rw [beqF h3, cond_false, beqE h4, cond_true, cond_true, if_pos (.inr (.inl h4))]; rfl
    · by_cases h5 : p.Kind = 5
      · rw [beqF h3, cond_false, beqF h4, cond_false, beqE h5, cond_true, cond_true, if_pos (.inr (.inr (.inl h5)))]; rfl
      · by_cases h6 : p.Kind = 6
        · rw [beqF h3, cond_false, beqF h4, cond_false, beqF h5, cond_false, beqE h6, cond_true, if_pos (.inr (.inr (.inr h6)))]; rfl
        · rw [beqF h3, cond_false, beqF h4, cond_false, beqF h5, cond_false, beqF h6, cond_false, if_neg (by simp [h3, h4, h5, h6])]
          by_cases h7 : p.Kind = 7
          · rw [beqE h7, cond_true, cond_true, if_pos (.inl h7)]; rfl
          · by_cases h8 : p.Kind = 8
            · rw [beqF h7, cond_false, beqE h8, cond_true, if_pos (.inr h8)]; rfl
            · rw [beqF h7, cond_false, beqF h8, cond_false, if_neg (by simp [h7, h8])]; rfl
theorem bif_f {b : Bool} {x : Bool} : (bif b then some x else some false) = some (b && x) := by cases b <;> rfl
theorem beqD {a b : Int} : (a == b) = decide (a = b) := by by_cases h : a = b <;> simp [h]
theorem E_tells {cs : List Col} {p : Pt} (hc : cs.length ≤ 3000000) (hv : p.V.S.size ≤ 3000000) : m_impl_Part_tells p cs = some (tells cs p) := by
  unfold m_impl_Part_tells m_impl_Part_tells_j1 m_impl_Part_tells_j2 m_impl_Part_tells_j3 m_impl_Part_tells_j4 m_impl_Part_tells_j5 tells
  by_cases h1 : p.Kind = 1
  · rw [beqE h1, cond_true, if_pos h1, E_Value_ok hv, Option.bind_some, bif_f, bif_f, beqD]
    rw [show (p.V.Kind != 0) = !decide (p.V.Kind = 0) by by_cases h : p.V.Kind = 0 <;> simp [h]]
  · rw [beqF h1, cond_false, if_neg h1]
    by_cases h2 : p.Kind = 2
    · rw [beqE h2, cond_true, if_pos h2, ckI_of (by omega) (by omega), Option.bind_some, E_between, Option.bind_some, bif_f]; rfl
    · rw [beqF h2, cond_false, if_neg h2]
      by_cases h4 : p.Kind = 4
      · rw [beqE h4, cond_true, if_pos h4, E_between, Option.bind_some, bif_f]; rfl
      · rw [beqF h4, cond_false, if_neg h4]
        have fin : ∀ b : Bool, (bif b then (bif p.N == 0 then some (decide (p.V = ⟨0, 0, ⟨#[]⟩⟩)) else some false) else some false) = some (b && (decide (p.N = 0) && decide (p.V = v0))) := fun b => by rw [bif_f, bif_f, beqD]; rfl
        by_cases h3 : p.Kind = 3
        · rw [beqE h3, cond_true, fin, if_pos (.inl h3), Bool.true_and]
        · by_cases h5 : p.Kind = 5
          · rw [beqF h3, cond_false, beqE h5, cond_true, fin, if_pos (.inr (.inl h5)), Bool.true_and]
          · by_cases h6 : p.Kind = 6
            · rw [beqF h3, cond_false, beqF h5, cond_false, beqE h6, cond_true, fin, if_pos (.inr (.inr (.inl h6))), Bool.true_and]
            · by_cases h7 : p.Kind = 7
              · rw [beqF h3, cond_false, beqF h5, cond_false, beqF h6, cond_false, beqE h7, cond_true, fin, if_pos (.inr (.inr (.inr (.inl h7)))), Bool.true_and]
              · rw [beqF h3, cond_false, beqF h5, cond_false, beqF h6, cond_false, beqF h7, cond_false, fin]
                by_cases h8 : p.Kind = 8
                · rw [beqE h8, if_pos (.inr (.inr (.inr (.inr h8)))), Bool.true_and]
                · rw [beqF h8, if_neg (by simp [h3, h5, h6, h7, h8]), Bool.false_and]
theorem E_all {n : Int} {ins : List Int} (h : ins.length ≤ 3000000) : m_impl_Part_kind_1 n ins = some (ins.all fun k => decide (k = n)) := by
  unfold m_impl_Part_kind_1
  rw [L_slices_ContainsFunc_Lint_int (q := fun k => !decide (k = n)) h (fun k _ => by
    unfold m_impl_Part_kind_1_1
    by_cases e : k = n <;> simp [e]), Option.bind_some]
  congr 1
  induction ins with
  | nil => rfl
  | cons a l ih => simp only [List.any_cons, List.all_cons, Bool.not_or, Bool.not_not]; rw [← ih (by simp at h; omega)]
theorem tells_2 {cs : List Col} {p : Pt} (h : tells cs p = true) (h2 : p.Kind = 2) : 0 ≤ p.N ∧ p.N ≤ (cs.length : Int) - 1 := by
  unfold tells at h
  rw [if_neg (by omega), if_pos h2] at h
  simp at h; exact ⟨h.1.1, by omega⟩
theorem takes_le (p : Pt) : takesN p ≤ 2 := by
  unfold takesN
  split
  · exact Nat.le_refl _
  · split
    · exact Nat.le_succ _
    · exact Nat.zero_le _
theorem E_kind {cs : List Col} {p : Pt} {ins : List Int} (ht : tells cs p = true) (hl : ins.length = takesN p) : m_impl_Part_kind p cs ins = some (kindOf cs p ins) := by
  unfold m_impl_Part_kind kindOf
  have hs : ins.length ≤ 3000000 := by have := takes_le p; omega
  by_cases h1 : p.Kind = 1
  · rw [beqE h1, cond_true, if_pos h1]
  · rw [beqF h1, cond_false, if_neg h1]
    by_cases h2 : p.Kind = 2
    · obtain ⟨a, b⟩ := tells_2 ht h2
      have hn : p.N.toNat < cs.length := by omega
      have hx : cs[p.N.toNat]? = some cs[p.N.toNat] := List.getElem?_eq_getElem hn
      have hat : at? cs p.N = some cs[p.N.toNat] := by
        have := at_of hx
        rwa [Int.toNat_of_nonneg a] at this
      rw [beqE h2, cond_true, if_pos h2, hat, Option.bind_some, List.getD_eq_getElem?_getD, hx]; rfl
    · rw [beqF h2, cond_false, if_neg h2]
      by_cases h3 : p.Kind = 3
      · rw [beqE h3, cond_true, if_pos h3, E_all hs, Option.bind_some]
      · rw [beqF h3, cond_false, if_neg h3]
        by_cases h4 : p.Kind = 4
        · have hl2 : ins.length = 2 := by rw [hl]; unfold takesN; rw [if_pos (.inr (.inl h4))]
          match ins, hl2 with
          | [a, b], _ =>
            rw [beqE h4, cond_true, if_pos h4, at0' (show [a, b][0]? = some a from rfl), Option.bind_some, at1' (show [a, b][1]? = some b from rfl), Option.bind_some, beqD]; rfl
        · rw [beqF h4, cond_false, if_neg h4]
          by_cases h8 : p.Kind = 8
          · rw [beqE h8, cond_true, if_pos h8]
          · rw [beqF h8, cond_false, if_neg h8, E_all hs, Option.bind_some]
theorem kGo_c (cs : List Col) (p : Pt) (ps : List Pt) (st : List Int) : kGo cs (p :: ps) st = (kStep cs st p).bind (kGo cs ps) := rfl
theorem impl_k_loop {cs : List Col} {e : List Pt} (hc : cs.length ≤ 3000000) (he : e.length ≤ 1000) (hv : ∀ p ∈ e, p.V.S.size ≤ 3000000) : ∀ (n k f : Nat) (st : List Int), k + n = e.length → st.length ≤ k → n < f → m_impl_ExprKind_l1 f cs e (e.length : Int) (k : Int) st = some (fin1 (kGo cs (e.drop k) st)) := by
  intro n
  induction n with
  | zero =>
    intro k f st hk hs hf
    obtain ⟨f, rfl⟩ : ∃ q, f = q + 1 := ⟨f - 1, by omega⟩
    obtain rfl : k = e.length := by omega
    rw [m_impl_ExprKind_l1, dnlt, cond_false, List.drop_length]
    unfold m_impl_ExprKind_j3
    show _ = some (fin1 (some st))
    match st with
    | [] => rfl
    | [a] => rfl
    | a :: b :: r => rw [beqF' (by simp only [List.length_cons]; omega), cond_true]; rfl
  | succ n ih =>
    intro k f st hk hs hf
    obtain ⟨f, rfl⟩ : ∃ q, f = q + 1 := ⟨f - 1, by omega⟩
    have hx : e[k]? = some e[k] := List.getElem?_eq_getElem (by omega)
    have hd : e.drop k = e[k] :: e.drop (k + 1) := List.drop_eq_getElem_cons (by omega)
    generalize hp : e[k] = p at *
    have hvp := hv p (List.mem_of_getElem? hx)
    have htk := takes_le p
    rw [m_impl_ExprKind_l1, dlt (by omega), cond_true, at_of hx, Option.bind_some, ltE', E_takes, Option.bind_some, E_tells hc hvp, Option.bind_some, hd, kGo_c]
    have stop : ∀ (K : List Col → List Pt → Int → Int → List Int → Option Int) (t : Int), m_impl_ExprKind_j2 K cs t e (e.length : Int) (k : Int) true p st = some (-1) := fun K t => by unfold m_impl_ExprKind_j2; rw [cond_true]
    cases ht : tells cs p with
    | false =>
      rw [Bool.not_false, cond_true, stop]
      unfold kStep
      rw [if_neg (fun h => by rw [ht] at h; cases h.1)]; rfl
    | true =>
      rw [Bool.not_true, cond_false]
      by_cases hle : takesN p ≤ st.length
      · rw [decide_eq_false (by omega)]
        unfold m_impl_ExprKind_j2 rng? leN appT?
        have e0 : (st.length : Int) - (takesN p : Int) = ((st.length - takesN p : Nat) : Int) := by omega
        have hdl : (st.drop (0 + (st.length - takesN p))).take (st.length - (st.length - takesN p)) = st.drop (st.length - takesN p) := by
          rw [Nat.zero_add, List.take_of_length_le (by rw [List.length_drop]; omega)]
        have hin : (st.drop (st.length - takesN p)).length = takesN p := by rw [List.length_drop]; omega
        rw [cond_false, e0, ckI_of (by omega) (by omega), Option.bind_some, Int.toNat_natCast, if_pos (by omega), Option.bind_some, if_pos (by omega), Option.bind_some, hdl, E_kind ht hin, Option.bind_some]
        unfold kStep
        cases hk2 : (kindOf cs p (st.drop (st.length - takesN p))).2 with
        | false => rw [if_neg (fun h => by cases h.2.2)]; rfl
        | true =>
          rw [if_pos ⟨ht, hle, rfl⟩, Bool.not_true, cond_false, Option.bind_some, Option.bind_some, Int.toNat_natCast, if_pos (by omega), Option.bind_some, if_pos (by simp; omega), Option.bind_some, ckI_of (by omega) (by omega), Option.bind_some]
          exact ih (k + 1) f _ (by omega) (by simp; omega) (by omega)
      · rw [decide_eq_true (by omega), stop]
        unfold kStep
        rw [if_neg (fun h => hle h.2.1)]; rfl
theorem E_impl_ExprKind {cs : List Col} {e : List Pt} (hc : cs.length ≤ 3000000) (he : e.length ≤ 3000000) (hv : ∀ p ∈ e, p.V.S.size ≤ 3000000) : m_impl_ExprKind cs e = some (exprKind cs e) := by
  unfold m_impl_ExprKind exprKind m_impl_ExprKind_j1
  rw [E_impl_ColumnsOk hc, Option.bind_some]
  cases hk : colsOk cs with
  | false => rw [Bool.not_false, cond_true, cond_true, if_neg (fun h => by cases h.1)]
  | true =>
    rw [Bool.not_true, cond_false]
    by_cases hl : e.length ≤ 12
    · rw [decide_eq_false (by omega), cond_false, if_pos ⟨rfl, hl⟩]
      have := impl_k_loop hc (by omega) hv e.length 0 _ [] (by omega) (by simp) fuel0
      rw [List.drop_zero] at this
      exact this
    · rw [decide_eq_true (by omega), cond_true, if_neg (fun h => hl h.2)]
theorem snoc2 {α : Type} {l : List α} (h : 2 ≤ l.length) : ∃ s a b, l = s ++ [a, b] := by
  refine ⟨l.take (l.length - 2), l[l.length - 2], l[l.length - 1], ?_⟩
  have h1 : l.drop (l.length - 2) = [l[l.length - 2], l[l.length - 1]] := by
    rw [List.drop_eq_getElem_cons (by omega), List.drop_eq_getElem_cons (by omega), List.drop_of_length_le (by omega)]
    congr 2
    have : l.length - 2 + 1 = l.length - 1 := by omega
    simp [this]
  rw [← h1, List.take_append_drop]
theorem snoc1 {α : Type} {l : List α} (h : 1 ≤ l.length) : ∃ s a, l = s ++ [a] := by
  refine ⟨l.take (l.length - 1), l[l.length - 1], ?_⟩
  have h1 : l.drop (l.length - 1) = [l[l.length - 1]] := by
    rw [List.drop_eq_getElem_cons (by omega), List.drop_of_length_le (by omega)]
  rw [← h1, List.take_append_drop]
theorem at_l1 {α : Type} {s : List α} {a b : α} : at? (s ++ [a, b]) (((s ++ [a, b]).length : Int) - 1) = some b := by
  have : ((s ++ [a, b]).length : Int) - 1 = ((s.length + 1 : Nat) : Int) := by simp; omega
  rw [this]
  exact at_of (by rw [List.getElem?_append_right (by omega)]; simp)
theorem at_l2 {α : Type} {s : List α} {a b : α} : at? (s ++ [a, b]) (((s ++ [a, b]).length : Int) - 2) = some a := by
  have : ((s ++ [a, b]).length : Int) - 2 = ((s.length : Nat) : Int) := by simp
  rw [this]
  exact at_of (by rw [List.getElem?_append_right (by omega)]; simp)
theorem at_s1 {α : Type} {s : List α} {a : α} : at? (s ++ [a]) (((s ++ [a]).length : Int) - 1) = some a := by
  have : ((s ++ [a]).length : Int) - 1 = ((s.length : Nat) : Int) := by simp
  rw [this]
  exact at_of (by rw [List.getElem?_append_right (by omega)]; simp)
/-- The front of a stack, and a kind behind it. -/
theorem cutM {m : Nat} {st : List Int} {k : Int} {β : Type} {g : List Int → Option β} (h : st.length ≤ 1000) (hm : m ≤ 2) : ((ckI ((st.length : Int) - (m : Int))).bind fun x => (rng? (0 : Int) (maxI x 0) st.length).bind fun _ => (appT? st (maxI x 0).toNat [k]).bind g) = g (st.take (st.length - m) ++ [k]) := by
  have e : (maxI ((st.length : Int) - (m : Int)) 0).toNat = st.length - m := by unfold maxI; split <;> omega
  have e2 : 0 ≤ maxI ((st.length : Int) - (m : Int)) 0 ∧ maxI ((st.length : Int) - (m : Int)) 0 ≤ st.length := by unfold maxI; split <;> omega
  rw [ckI_of (by omega) (by omega), Option.bind_some]
  unfold rng? appT?
  rw [if_pos (by omega), Option.bind_some, e, if_pos (by simp; omega), Option.bind_some]
theorem j3_s {st : List Int} {b : Bool} (h : st.length ≤ 1000) : m_spec_l4Step_j3 (st.length : Int) b st = some (st.take (st.length - 2) ++ [1], b) := by
  unfold m_spec_l4Step_j3; exact cutM (m := 2) h (by omega)
theorem j4_s {st : List Int} {b : Bool} (h : st.length ≤ 1000) : m_spec_l4Step_j4 (st.length : Int) b st = some (st.take (st.length - 2) ++ [3], b) := by
  unfold m_spec_l4Step_j4; exact cutM (m := 2) h (by omega)
theorem j6_s {st : List Int} {b : Bool} (h : st.length ≤ 1000) : m_spec_l4Step_j6 (st.length : Int) b st = some (st.take (st.length - 2) ++ [3], b) := by
  unfold m_spec_l4Step_j6; exact cutM (m := 2) h (by omega)
def Same (o : Option (List Int × Bool)) (q : Option (List Int)) (n : Nat) : Prop := ∃ st', o = some (st', q.isSome) ∧ (∀ s, q = some s → st' = s) ∧ st'.length ≤ n + 1
theorem same_no {st : List Int} {n : Nat} {q : Option (List Int)} (h : q = none) (hl : st.length ≤ n + 1) : Same (some (st, false)) q n := ⟨st, by rw [h]; rfl, (fun s hs => by rw [h] at hs; cases hs), hl⟩
theorem same_if {st : List Int} {n : Nat} {b : Bool} {q : Option (List Int)} (h : q = if b = true then some st else none) (hl : st.length ≤ n + 1) : Same (some (st, b)) q n := by
  refine ⟨st, ?_, fun s hs => ?_, hl⟩
  · rw [h]; cases b <;> rfl
  · rw [h] at hs; split at hs
    · cases hs; rfl
    · cases hs
theorem kStep_no {cs : List Col} {st : List Int} {p : Pt} (h : tells cs p = false) : kStep cs st p = none := by
  unfold kStep; rw [if_neg (fun g => by rw [h] at g; cases g.1)]
theorem kStep_2 {cs : List Col} {s : List Int} {a b : Int} {p : Pt} (h : takesN p = 2) : kStep cs (s ++ [a, b]) p = if tells cs p = true ∧ (kindOf cs p [a, b]).2 = true then some (s ++ [(kindOf cs p [a, b]).1]) else none := by
  unfold kStep
  have e1 : (s ++ [a, b]).length - 2 = s.length := by simp
  rw [h, e1, List.drop_left, List.take_left]
  by_cases hc : tells cs p = true ∧ (kindOf cs p [a, b]).2 = true
  · rw [if_pos hc, if_pos ⟨hc.1, by simp, hc.2⟩]
  · rw [if_neg hc, if_neg (fun g => hc ⟨g.1, g.2.2⟩)]
theorem kStep_1 {cs : List Col} {s : List Int} {a : Int} {p : Pt} (h : takesN p = 1) : kStep cs (s ++ [a]) p = if tells cs p = true ∧ (kindOf cs p [a]).2 = true then some (s ++ [(kindOf cs p [a]).1]) else none := by
  unfold kStep
  have e1 : (s ++ [a]).length - 1 = s.length := by simp
  rw [h, e1, List.drop_left, List.take_left]
  by_cases hc : tells cs p = true ∧ (kindOf cs p [a]).2 = true
  · rw [if_pos hc, if_pos ⟨hc.1, by simp, hc.2⟩]
  · rw [if_neg hc, if_neg (fun g => hc ⟨g.1, g.2.2⟩)]
theorem kStep_0 {cs : List Col} {st : List Int} {p : Pt} (h : takesN p = 0) : kStep cs st p = if tells cs p = true ∧ (kindOf cs p []).2 = true then some (st ++ [(kindOf cs p []).1]) else none := by
  unfold kStep
  rw [h, Nat.sub_zero, List.drop_length, List.take_length]
  by_cases hc : tells cs p = true ∧ (kindOf cs p []).2 = true
  · rw [if_pos hc, if_pos ⟨hc.1, by simp, hc.2⟩]
  · rw [if_neg hc, if_neg (fun g => hc ⟨g.1, g.2.2⟩)]
theorem kStep_few {cs : List Col} {st : List Int} {p : Pt} (h : st.length < takesN p) : kStep cs st p = none := by
  unfold kStep; rw [if_neg (fun g => by omega)]
theorem step_guard {cs : List Col} {st : List Int} {p : Pt} : m_spec_l4Step cs st p = m_spec_l4Step_j1 cs p (st.length : Int) ((decide (p.Kind ≠ 1) && !decide (p.V = v0)) || (decide (p.Kind ≠ 2) && (decide (p.Kind ≠ 4) && decide (p.N ≠ 0)))) st := by
  unfold m_spec_l4Step
  have e : ∀ a b : Int, (a != b) = decide (a ≠ b) := fun a b => by by_cases h : a = b <;> simp [h]
  rw [e, e, e, e]
  show (bif decide (p.Kind ≠ 1) then (bif !(decide (p.V = v0)) then _ else _) else _) = _
  cases decide (p.Kind ≠ 1) <;> cases decide (p.V = v0) <;> cases decide (p.Kind ≠ 2) <;> cases decide (p.Kind ≠ 4) <;> rfl
theorem E_spec_l4Step {cs : List Col} {st : List Int} {p : Pt} (hc : cs.length ≤ 3000000) (hv : p.V.S.size ≤ 3000000) (hs : st.length ≤ 1000) : Same (m_spec_l4Step cs st p) (kStep cs st p) st.length := by
  rw [step_guard]
  unfold m_spec_l4Step_j1
  cases hg : ((decide (p.Kind ≠ 1) && !decide (p.V = v0)) || (decide (p.Kind ≠ 2) && (decide (p.Kind ≠ 4) && decide (p.N ≠ 0)))) with
  | true =>
    rw [cond_true]
    refine same_no (kStep_no ?_) (by omega)
    simp at hg
    unfold tells
    by_cases h1 : p.Kind = 1
    · rw [if_pos h1]; simp [h1] at hg; simp [hg]
    · rw [if_neg h1]
      by_cases h2 : p.Kind = 2
      · rw [if_pos h2]; simp [h1, h2] at hg; simp [hg]
      · rw [if_neg h2]
        by_cases h4 : p.Kind = 4
        · rw [if_pos h4]; simp [h1, h2, h4] at hg; simp [hg]
        · rw [if_neg h4]
          split
          · rcases hg with hg | hg
            · simp [hg.2]
            · simp [hg.2.2]
          · rfl
  | false =>
    rw [cond_false]
    have hg' := hg
    simp only [Bool.or_eq_false_iff, Bool.and_eq_false_iff, decide_eq_false_iff_not, Bool.not_eq_false', decide_eq_true_eq, Decidable.not_not] at hg'
    obtain ⟨g1, g2⟩ := hg'
    by_cases h1 : p.Kind = 1
    · have hN : p.N = 0 := by rcases g2 with g | g | g <;> omega
      have ht : tells cs p = (vOk p.V && !decide (p.V.Kind = 0)) := by unfold tells; rw [if_pos h1, decide_eq_true hN, Bool.true_and]
      have h0 : takesN p = 0 := by unfold takesN; rw [if_neg (by omega), if_neg (by omega)]
      have hk : kindOf cs p [] = (p.V.Kind, true) := by unfold kindOf; rw [if_pos h1]
      rw [beqE h1, cond_true, E_spec_ValueOk hv, Option.bind_some, kStep_0 h0, ht, hk]
      unfold m_spec_l4Step_j2
      cases vOk p.V with
      | false => rw [Bool.not_false, cond_true, cond_true]; exact same_no (if_neg (fun g => by cases g.1)) (by omega)
      | true =>
        rw [Bool.not_true, cond_false, beqD]
        by_cases hz : p.V.Kind = 0
        · rw [decide_eq_true hz, cond_true]; exact same_no (if_neg (fun g => by cases g.1)) (by omega)
        · rw [decide_eq_false hz, cond_false, app_of (by simp; omega), Option.bind_some]; exact same_if (b := true) (by simp) (by simp)
    · have hV : p.V = v0 := g1.resolve_left h1
      rw [beqF h1, cond_false]
      by_cases h2 : p.Kind = 2
      · have ht : tells cs p = (decide (0 ≤ p.N) && decide (p.N ≤ (cs.length : Int) - 1)) := by unfold tells; rw [if_neg h1, if_pos h2, decide_eq_true hV, Bool.and_true]
        have h0 : takesN p = 0 := by unfold takesN; rw [if_neg (by omega), if_neg (by omega)]
        have hk : kindOf cs p [] = ((cs.getD p.N.toNat ⟨0, false⟩).Kind, true) := by unfold kindOf; rw [if_neg h1, if_pos h2]
        rw [beqE h2, cond_true, ckI_of (by omega) (by omega), Option.bind_some, E_l1In, Option.bind_some, kStep_0 h0, ht, hk]
        by_cases hr : 0 ≤ p.N ∧ p.N ≤ (cs.length : Int) - 1
        · have hx : cs[p.N.toNat]? = some cs[p.N.toNat] := List.getElem?_eq_getElem (by omega)
          have hat : at? cs p.N = some cs[p.N.toNat] := by
            have := at_of hx
            rwa [Int.toNat_of_nonneg hr.1] at this
          rw [decide_eq_true hr.1, decide_eq_true hr.2, Bool.and_self, Bool.not_true, cond_false, hat, Option.bind_some, app_of (by simp; omega), Option.bind_some, List.getD_eq_getElem?_getD, hx]
          exact same_if (b := true) (by simp) (by simp)
        · have hr' : (decide (0 ≤ p.N) && decide (p.N ≤ (cs.length : Int) - 1)) = false := by rw [Bool.and_eq_false_iff, decide_eq_false_iff_not, decide_eq_false_iff_not]; omega
          rw [hr', Bool.not_false, cond_true]; exact same_no (if_neg (fun g => by cases g.1)) (by omega)
      · rw [beqF h2, cond_false]
        have two : takesN p = 2 → ∀ (ok : Int → Int → Bool) (k : Int), (∀ a b, (kindOf cs p [a, b]).1 = k ∧ (tells cs p && (kindOf cs p [a, b]).2) = ok a b) → ∀ (o : Option (List Int × Bool)), (st.length < 2 → o = some (st.take (st.length - 2) ++ [k], false)) → (∀ s a b, st = s ++ [a, b] → o = some (st.take (st.length - 2) ++ [k], ok a b)) → Same o (kStep cs st p) st.length := by
          intro h0 ok k hk o ho1 ho2
          by_cases hl : st.length < 2
          · rw [ho1 hl]; exact same_no (kStep_few (by omega)) (by simp)
          · obtain ⟨s, a, b, rfl⟩ := snoc2 (l := st) (by omega)
            rw [ho2 s a b rfl, kStep_2 h0]
            have e1 : (s ++ [a, b]).take ((s ++ [a, b]).length - 2) = s := by simp
            obtain ⟨k1, k2⟩ := hk a b
            rw [e1, k1]
            refine same_if ?_ (by simp)
            rw [← k2]
            cases tells cs p <;> simp
        have c3 : ∀ n : Int, (n == n) = true := fun n => by simp
        by_cases h3 : p.Kind = 3
        · have hN : p.N = 0 := by rcases g2 with g | g | g <;> omega
          have ht : tells cs p = true := by unfold tells; rw [if_neg h1, if_neg h2, if_neg (by omega), if_pos (.inl h3), decide_eq_true hN, decide_eq_true hV]; rfl
          rw [beqE h3, cond_true]
          refine two (by unfold takesN; rw [if_pos (.inl h3)]) (fun a b => decide (b = 1) && decide (a = 1)) 1 (fun a b => ⟨by unfold kindOf; rw [if_neg h1, if_neg h2, if_pos h3], by unfold kindOf; rw [if_neg h1, if_neg h2, if_pos h3, ht]; simp [Bool.and_comm]⟩) _ (fun hl => ?_) (fun s a b he => ?_)
          · rw [decide_eq_false (by omega), cond_false]; exact j3_s hs
          · have e1 : st.length = s.length + 2 := by rw [he]; simp
            have a1 : at? st ((st.length : Int) - 1) = some b := by rw [he]; exact at_l1
            have a2 : at? st ((st.length : Int) - 2) = some a := by rw [he]; exact at_l2
            rw [decide_eq_true (by omega), cond_true, ckI_of (by omega) (by omega), Option.bind_some, a1, Option.bind_some, Option.bind_some, beqD]
            by_cases hb : b = 1
            · rw [decide_eq_true hb, cond_true, ckI_of (by omega) (by omega), Option.bind_some, a2, Option.bind_some, Option.bind_some, j3_s hs, beqD]; rfl
            · rw [decide_eq_false hb, cond_false, j3_s hs]; rfl
        · rw [beqF h3, cond_false]
          by_cases h4 : p.Kind = 4
          · have ht : tells cs p = (decide (1 ≤ p.N) && decide (p.N ≤ 4)) := by unfold tells; rw [if_neg h1, if_neg h2, if_pos h4, decide_eq_true hV, Bool.and_true]
            rw [beqE h4, cond_true]
            refine two (by unfold takesN; rw [if_pos (.inr (.inl h4))]) (fun a b => decide (b = a) && (decide (1 ≤ p.N) && decide (p.N ≤ 4))) 3 (fun a b => ⟨by unfold kindOf; rw [if_neg h1, if_neg h2, if_neg h3, if_pos h4], by
              unfold kindOf; rw [if_neg h1, if_neg h2, if_neg h3, if_pos h4, ht, Bool.and_comm]
              show (decide (a = b) && _) = _
              rw [show decide (a = b) = decide (b = a) by rw [decide_eq_decide]; exact eq_comm]⟩) _ (fun hl => ?_) (fun s a b he => ?_)
            · rw [decide_eq_false (by omega), cond_false]; exact j4_s hs
            · have e1 : st.length = s.length + 2 := by rw [he]; simp
              have a1 : at? st ((st.length : Int) - 1) = some b := by rw [he]; exact at_l1
              have a2 : at? st ((st.length : Int) - 2) = some a := by rw [he]; exact at_l2
              rw [decide_eq_true (by omega), cond_true, ckI_of (by omega) (by omega), Option.bind_some, a1, Option.bind_some, Option.bind_some, ckI_of (by omega) (by omega), Option.bind_some, a2, Option.bind_some, Option.bind_some, beqD]
              by_cases hb : b = a
              · rw [decide_eq_true hb, cond_true, E_l1In, Option.bind_some, j4_s hs]; rfl
              · rw [decide_eq_false hb, cond_false, j4_s hs]; rfl
          · rw [beqF h4, cond_false]
            have hN : p.N = 0 := by rcases g2 with g | g | g <;> omega
            have hm : ∀ a b, 5 ≤ p.Kind ∧ p.Kind ≤ 7 → kindOf cs p [a, b] = (3, decide (a = 3) && (decide (b = 3) && true)) := fun a b h => by
              unfold kindOf; rw [if_neg h1, if_neg h2, if_neg h3, if_neg h4, if_neg (by omega)]; rfl
            by_cases h56 : p.Kind = 5 ∨ p.Kind = 6
            · have ht : tells cs p = true := by unfold tells; rw [if_neg h1, if_neg h2, if_neg h4, if_pos (by omega), decide_eq_true hN, decide_eq_true hV]; rfl
              have key : Same (m_spec_l4Step_j5 (st.length : Int) p.Kind true st) (kStep cs st p) st.length := by
                refine two (by unfold takesN; rw [if_pos (by omega)]) (fun a b => decide (b = 3) && decide (a = 3)) 3 (fun a b => ⟨by rw [hm a b (by omega)], by rw [hm a b (by omega), ht]; simp [Bool.and_comm]⟩) _ (fun hl => ?_) (fun s a b he => ?_)
                · unfold m_spec_l4Step_j5; rw [cond_true, decide_eq_false (by omega), cond_false]; exact j6_s hs
                · have e1 : st.length = s.length + 2 := by rw [he]; simp
                  have a1 : at? st ((st.length : Int) - 1) = some b := by rw [he]; exact at_l1
                  have a2 : at? st ((st.length : Int) - 2) = some a := by rw [he]; exact at_l2
                  unfold m_spec_l4Step_j5
                  rw [cond_true, decide_eq_true (by omega), cond_true, ckI_of (by omega) (by omega), Option.bind_some, a1, Option.bind_some, Option.bind_some, beqD]
                  by_cases hb : b = 3
                  · rw [decide_eq_true hb, cond_true, ckI_of (by omega) (by omega), Option.bind_some, a2, Option.bind_some, Option.bind_some, j6_s hs, beqD]; rfl
                  · rw [decide_eq_false hb, cond_false, j6_s hs]; rfl
              rcases h56 with h5 | h6
              · rw [beqE h5, cond_true]; exact key
              · rw [beqF (by omega), cond_false, beqE h6]; exact key
            · rw [beqF (fun h => h56 (.inl h)), cond_false, beqF (fun h => h56 (.inr h))]
              unfold m_spec_l4Step_j5
              rw [cond_false]
              by_cases h7 : p.Kind = 7
              · have ht : tells cs p = true := by unfold tells; rw [if_neg h1, if_neg h2, if_neg h4, if_pos (by omega), decide_eq_true hN, decide_eq_true hV]; rfl
                have h0 : takesN p = 1 := by unfold takesN; rw [if_neg (by omega), if_pos (.inl h7)]
                rw [beqE h7, cond_true]
                unfold m_spec_l4Step_j7
                by_cases hl : st.length < 1
                · rw [decide_eq_false (by omega), cond_false]; exact same_no (kStep_few (by omega)) (by omega)
                · obtain ⟨s, a, rfl⟩ := snoc1 (l := st) (by omega)
                  have hk : kindOf cs p [a] = (3, decide (a = 3) && true) := by unfold kindOf; rw [if_neg h1, if_neg h2, if_neg h3, if_neg h4, if_neg (by omega)]; rfl
                  rw [decide_eq_true (by simp), cond_true, ckI_of (by omega) (by omega), Option.bind_some, at_s1, Option.bind_some, Option.bind_some, kStep_1 h0, ht, hk, beqD]
                  by_cases ha : a = 3
                  · subst ha; exact same_if (b := true) (by simp) (by simp)
                  · rw [decide_eq_false ha]; exact same_no (by simp) (by simp)
              · rw [beqF h7, cond_false]
                by_cases h8 : p.Kind = 8
                · have ht : tells cs p = true := by unfold tells; rw [if_neg h1, if_neg h2, if_neg h4, if_pos (by omega), decide_eq_true hN, decide_eq_true hV]; rfl
                  have h0 : takesN p = 1 := by unfold takesN; rw [if_neg (by omega), if_pos (.inr h8)]
                  rw [beqE h8, cond_true]
                  have e8 := cutM (m := 1) (st := st) (k := 3) (g := fun x96 => some (x96, decide ((st.length : Int) > 0))) hs (by omega)
                  rw [show ((1 : Nat) : Int) = 1 from rfl] at e8
                  rw [e8]
                  by_cases hl : st.length < 1
                  · rw [decide_eq_false (by omega)]; exact same_no (kStep_few (by omega)) (by simp)
                  · obtain ⟨s, a, rfl⟩ := snoc1 (l := st) (by omega)
                    have hk : kindOf cs p [a] = (3, true) := by unfold kindOf; rw [if_neg h1, if_neg h2, if_neg h3, if_neg h4, if_pos h8]
                    rw [decide_eq_true (by simp), kStep_1 h0, ht, hk]
                    have e1 : (s ++ [a]).take ((s ++ [a]).length - 1) = s := by simp
                    rw [e1]
                    exact same_if (b := true) (by simp) (by simp)
                · rw [beqF h8, cond_false]
                  exact same_no (kStep_no (by unfold tells; rw [if_neg h1, if_neg h2, if_neg h4, if_neg (by omega)])) (by omega)
theorem spec_k_bad {cs : List Col} {e : List Pt} {st : List Int} {f : Nat} {k : Int} : m_spec_ExprKind_l1 (f + 1) cs e false k st = some (-1) := by
  have e2 : ∀ (K : List Col → List Pt → Bool → Int → List Int → Option Int), m_spec_ExprKind_j2 K cs e false k false st = some (-1) := fun K => by
    unfold m_spec_ExprKind_j2 m_spec_ExprKind_j3 m_spec_ExprKind_j4; rfl
  rw [m_spec_ExprKind_l1, e2]
  cases decide (k < (e.length : Int)) <;> rfl
theorem spec_k_loop {cs : List Col} {e : List Pt} (hc : cs.length ≤ 3000000) (he : e.length ≤ 1000) (hv : ∀ p ∈ e, p.V.S.size ≤ 3000000) : ∀ (n k f : Nat) (st : List Int), k + n = e.length → st.length ≤ k → n + 1 < f → m_spec_ExprKind_l1 f cs e true (k : Int) st = some (fin1 (kGo cs (e.drop k) st)) := by
  intro n
  induction n with
  | zero =>
    intro k f st hk hs hf
    obtain ⟨f, rfl⟩ : ∃ q, f = q + 1 := ⟨f - 1, by omega⟩
    obtain rfl : k = e.length := by omega
    rw [m_spec_ExprKind_l1, dnlt, cond_false, List.drop_length]
    unfold m_spec_ExprKind_j2 m_spec_ExprKind_j3 m_spec_ExprKind_j4
    show _ = some (fin1 (some st))
    rw [cond_false, Bool.not_true, cond_false]
    match st with
    | [] => rfl
    | [a] => rfl
    | a :: b :: r => rw [beqF' (by simp only [List.length_cons]; omega), cond_true]; rfl
  | succ n ih =>
    intro k f st hk hs hf
    obtain ⟨f, rfl⟩ : ∃ q, f = q + 1 := ⟨f - 1, by omega⟩
    have hx : e[k]? = some e[k] := List.getElem?_eq_getElem (by omega)
    have hd : e.drop k = e[k] :: e.drop (k + 1) := List.drop_eq_getElem_cons (by omega)
    obtain ⟨st', h1, h2, h3⟩ := E_spec_l4Step (cs := cs) (st := st) (p := e[k]) hc (hv _ (List.mem_of_getElem? hx)) (by omega)
    rw [m_spec_ExprKind_l1, dlt (by omega), cond_true]
    unfold m_spec_ExprKind_j2
    rw [cond_true, at_of hx, Option.bind_some, h1, Option.bind_some, ckI_of (by omega) (by omega), Option.bind_some, hd, kGo_c]
    show m_spec_ExprKind_l1 f cs e (kStep cs st e[k]).isSome ((k : Int) + 1) st' = _
    cases hk2 : kStep cs st e[k] with
    | none =>
      obtain ⟨f, rfl⟩ : ∃ q, f = q + 1 := ⟨f - 1, by omega⟩
      exact spec_k_bad
    | some s =>
      obtain rfl := h2 s hk2
      exact ih (k + 1) f _ (by omega) (by omega) (by omega)
theorem E_spec_ExprKind {cs : List Col} {e : List Pt} (hc : cs.length ≤ 3000000) (he : e.length ≤ 3000000) (hv : ∀ p ∈ e, p.V.S.size ≤ 3000000) : m_spec_ExprKind cs e = some (exprKind cs e) := by
  unfold m_spec_ExprKind exprKind m_spec_ExprKind_j1
  rw [E_spec_ColumnsOk hc, Option.bind_some]
  cases hk : colsOk cs with
  | false => rw [Bool.not_false, cond_true, cond_true, if_neg (fun h => by cases h.1)]
  | true =>
    rw [Bool.not_true, cond_false]
    by_cases hl : e.length ≤ 12
    · rw [decide_eq_false (by omega), cond_false, if_pos ⟨rfl, hl⟩]
      have := spec_k_loop hc (by omega) hv e.length 0 1000000000 [] (by omega) (by simp) (by omega)
      rw [List.drop_zero] at this
      exact this
    · rw [decide_eq_true (by omega), cond_true, if_neg (fun h => hl h.2)]
def vOf (t : Int) : V := if t = 0 ∨ t = 1 then ⟨3, t, ⟨#[]⟩⟩ else v0
def trOf (v : V) : Int := if vOk v then (if v.Kind = 0 then 2 else if v.Kind = 3 then v.N else -1) else -1
theorem E_impl_ValueOf (t : Int) : m_impl_ValueOf t = some (vOf t) := by
  unfold m_impl_ValueOf vOf
  rw [E_between, Option.bind_some]
  by_cases h : t = 0 ∨ t = 1
  · rw [if_pos h, show (decide (0 ≤ t) && decide (t ≤ 1)) = true by rcases h with h | h <;> subst h <;> rfl, Bool.not_true, cond_false]; rfl
  · have : (decide (0 ≤ t) && decide (t ≤ 1)) = false := by rw [Bool.and_eq_false_iff, decide_eq_false_iff_not, decide_eq_false_iff_not]; omega
    rw [if_neg h, this, Bool.not_false, cond_true]; rfl
theorem E_spec_ValueOf (t : Int) : m_spec_ValueOf t = some (vOf t) := by
  unfold m_spec_ValueOf m_spec_ValueOf_j1 vOf
  by_cases h0 : t = 0
  · rw [if_pos (.inl h0), beqE h0, cond_true, cond_true]; rfl
  · by_cases h1 : t = 1
    · rw [if_pos (.inr h1), beqF h0, cond_false, beqE h1, cond_true]; rfl
    · rw [if_neg (fun h => h.elim h0 h1), beqF h0, cond_false, beqF h1, cond_false]; rfl
theorem E_impl_TruthOf {v : V} (h : v.S.size ≤ 3000000) : m_impl_TruthOf v = some (trOf v) := by
  unfold m_impl_TruthOf trOf
  rw [E_Value_ok h, Option.bind_some]
  cases vOk v with
  | false => rfl
  | true =>
    rw [Bool.not_true, cond_false, if_pos rfl]
    by_cases h0 : v.Kind = 0
    · rw [beqE h0, cond_true, if_pos h0]
    · rw [beqF h0, cond_false, if_neg h0]
      by_cases h3 : v.Kind = 3
      · rw [beqE h3, cond_true, if_pos h3]
      · rw [beqF h3, cond_false, if_neg h3]
theorem vKinds {v : V} (h : vOk v = true) : v.Kind = 0 ∨ v.Kind = 1 ∨ v.Kind = 2 ∨ v.Kind = 3 := by
  unfold vOk at h
  by_cases h0 : v.Kind = 0
  · exact .inl h0
  · by_cases h1 : v.Kind = 1
    · exact .inr (.inl h1)
    · by_cases h2 : v.Kind = 2
      · exact .inr (.inr (.inl h2))
      · by_cases h3 : v.Kind = 3
        · exact .inr (.inr (.inr h3))
        · rw [if_neg h0, if_neg h1, if_neg h2, if_neg h3] at h; cases h
theorem E_spec_TruthOf {v : V} (h : v.S.size ≤ 3000000) : m_spec_TruthOf v = some (trOf v) := by
  unfold m_spec_TruthOf m_spec_TruthOf_j1 trOf
  rw [E_spec_ValueOk h, Option.bind_some]
  cases hv : vOk v with
  | false => rfl
  | true =>
    rw [Bool.not_true, cond_false, if_pos rfl]
    rcases vKinds hv with h | h | h | h
    · rw [beqF (by omega), cond_false, beqF (by omega), cond_false, beqE h, cond_true, if_pos h]
    · rw [beqE h, cond_true, cond_true, if_neg (by omega), if_neg (by omega)]
    · rw [beqF (by omega), cond_false, beqE h, cond_true, if_neg (by omega), if_neg (by omega)]
    · rw [beqF (by omega), cond_false, beqF (by omega), cond_false, beqF (by omega), cond_false, if_neg (by omega), if_pos h]
def tOk (a : Int) : Bool := decide (0 ≤ a) && decide (a ≤ 2)
def andT (a b : Int) : Int := if tOk a = true ∧ tOk b = true then (if a = 0 ∨ b = 0 then 0 else if a = 2 ∨ b = 2 then 2 else 1) else -1
def orT (a b : Int) : Int := if tOk a = true ∧ tOk b = true then (if a = 1 ∨ b = 1 then 1 else if a = 2 ∨ b = 2 then 2 else 0) else -1
def notT (a : Int) : Int := if a = 0 then 1 else if a = 1 then 0 else if a = 2 then 2 else -1
theorem tOk_3 {a : Int} (h : tOk a = true) : a = 0 ∨ a = 1 ∨ a = 2 := by unfold tOk at h; simp at h; omega
theorem E_impl_TruthOk (a : Int) : m_impl_TruthOk a = some (tOk a) := by unfold m_impl_TruthOk; rw [E_between, Option.bind_some]; rfl
theorem E_spec_TruthOk (a : Int) : m_spec_TruthOk a = some (tOk a) := by unfold m_spec_TruthOk; rw [E_l1In, Option.bind_some]; rfl
theorem fold_out {a b c : Int} (h : ¬ (tOk a = true ∧ tOk b = true)) : m_impl_fold a b c = some (-1) := by
  unfold m_impl_fold m_impl_fold_j1
  rw [E_impl_TruthOk, Option.bind_some, E_impl_TruthOk, Option.bind_some]
  cases ha : tOk a <;> cases hb : tOk b <;> first | rfl | exact absurd ⟨ha, hb⟩ h
theorem E_impl_AndOf (a b : Int) : m_impl_AndOf a b = some (andT a b) := by
  unfold m_impl_AndOf andT
  by_cases h : tOk a = true ∧ tOk b = true
  · rw [if_pos h]
    rcases tOk_3 h.1 with e | e | e <;> rcases tOk_3 h.2 with e2 | e2 | e2 <;> subst e <;> subst e2 <;> rfl
  · rw [if_neg h, fold_out h]; rfl
theorem E_impl_OrOf (a b : Int) : m_impl_OrOf a b = some (orT a b) := by
  unfold m_impl_OrOf orT
  by_cases h : tOk a = true ∧ tOk b = true
  · rw [if_pos h]
    rcases tOk_3 h.1 with e | e | e <;> rcases tOk_3 h.2 with e2 | e2 | e2 <;> subst e <;> subst e2 <;> rfl
  · rw [if_neg h, fold_out h]; rfl
theorem E_impl_NotOf (a : Int) : m_impl_NotOf a = some (notT a) := by
  unfold m_impl_NotOf notT
  by_cases h0 : a = 0
  · rw [beqE h0, cond_true, if_pos h0]
  · rw [beqF h0, cond_false, if_neg h0]
    by_cases h1 : a = 1
    · rw [beqE h1, cond_true, if_pos h1]
    · rw [beqF h1, cond_false, if_neg h1]
      by_cases h2 : a = 2
      · rw [beqE h2, cond_true, if_pos h2]
      · rw [beqF h2, cond_false, if_neg h2]
theorem E_spec_AndOf (a b : Int) : m_spec_AndOf a b = some (andT a b) := by
  unfold m_spec_AndOf m_spec_AndOf_j1 andT
  rw [E_spec_TruthOk, Option.bind_some, E_spec_TruthOk, Option.bind_some]
  by_cases h : tOk a = true ∧ tOk b = true
  · rw [if_pos h, h.1, h.2]
    rcases tOk_3 h.1 with e | e | e <;> rcases tOk_3 h.2 with e2 | e2 | e2 <;> subst e <;> subst e2 <;> rfl
  · rw [if_neg h]
    cases ha : tOk a <;> cases hb : tOk b <;> first | rfl | exact absurd ⟨ha, hb⟩ h
theorem E_spec_OrOf (a b : Int) : m_spec_OrOf a b = some (orT a b) := by
  unfold m_spec_OrOf m_spec_OrOf_j1 orT
  rw [E_spec_TruthOk, Option.bind_some, E_spec_TruthOk, Option.bind_some]
  by_cases h : tOk a = true ∧ tOk b = true
  · rw [if_pos h, h.1, h.2]
    rcases tOk_3 h.1 with e | e | e <;> rcases tOk_3 h.2 with e2 | e2 | e2 <;> subst e <;> subst e2 <;> rfl
  · rw [if_neg h]
    cases ha : tOk a <;> cases hb : tOk b <;> first | rfl | exact absurd ⟨ha, hb⟩ h
theorem E_spec_NotOf (a : Int) : m_spec_NotOf a = some (notT a) := by
  unfold m_spec_NotOf notT
  rw [E_spec_TruthOk, Option.bind_some]
  cases h : tOk a with
  | true =>
    rcases tOk_3 h with e | e | e <;> subst e <;> rfl
  | false =>
    have : ¬ a = 0 ∧ ¬ a = 1 ∧ ¬ a = 2 := ⟨(fun e => by subst e; cases h), (fun e => by subst e; cases h), (fun e => by subst e; cases h)⟩
    rw [Bool.not_false, cond_true, if_neg this.1, if_neg this.2.1, if_neg this.2.2]
def cmpR (k o : Int) : Bool := if k = 1 then decide (o = 0) else if k = 2 then !decide (o = 0) else if k = 3 then decide (o < 0) else decide (o ≤ 0)
def cmpT (k : Int) (a b : V) : Int := if ((decide (1 ≤ k) && decide (k ≤ 4)) && (vOk a && vOk b)) = true then (if a.Kind = 0 ∨ b.Kind = 0 then 2 else if a.Kind = b.Kind then (if cmpR k (vOrd a b) = true then 1 else 0) else -1) else -1
theorem E_impl_Compare {k : Int} {a b : V} (ha : a.S.size ≤ 3000000) (hb : b.S.size ≤ 3000000) : m_impl_Compare k a b = some (cmpT k a b) := by
  unfold m_impl_Compare cmpT
  have bad : m_impl_Compare_j1 k a b true = some (-1) := by unfold m_impl_Compare_j1; rfl
  rw [E_between, Option.bind_some, E_Value_ok ha, Option.bind_some, E_Value_ok hb, Option.bind_some]
  cases hr : (decide (1 ≤ k) && decide (k ≤ 4)) with
  | false => rw [Bool.not_false, cond_true, bad]; rfl
  | true =>
    rw [Bool.not_true, cond_false]
    cases hva : vOk a with
    | false => rw [Bool.not_false, cond_true, bad]; rfl
    | true =>
      rw [Bool.not_true, cond_false]
      cases hvb : vOk b with
      | false => rw [Bool.not_false, bad]; rfl
      | true =>
        rw [Bool.not_true, if_pos (show (true && (true && true)) = true from rfl)]
        unfold m_impl_Compare_j1 m_impl_Compare_j2
        rw [cond_false]
        by_cases h0 : a.Kind = 0
        · rw [beqE h0, cond_true, cond_true, if_pos (.inl h0)]
        · rw [beqF h0, cond_false]
          by_cases h1 : b.Kind = 0
          · rw [beqE h1, cond_true, if_pos (.inr h1)]
          · rw [beqF h1, cond_false, if_neg (fun h => h.elim h0 h1)]
            by_cases h2 : a.Kind = b.Kind
            · rw [if_pos h2, show (a.Kind != b.Kind) = false by simp [h2], cond_false, E_order, Option.bind_some]
              generalize vOrd a b = o
              simp at hr
              have hk : k = 1 ∨ k = 2 ∨ k = 3 ∨ k = 4 := by omega
              have e0 : (o == 0) = decide (o = 0) := beqD
              have e1 : (o != 0) = !decide (o = 0) := by by_cases h : o = 0 <;> simp [h]
              rw [e0, e1]
              unfold cmpR
              rcases hk with e | e | e | e <;> subst e
              · cases h : decide (o = 0) <;> rfl
              · cases h : decide (o = 0) <;> rfl
              · cases h : decide (o < 0) <;> rfl
              · cases h : decide (o ≤ 0) <;> rfl
            · rw [if_neg h2, beqF' h2, cond_true]
theorem E_spec_Compare {k : Int} {a b : V} (ha : vSm a) (hb : vSm b) : m_spec_Compare k a b = some (cmpT k a b) := by
  unfold m_spec_Compare cmpT
  have ha' : a.S.size ≤ 3000000 := by unfold vSm at ha; omega
  have hb' : b.S.size ≤ 3000000 := by unfold vSm at hb; omega
  have bad : m_spec_Compare_j1 k a b true = some (-1) := by unfold m_spec_Compare_j1; rfl
  rw [E_l1In, Option.bind_some, E_spec_ValueOk ha', Option.bind_some, E_spec_ValueOk hb', Option.bind_some]
  cases hr : (decide (1 ≤ k) && decide (k ≤ 4)) with
  | false => rw [Bool.not_false, cond_true, bad]; rfl
  | true =>
    rw [Bool.not_true, cond_false]
    cases hva : vOk a with
    | false => rw [Bool.not_false, cond_true, bad]; rfl
    | true =>
      rw [Bool.not_true, cond_false]
      cases hvb : vOk b with
      | false => rw [Bool.not_false, bad]; rfl
      | true =>
        rw [Bool.not_true, if_pos (show (true && (true && true)) = true from rfl)]
        unfold m_spec_Compare_j1 m_spec_Compare_j2
        rw [cond_false]
        by_cases h0 : a.Kind = 0
        · rw [beqE h0, cond_true, cond_true, if_pos (.inl h0)]
        · rw [beqF h0, cond_false]
          by_cases h1 : b.Kind = 0
          · rw [beqE h1, cond_true, if_pos (.inr h1)]
          · rw [beqF h1, cond_false, if_neg (fun h => h.elim h0 h1)]
            by_cases h2 : a.Kind = b.Kind
            · have ev : vvOrd a b = vOrd a b := by unfold vvOrd; rw [hva, hvb]; rfl
              rw [if_pos h2, show (a.Kind != b.Kind) = false by simp [h2], cond_false, E_ValueOrder ha hb, ev]
              generalize vOrd a b = o
              simp at hr
              have hk : k = 1 ∨ k = 2 ∨ k = 3 ∨ k = 4 := by omega
              have e0 : (o == 0) = decide (o = 0) := beqD
              have e1 : (o != 0) = !decide (o = 0) := by by_cases h : o = 0 <;> simp [h]
              rw [Option.bind_some, Option.bind_some, Option.bind_some, Option.bind_some, e0, e1]
              unfold cmpR
              rcases hk with e | e | e | e <;> subst e
              · cases h : decide (o = 0) <;> rfl
              · cases h : decide (o = 0) <;> rfl
              · cases h : decide (o < 0) <;> rfl
              · cases h : decide (o ≤ 0) <;> rfl
            · rw [if_neg h2, beqF' h2, cond_true]
def sumT (a b : V) : V := if (a.Kind = 0 ∨ b.Kind = 0) ∨ ¬ (-9999 ≤ a.N + b.N ∧ a.N + b.N ≤ 9999) then v0 else ⟨1, a.N + b.N, ⟨#[]⟩⟩
def valOf (row : Row) (p : Pt) (ins : List V) : V :=
  if p.Kind = 1 then p.V
  else if p.Kind = 2 then row.getD p.N.toNat v0
  else if p.Kind = 3 then sumT (ins.getD 0 v0) (ins.getD 1 v0)
  else if p.Kind = 4 then vOf (cmpT p.N (ins.getD 0 v0) (ins.getD 1 v0))
  else if p.Kind = 5 then vOf (andT (trOf (ins.getD 0 v0)) (trOf (ins.getD 1 v0)))
  else if p.Kind = 6 then vOf (orT (trOf (ins.getD 0 v0)) (trOf (ins.getD 1 v0)))
  else if p.Kind = 7 then vOf (notT (trOf (ins.getD 0 v0)))
  else vOf (if (ins.getD 0 v0).Kind = 0 then 1 else 0)
theorem vN {v : V} (h : vOk v = true) : (-9999 ≤ v.N ∧ v.N ≤ 9999) ∧ v.S.size ≤ 1000 := by
  unfold vOk at h
  by_cases h0 : v.Kind = 0
  · rw [if_pos h0] at h; have := of_decide_eq_true h; rw [this]; decide
  · by_cases h1 : v.Kind = 1
    · rw [if_neg h0, if_pos h1] at h; simp at h; rw [h.1]; exact ⟨⟨h.2.1, h.2.2⟩, by decide⟩
    · by_cases h2 : v.Kind = 2
      · rw [if_neg h0, if_neg h1, if_pos h2] at h; simp at h; exact ⟨by omega, by omega⟩
      · by_cases h3 : v.Kind = 3
        · rw [if_neg h0, if_neg h1, if_neg h2, if_pos h3] at h; simp at h; rw [h.1]; exact ⟨by omega, by decide⟩
        · rw [if_neg h0, if_neg h1, if_neg h2, if_neg h3] at h; cases h
theorem vOk_num (n : Int) : vOk ⟨1, n, ⟨#[]⟩⟩ = (decide (-9999 ≤ n) && decide (n ≤ 9999)) := by
  unfold vOk
  rw [if_neg (show ¬ (1 : Int) = 0 by decide), if_pos rfl, decide_eq_true (show (⟨#[]⟩ : ByteArray) = ⟨#[]⟩ from rfl), Bool.true_and]
theorem two_of {ins : List V} (h : ins.length = 2) : ∃ a b, ins = [a, b] := by
  match ins, h with
  | [a, b], _ => exact ⟨a, b, rfl⟩
theorem one_of {ins : List V} (h : ins.length = 1) : ∃ a, ins = [a] := by
  match ins, h with
  | [a], _ => exact ⟨a, rfl⟩
theorem E_impl_Part_value {cs : List Col} {row : Row} {p : Pt} {ins : List V} (ht : tells cs p = true) (hr : cs.length = row.length) (hl : ins.length = takesN p) (hi : ∀ v ∈ ins, vOk v = true) : m_impl_Part_value p row ins = some (valOf row p ins) := by
  unfold m_impl_Part_value valOf
  by_cases h1 : p.Kind = 1
  · rw [beqE h1, cond_true, if_pos h1, ltE']
  · rw [beqF h1, cond_false, if_neg h1]
    by_cases h2 : p.Kind = 2
    · obtain ⟨a, b⟩ := tells_2 ht h2
      have hx : row[p.N.toNat]? = some row[p.N.toNat] := List.getElem?_eq_getElem (by omega)
      have hat : at? row p.N = some row[p.N.toNat] := by
        have := at_of hx
        rwa [Int.toNat_of_nonneg a] at this
      rw [beqE h2, cond_true, if_pos h2, hat, Option.bind_some, ltE', List.getD_eq_getElem?_getD, hx]; rfl
    · rw [beqF h2, cond_false, if_neg h2]
      have t2 : p.Kind = 3 ∨ p.Kind = 4 ∨ p.Kind = 5 ∨ p.Kind = 6 → ∃ a b, ins = [a, b] ∧ vOk a = true ∧ vOk b = true := fun h => by
        obtain ⟨a, b, rfl⟩ := two_of (ins := ins) (by rw [hl]; unfold takesN; rw [if_pos h])
        exact ⟨a, b, rfl, hi a (by simp), hi b (by simp)⟩
      by_cases h3 : p.Kind = 3
      · obtain ⟨a, b, rfl, ha, hb⟩ := t2 (.inl h3)
        obtain ⟨⟨a1, a2⟩, _⟩ := vN ha
        obtain ⟨⟨b1, b2⟩, _⟩ := vN hb
        have e0 : at? [a, b] 0 = some a := rfl
        have e1 : at? [a, b] 1 = some b := rfl
        rw [beqE h3, cond_true, if_pos h3, e0, e1, Option.bind_some, Option.bind_some, ckI_of (by omega) (by omega), Option.bind_some, ltE', Option.bind_some]
        unfold m_impl_Part_value_j1
        show _ = some (sumT a b)
        unfold sumT
        by_cases ka : a.Kind = 0
        · rw [beqE ka, cond_true, cond_true, if_pos (.inl (.inl ka)), ltE']; rfl
        · rw [beqF ka, cond_false, Option.bind_some]
          by_cases kb : b.Kind = 0
          · rw [beqE kb, cond_true, cond_true, if_pos (.inl (.inr kb)), ltE']; rfl
          · rw [beqF kb, cond_false, E_Value_ok (v := ⟨1, a.N + b.N, ⟨#[]⟩⟩) (show (0 : Nat) ≤ 3000000 by decide), Option.bind_some, vOk_num]
            by_cases hn : -9999 ≤ a.N + b.N ∧ a.N + b.N ≤ 9999
            · rw [decide_eq_true hn.1, decide_eq_true hn.2, if_neg (fun h => h.elim (fun h => h.elim ka kb) (fun h => h hn))]; rfl
            · have : (decide (-9999 ≤ a.N + b.N) && decide (a.N + b.N ≤ 9999)) = false := by rw [Bool.and_eq_false_iff, decide_eq_false_iff_not, decide_eq_false_iff_not]; omega
              rw [this, if_pos (.inr hn)]; rfl
      · rw [beqF h3, cond_false, if_neg h3]
        by_cases h4 : p.Kind = 4
        · obtain ⟨a, b, rfl, ha, hb⟩ := t2 (.inr (.inl h4))
          have sa := (vN ha).2
          have sb := (vN hb).2
          have e0 : at? [a, b] 0 = some a := rfl
          have e1 : at? [a, b] 1 = some b := rfl
          rw [beqE h4, cond_true, if_pos h4, e0, e1, Option.bind_some, Option.bind_some, E_impl_Compare (by omega) (by omega), Option.bind_some, E_impl_ValueOf, Option.bind_some, ltE']; rfl
        · rw [beqF h4, cond_false, if_neg h4]
          by_cases h5 : p.Kind = 5
          · obtain ⟨a, b, rfl, ha, hb⟩ := t2 (.inr (.inr (.inl h5)))
            have sa := (vN ha).2
            have sb := (vN hb).2
            have e0 : at? [a, b] 0 = some a := rfl
            have e1 : at? [a, b] 1 = some b := rfl
            rw [beqE h5, cond_true, if_pos h5, e0, e1, Option.bind_some, E_impl_TruthOf (by omega), Option.bind_some, Option.bind_some, E_impl_TruthOf (by omega), Option.bind_some, E_impl_AndOf, Option.bind_some, E_impl_ValueOf, Option.bind_some, ltE']; rfl
          · rw [beqF h5, cond_false, if_neg h5]
            by_cases h6 : p.Kind = 6
            · obtain ⟨a, b, rfl, ha, hb⟩ := t2 (.inr (.inr (.inr h6)))
              have sa := (vN ha).2
              have sb := (vN hb).2
              have e0 : at? [a, b] 0 = some a := rfl
              have e1 : at? [a, b] 1 = some b := rfl
              rw [beqE h6, cond_true, if_pos h6, e0, e1, Option.bind_some, E_impl_TruthOf (by omega), Option.bind_some, Option.bind_some, E_impl_TruthOf (by omega), Option.bind_some, E_impl_OrOf, Option.bind_some, E_impl_ValueOf, Option.bind_some, ltE']; rfl
            · rw [beqF h6, cond_false, if_neg h6]
              have t1 : p.Kind = 7 ∨ p.Kind = 8 → ∃ a, ins = [a] ∧ vOk a = true := fun h => by
                obtain ⟨a, rfl⟩ := one_of (ins := ins) (by rw [hl]; unfold takesN; rw [if_neg (by omega), if_pos h])
                exact ⟨a, rfl, hi a (by simp)⟩
              by_cases h7 : p.Kind = 7
              · obtain ⟨a, rfl, ha⟩ := t1 (.inl h7)
                have sa := (vN ha).2
                have e0 : at? [a] 0 = some a := rfl
                rw [beqE h7, cond_true, if_pos h7, e0, Option.bind_some, E_impl_TruthOf (by omega), Option.bind_some, E_impl_NotOf, Option.bind_some, E_impl_ValueOf, Option.bind_some, ltE']; rfl
              · have h8 : p.Kind = 8 := by
                  unfold tells at ht
                  rw [if_neg h1, if_neg h2, if_neg h4] at ht
                  split at ht
                  · omega
                  · cases ht
                obtain ⟨a, rfl, ha⟩ := t1 (.inr h8)
                have e0 : at? [a] 0 = some a := rfl
                have et : m_impl_truthIf (a.Kind == 0) = some (if a.Kind = 0 then 1 else 0) := by
                  unfold m_impl_truthIf
                  by_cases h : a.Kind = 0
                  · rw [beqE h, cond_true, if_pos h]
                  · rw [beqF h, cond_false, if_neg h]
                rw [beqF h7, cond_false, if_neg h7, e0, Option.bind_some, et, Option.bind_some, E_impl_ValueOf, Option.bind_some, ltE']; rfl
theorem E_l4Sum {a b : V} (ha : vOk a = true) (hb : vOk b = true) : m_spec_l4Sum a b = some (sumT a b) := by
  obtain ⟨⟨a1, a2⟩, _⟩ := vN ha
  obtain ⟨⟨b1, b2⟩, _⟩ := vN hb
  unfold m_spec_l4Sum m_spec_l4Sum_j1 sumT
  rw [ckI_of (by omega) (by omega), Option.bind_some]
  by_cases ka : a.Kind = 0
  · rw [beqE ka, cond_true, cond_true, if_pos (.inl (.inl ka)), ltE']; rfl
  · rw [beqF ka, cond_false]
    by_cases kb : b.Kind = 0
    · rw [beqE kb, cond_true, cond_true, if_pos (.inl (.inr kb)), ltE']; rfl
    · rw [beqF kb, cond_false, E_l1In, Option.bind_some]
      by_cases hn : -9999 ≤ a.N + b.N ∧ a.N + b.N ≤ 9999
      · rw [decide_eq_true hn.1, decide_eq_true hn.2, if_neg (fun h => h.elim (fun h => h.elim ka kb) (fun h => h hn))]; rfl
      · have : (decide (-9999 ≤ a.N + b.N) && decide (a.N + b.N ≤ 9999)) = false := by rw [Bool.and_eq_false_iff, decide_eq_false_iff_not, decide_eq_false_iff_not]; omega
        rw [this, if_pos (.inr hn)]; rfl
theorem E_spec_l4Do {cs : List Col} {row : Row} {p : Pt} {st : List V} (ht : tells cs p = true) (hr : cs.length = row.length) (hl : takesN p ≤ st.length) (hs : st.length ≤ 1000) (hi : ∀ v ∈ st, vOk v = true) : m_spec_l4Do row st p = some (st.take (st.length - takesN p) ++ [valOf row p (st.drop (st.length - takesN p))]) := by
  unfold m_spec_l4Do valOf
  by_cases h1 : p.Kind = 1
  · have h0 : takesN p = 0 := by unfold takesN; rw [if_neg (by omega), if_neg (by omega)]
    rw [beqE h1, cond_true, if_pos h1, app_of (by simp; omega), Option.bind_some, h0, Nat.sub_zero, List.take_length]
  · rw [beqF h1, cond_false, if_neg h1]
    by_cases h2 : p.Kind = 2
    · have h0 : takesN p = 0 := by unfold takesN; rw [if_neg (by omega), if_neg (by omega)]
      obtain ⟨a, b⟩ := tells_2 ht h2
      have hx : row[p.N.toNat]? = some row[p.N.toNat] := List.getElem?_eq_getElem (by omega)
      have hat : at? row p.N = some row[p.N.toNat] := by
        have := at_of hx
        rwa [Int.toNat_of_nonneg a] at this
      rw [beqE h2, cond_true, if_pos h2, hat, Option.bind_some, app_of (by simp; omega), Option.bind_some, h0, Nat.sub_zero, List.take_length, List.getD_eq_getElem?_getD, hx]; rfl
    · rw [beqF h2, cond_false, if_neg h2]
      have t2 : p.Kind = 3 ∨ p.Kind = 4 ∨ p.Kind = 5 ∨ p.Kind = 6 → takesN p = 2 ∧ ∃ s a b, st = s ++ [a, b] ∧ vOk a = true ∧ vOk b = true := fun h => by
        have h0 : takesN p = 2 := by unfold takesN; rw [if_pos h]
        obtain ⟨s, a, b, rfl⟩ := snoc2 (l := st) (by omega)
        exact ⟨h0, s, a, b, rfl, hi a (by simp), hi b (by simp)⟩
      have ap2 : ∀ (s : List V) (a b v : V), s.length ≤ 1000 → appT? (s ++ [a, b]) (((s ++ [a, b]).length : Int) - 2).toNat [v] = some (s ++ [v]) := fun s a b v h => by
        unfold appT?
        have e : (((s ++ [a, b]).length : Int) - 2).toNat = s.length := by simp
        rw [e, if_pos (by simp; omega), List.take_left]
      have rg2 : ∀ (s : List V) (a b : V), ∃ u, rng? (0 : Int) (((s ++ [a, b]).length : Int) - 2) (s ++ [a, b]).length = some u := fun s a b => by
        unfold rng?; rw [if_pos (by simp; omega)]; exact ⟨_, rfl⟩
      have fin2 : ∀ (s : List V) (a b : V), (s ++ [a, b]).take ((s ++ [a, b]).length - 2) = s ∧ (s ++ [a, b]).drop ((s ++ [a, b]).length - 2) = [a, b] := fun s a b => by
        have e : (s ++ [a, b]).length - 2 = s.length := by simp
        rw [e, List.take_left, List.drop_left]; exact ⟨rfl, rfl⟩
      by_cases h3 : p.Kind = 3
      · obtain ⟨h0, s, a, b, rfl, ha, hb⟩ := t2 (.inl h3)
        have hsl : s.length ≤ 1000 := by simp at hs; omega
        obtain ⟨u, hu⟩ := rg2 s a b
        obtain ⟨f1, f2⟩ := fin2 s a b
        have sa := (vN ha).2
        have sb := (vN hb).2
        have c2 : ckI (((s ++ [a, b]).length : Int) - 2) = some (((s ++ [a, b]).length : Int) - 2) := ckI_of (by omega) (by omega)
        have c1 : ckI (((s ++ [a, b]).length : Int) - 1) = some (((s ++ [a, b]).length : Int) - 1) := ckI_of (by omega) (by omega)
        rw [beqE h3, cond_true, if_pos h3, h0, f1, f2, c2, Option.bind_some, hu, Option.bind_some, Option.bind_some, at_l2, Option.bind_some, Option.bind_some, c1, Option.bind_some, at_l1, Option.bind_some, Option.bind_some, E_l4Sum ha hb, Option.bind_some, ap2 s a b _ hsl, Option.bind_some]; rfl
      · rw [beqF h3, cond_false, if_neg h3]
        by_cases h4 : p.Kind = 4
        · obtain ⟨h0, s, a, b, rfl, ha, hb⟩ := t2 (.inr (.inl h4))
          have hsl : s.length ≤ 1000 := by simp at hs; omega
          obtain ⟨u, hu⟩ := rg2 s a b
          obtain ⟨f1, f2⟩ := fin2 s a b
          have sa := (vN ha).2
          have sb := (vN hb).2
          have c2 : ckI (((s ++ [a, b]).length : Int) - 2) = some (((s ++ [a, b]).length : Int) - 2) := ckI_of (by omega) (by omega)
          have c1 : ckI (((s ++ [a, b]).length : Int) - 1) = some (((s ++ [a, b]).length : Int) - 1) := ckI_of (by omega) (by omega)
          rw [beqE h4, cond_true, if_pos h4, h0, f1, f2, c2, Option.bind_some, hu, Option.bind_some, Option.bind_some, at_l2, Option.bind_some, Option.bind_some, c1, Option.bind_some, at_l1, Option.bind_some, Option.bind_some, E_spec_Compare (show vSm a by unfold vSm; omega) (show vSm b by unfold vSm; omega), Option.bind_some, E_spec_ValueOf, Option.bind_some, ap2 s a b _ hsl, Option.bind_some]; rfl
        · rw [beqF h4, cond_false, if_neg h4]
          by_cases h5 : p.Kind = 5
          · obtain ⟨h0, s, a, b, rfl, ha, hb⟩ := t2 (.inr (.inr (.inl h5)))
            have hsl : s.length ≤ 1000 := by simp at hs; omega
            obtain ⟨u, hu⟩ := rg2 s a b
            obtain ⟨f1, f2⟩ := fin2 s a b
            have sa := (vN ha).2
            have sb := (vN hb).2
            have c2 : ckI (((s ++ [a, b]).length : Int) - 2) = some (((s ++ [a, b]).length : Int) - 2) := ckI_of (by omega) (by omega)
            have c1 : ckI (((s ++ [a, b]).length : Int) - 1) = some (((s ++ [a, b]).length : Int) - 1) := ckI_of (by omega) (by omega)
            rw [beqE h5, cond_true, if_pos h5, h0, f1, f2, c2, Option.bind_some, hu, Option.bind_some, Option.bind_some, at_l2, Option.bind_some, Option.bind_some, E_spec_TruthOf (by omega), Option.bind_some, c1, Option.bind_some, at_l1, Option.bind_some, Option.bind_some, E_spec_TruthOf (by omega), Option.bind_some, E_spec_AndOf, Option.bind_some, E_spec_ValueOf, Option.bind_some, ap2 s a b _ hsl, Option.bind_some]; rfl
          · rw [beqF h5, cond_false, if_neg h5]
            by_cases h6 : p.Kind = 6
            · obtain ⟨h0, s, a, b, rfl, ha, hb⟩ := t2 (.inr (.inr (.inr h6)))
              have hsl : s.length ≤ 1000 := by simp at hs; omega
              obtain ⟨u, hu⟩ := rg2 s a b
              obtain ⟨f1, f2⟩ := fin2 s a b
              have sa := (vN ha).2
              have sb := (vN hb).2
              have c2 : ckI (((s ++ [a, b]).length : Int) - 2) = some (((s ++ [a, b]).length : Int) - 2) := ckI_of (by omega) (by omega)
              have c1 : ckI (((s ++ [a, b]).length : Int) - 1) = some (((s ++ [a, b]).length : Int) - 1) := ckI_of (by omega) (by omega)
              rw [beqE h6, cond_true, if_pos h6, h0, f1, f2, c2, Option.bind_some, hu, Option.bind_some, Option.bind_some, at_l2, Option.bind_some, Option.bind_some, E_spec_TruthOf (by omega), Option.bind_some, c1, Option.bind_some, at_l1, Option.bind_some, Option.bind_some, E_spec_TruthOf (by omega), Option.bind_some, E_spec_OrOf, Option.bind_some, E_spec_ValueOf, Option.bind_some, ap2 s a b _ hsl, Option.bind_some]; rfl
            · rw [beqF h6, cond_false, if_neg h6]
              have t1 : p.Kind = 7 ∨ p.Kind = 8 → takesN p = 1 ∧ ∃ s a, st = s ++ [a] ∧ vOk a = true := fun h => by
                have h0 : takesN p = 1 := by unfold takesN; rw [if_neg (by omega), if_pos h]
                obtain ⟨s, a, rfl⟩ := snoc1 (l := st) (by omega)
                exact ⟨h0, s, a, rfl, hi a (by simp)⟩
              have ap1 : ∀ (s : List V) (a v : V), s.length ≤ 1000 → appT? (s ++ [a]) (((s ++ [a]).length : Int) - 1).toNat [v] = some (s ++ [v]) := fun s a v h => by
                unfold appT?
                have e : (((s ++ [a]).length : Int) - 1).toNat = s.length := by simp
                rw [e, if_pos (by simp; omega), List.take_left]
              have rg1 : ∀ (s : List V) (a : V), ∃ u, rng? (0 : Int) (((s ++ [a]).length : Int) - 1) (s ++ [a]).length = some u := fun s a => by
                unfold rng?; rw [if_pos (by simp; omega)]; exact ⟨_, rfl⟩
              have fin1' : ∀ (s : List V) (a : V), (s ++ [a]).take ((s ++ [a]).length - 1) = s ∧ (s ++ [a]).drop ((s ++ [a]).length - 1) = [a] := fun s a => by
                have e : (s ++ [a]).length - 1 = s.length := by simp
                rw [e, List.take_left, List.drop_left]; exact ⟨rfl, rfl⟩
              by_cases h7 : p.Kind = 7
              · obtain ⟨h0, s, a, rfl, ha⟩ := t1 (.inl h7)
                have hsl : s.length ≤ 1000 := by simp at hs; omega
                obtain ⟨u, hu⟩ := rg1 s a
                obtain ⟨f1, f2⟩ := fin1' s a
                have sa := (vN ha).2
                have c1 : ckI (((s ++ [a]).length : Int) - 1) = some (((s ++ [a]).length : Int) - 1) := ckI_of (by omega) (by omega)
                rw [beqE h7, cond_true, if_pos h7, h0, f1, f2, c1, Option.bind_some, hu, Option.bind_some, Option.bind_some, at_s1, Option.bind_some, Option.bind_some, E_spec_TruthOf (by omega), Option.bind_some, E_spec_NotOf, Option.bind_some, E_spec_ValueOf, Option.bind_some, ap1 s a _ hsl, Option.bind_some]; rfl
              · have h8 : p.Kind = 8 := by
                  unfold tells at ht
                  rw [if_neg h1, if_neg h2, if_neg h4] at ht
                  split at ht
                  · omega
                  · cases ht
                obtain ⟨h0, s, a, rfl, ha⟩ := t1 (.inr h8)
                have hsl : s.length ≤ 1000 := by simp at hs; omega
                obtain ⟨u, hu⟩ := rg1 s a
                obtain ⟨f1, f2⟩ := fin1' s a
                have et : m_spec_l2Bool (a.Kind == 0) = some (if a.Kind = 0 then 1 else 0) := by
                  unfold m_spec_l2Bool
                  by_cases h : a.Kind = 0
                  · rw [beqE h, cond_true, if_pos h]
                  · rw [beqF h, cond_false, if_neg h]
                have c1 : ckI (((s ++ [a]).length : Int) - 1) = some (((s ++ [a]).length : Int) - 1) := ckI_of (by omega) (by omega)
                rw [beqF h7, cond_false, if_neg h7, h0, f1, f2, c1, Option.bind_some, hu, Option.bind_some, Option.bind_some, at_s1, Option.bind_some, Option.bind_some, et, Option.bind_some, E_spec_ValueOf, Option.bind_some, ap1 s a _ hsl, Option.bind_some]; rfl
def ptSm (e : List Pt) : Prop := e.length ≤ 1100000 ∧ ∀ p ∈ e, p.V.S.size ≤ 1100000
theorem getD_of {α : Type} {l : List α} {k : Nat} {x d : α} (h : l[k]? = some x) : l.getD k d = x := by rw [List.getD_eq_getElem?_getD, h]; rfl
theorem decT {α : Type} [DecidableEq α] {a : α} : decide (a = a) = true := decide_eq_true rfl
def vStep (row : Row) (st : List V) (p : Pt) : List V := st.take (st.length - takesN p) ++ [valOf row p (st.drop (st.length - takesN p))]
def exprVal (row : Row) (e : List Pt) : V := (e.foldl (vStep row) []).getD 0 v0
/-- A value of a kind, or none. -/
def tyV (v : V) (k : Int) : Prop := vOk v = true ∧ (v.Kind = k ∨ v.Kind = 0)
inductive Typed : List V → List Int → Prop
  | nil : Typed [] []
  | cons {v : V} {k : Int} {vs : List V} {ks : List Int} : tyV v k → Typed vs ks → Typed (v :: vs) (k :: ks)
theorem Typed.len {vs : List V} {ks : List Int} (h : Typed vs ks) : vs.length = ks.length := by
  induction h with
  | nil => rfl
  | cons _ _ ih => simp [ih]
theorem Typed.ok {vs : List V} {ks : List Int} (h : Typed vs ks) : ∀ v ∈ vs, vOk v = true := by
  induction h with
  | nil => simp
  | cons h _ ih =>
    intro v hv
    rcases List.mem_cons.1 hv with rfl | hv
    · exact h.1
    · exact ih v hv
theorem Typed.take {vs : List V} {ks : List Int} (h : Typed vs ks) (n : Nat) : Typed (vs.take n) (ks.take n) := by
  induction h generalizing n with
  | nil => simp; exact .nil
  | cons h _ ih =>
    cases n with
    | zero => exact .nil
    | succ n => exact .cons h (ih n)
theorem Typed.drop {vs : List V} {ks : List Int} (h : Typed vs ks) (n : Nat) : Typed (vs.drop n) (ks.drop n) := by
  induction h generalizing n with
  | nil => simp; exact .nil
  | cons h h2 ih =>
    cases n with
    | zero => exact .cons h h2
    | succ n => exact ih n
theorem Typed.snoc {vs : List V} {ks : List Int} (h : Typed vs ks) {v : V} {k : Int} (hv : tyV v k) : Typed (vs ++ [v]) (ks ++ [k]) := by
  induction h with
  | nil => exact .cons hv .nil
  | cons h _ ih => exact .cons h ih
theorem vOk_v0 : vOk v0 = true := by decide
theorem tyV_v0 (k : Int) : tyV v0 k := ⟨vOk_v0, .inr rfl⟩
theorem vOf_ty (t : Int) : tyV (vOf t) 3 := by
  unfold vOf
  split
  · rename_i h
    rcases h with rfl | rfl
    · exact ⟨by decide, .inl rfl⟩
    · exact ⟨by decide, .inl rfl⟩
  · exact tyV_v0 3
theorem sumT_ty (a b : V) : tyV (sumT a b) 1 := by
  unfold sumT
  split
  · exact tyV_v0 1
  · rename_i h
    have : -9999 ≤ a.N + b.N ∧ a.N + b.N ≤ 9999 := by
      rcases Classical.em (-9999 ≤ a.N + b.N ∧ a.N + b.N ≤ 9999) with h1 | h1
      · exact h1
      · exact absurd (.inr h1) h
    exact ⟨by rw [vOk_num, decide_eq_true this.1, decide_eq_true this.2]; rfl, .inl rfl⟩
theorem fits_get {cs : List Col} {row : Row} (h : rowFits cs row = true) : colsOk cs = true ∧ rowOk row = true ∧ row.length = cs.length ∧ ∀ (i : Nat) (v : V) (c : Col), row[i]? = some v → cs[i]? = some c → vFit v c = true := by
  unfold rowFits at h
  rw [Bool.and_eq_true, Bool.and_eq_true, Bool.and_eq_true, decide_eq_true_eq] at h
  obtain ⟨h1, h2, h3, h4⟩ := h
  refine ⟨h1, h2, h3, fun i v c hv hc => ?_⟩
  unfold all2 at h4
  have := List.all_eq_true.1 h4 (v, c) (List.mem_of_getElem? (i := i) (by rw [List.getElem?_zip_eq_some]; exact ⟨hv, hc⟩))
  exact this
theorem rowOk_all {row : Row} (h : rowOk row = true) : row.length ≤ 4 ∧ ∀ v ∈ row, vOk v = true := by
  unfold rowOk at h
  rw [Bool.and_eq_true, decide_eq_true_eq] at h
  exact ⟨h.1, fun v hv => List.all_eq_true.1 h.2 v hv⟩
theorem valOf_ty {cs : List Col} {row : Row} {p : Pt} {ins : List V} {ks : List Int} (hf : rowFits cs row = true) (ht : tells cs p = true) (h : Typed ins ks) : tyV (valOf row p ins) (kindOf cs p ks).1 := by
  obtain ⟨f1, f2, f3, f4⟩ := fits_get hf
  unfold valOf kindOf
  by_cases h1 : p.Kind = 1
  · rw [if_pos h1, if_pos h1]
    unfold tells at ht
    rw [if_pos h1, Bool.and_eq_true, Bool.and_eq_true] at ht
    exact ⟨ht.2.1, .inl rfl⟩
  · rw [if_neg h1, if_neg h1]
    by_cases h2 : p.Kind = 2
    · obtain ⟨a, b⟩ := tells_2 ht h2
      have hx : row[p.N.toNat]? = some row[p.N.toNat] := List.getElem?_eq_getElem (by omega)
      have hc : cs[p.N.toNat]? = some cs[p.N.toNat] := List.getElem?_eq_getElem (by omega)
      rw [if_pos h2, if_pos h2, getD_of hx, getD_of hc]
      have := f4 _ _ _ hx hc
      unfold vFit at this
      rw [Bool.or_eq_true, decide_eq_true_eq, Bool.and_eq_true, decide_eq_true_eq] at this
      exact ⟨(rowOk_all f2).2 _ (List.mem_of_getElem? hx), this.imp id (fun h => h.1)⟩
    · rw [if_neg h2, if_neg h2]
      by_cases h3 : p.Kind = 3
      · rw [if_pos h3, if_pos h3]; exact sumT_ty _ _
      · rw [if_neg h3, if_neg h3]
        by_cases h4 : p.Kind = 4
        · rw [if_pos h4, if_pos h4]; exact vOf_ty _
        · rw [if_neg h4, if_neg h4]
          have e : (if p.Kind = 8 then ((3 : Int), true) else (3, ks.all fun k => decide (k = 3))).1 = 3 := by split <;> rfl
          rw [e]
          split
          · exact vOf_ty _
          · split
            · exact vOf_ty _
            · split
              · exact vOf_ty _
              · exact vOf_ty _
theorem kStep_some {cs : List Col} {ks ks' : List Int} {p : Pt} (h : kStep cs ks p = some ks') : tells cs p = true ∧ takesN p ≤ ks.length ∧ (kindOf cs p (ks.drop (ks.length - takesN p))).2 = true ∧ ks' = ks.take (ks.length - takesN p) ++ [(kindOf cs p (ks.drop (ks.length - takesN p))).1] := by
  unfold kStep at h
  split at h
  · rename_i g; cases h; exact ⟨g.1, g.2.1, g.2.2, rfl⟩
  · cases h
theorem vStep_ty {cs : List Col} {row : Row} {p : Pt} {vs : List V} {ks ks' : List Int} (hf : rowFits cs row = true) (h : Typed vs ks) (hk : kStep cs ks p = some ks') : Typed (vStep row vs p) ks' := by
  obtain ⟨h1, h2, h3, rfl⟩ := kStep_some hk
  unfold vStep
  rw [h.len]
  exact (h.take _).snoc (valOf_ty hf h1 (h.drop _))
/-- A run of the kinds goes with one of the values. -/
theorem run_ty {cs : List Col} {row : Row} (hf : rowFits cs row = true) : ∀ (e : List Pt) (vs : List V) (ks ks' : List Int), Typed vs ks → kGo cs e ks = some ks' → Typed (e.foldl (vStep row) vs) ks'
  | [], vs, ks, ks', h, hk => by cases hk; exact h
  | p :: e, vs, ks, ks', h, hk => by
    rw [kGo_c] at hk
    cases hs : kStep cs ks p with
    | none => rw [hs] at hk; cases hk
    | some k1 => rw [hs, Option.bind_some] at hk; exact run_ty hf e _ _ _ (vStep_ty hf h hs) hk
theorem kind_run {cs : List Col} {e : List Pt} (h : 0 ≤ exprKind cs e) : colsOk cs = true ∧ e.length ≤ 12 ∧ kGo cs e [] = some [exprKind cs e] := by
  unfold exprKind at h ⊢
  split at h
  · rename_i g
    rw [if_pos g]
    refine ⟨g.1, g.2, ?_⟩
    cases hk : kGo cs e [] with
    | none => rw [hk] at h; exact absurd h (by decide)
    | some l =>
      rw [hk] at h
      match l with
      | [] => exact absurd h (show ¬ (0 : Int) ≤ -1 by decide)
      | [k] => rfl
      | a :: b :: r => exact absurd h (show ¬ (0 : Int) ≤ -1 by decide)
  · exact absurd h (by decide)
/-- The value has the kind that was told, or none. -/
theorem exprVal_ty {cs : List Col} {row : Row} {e : List Pt} (h : 0 ≤ exprKind cs e) (hf : rowFits cs row = true) : tyV (exprVal row e) (exprKind cs e) ∧ e.foldl (vStep row) [] = [exprVal row e] := by
  obtain ⟨_, _, hk⟩ := kind_run h
  have := run_ty hf e [] [] _ .nil hk
  unfold exprVal
  generalize e.foldl (vStep row) [] = l at this ⊢
  cases this with
  | cons h1 h2 => cases h2 with | nil => exact ⟨h1, rfl⟩
theorem foldl_drop {α β : Type} (f : β → α → β) (l : List α) (k : Nat) (x : α) (b : β) (h : l[k]? = some x) : (l.drop k).foldl f b = (l.drop (k + 1)).foldl f (f b x) := by
  have hk := lt_of_at h
  rw [List.drop_eq_getElem_cons hk, List.foldl_cons]
  have : l[k] = x := by rw [List.getElem?_eq_getElem hk] at h; exact Option.some.inj h
  rw [this]
theorem kGo_drop {cs : List Col} {l : List Pt} {k : Nat} {p : Pt} {ks r : List Int} (h : l[k]? = some p) (hk : kGo cs (l.drop k) ks = some r) : ∃ k1, kStep cs ks p = some k1 ∧ kGo cs (l.drop (k + 1)) k1 = some r := by
  have hl := lt_of_at h
  rw [List.drop_eq_getElem_cons hl, kGo_c] at hk
  have : l[k] = p := by rw [List.getElem?_eq_getElem hl] at h; exact Option.some.inj h
  rw [this] at hk
  cases hs : kStep cs ks p with
  | none => rw [hs] at hk; cases hk
  | some k1 => rw [hs, Option.bind_some] at hk; exact ⟨k1, rfl, hk⟩
theorem impl_v_loop {cs : List Col} {row : Row} {e : List Pt} {z : V} (hf : rowFits cs row = true) (he : e.length ≤ 12) {r : Int} : ∀ (n k f : Nat) (vs : List V) (ks : List Int), k + n = e.length → Typed vs ks → kGo cs (e.drop k) ks = some [r] → ks.length ≤ k → n < f → m_impl_exprValue_l1 f row e (e.length : Int) (k : Int) z vs = some (((e.drop k).foldl (vStep row) vs).getD 0 v0) := by
  intro n
  induction n with
  | zero =>
    intro k f vs ks hk ht hg hl hf'
    obtain ⟨f, rfl⟩ : ∃ q, f = q + 1 := ⟨f - 1, by omega⟩
    obtain rfl : k = e.length := by omega
    rw [List.drop_length] at hg ⊢
    cases hg
    cases ht with
    | cons h1 h2 =>
      cases h2 with
      | nil =>
        rw [m_impl_exprValue_l1, dnlt, cond_false]; rfl
  | succ n ih =>
    intro k f vs ks hk ht hg hl hf'
    obtain ⟨f, rfl⟩ : ∃ q, f = q + 1 := ⟨f - 1, by omega⟩
    have hx : e[k]? = some e[k] := List.getElem?_eq_getElem (by omega)
    generalize e[k] = p at hx
    obtain ⟨k1, g1, g2⟩ := kGo_drop hx hg
    obtain ⟨t1, t2, t3, t4⟩ := kStep_some g1
    have hlen := ht.len
    have htk := takes_le p
    have hin : (vs.drop (vs.length - takesN p)).length = takesN p := by rw [List.length_drop]; omega
    obtain ⟨f1, f2, f3, f4⟩ := fits_get hf
    rw [m_impl_exprValue_l1, dlt (by omega), cond_true, at_of hx, Option.bind_some, ltE, E_takes, Option.bind_some, ckI_of (by omega) (by omega), Option.bind_some]
    have e0 : (vs.length : Int) - (takesN p : Int) = ((vs.length - takesN p : Nat) : Int) := by omega
    have hdl : (vs.drop (0 + (vs.length - takesN p))).take (vs.length - (vs.length - takesN p)) = vs.drop (vs.length - takesN p) := by
      rw [Nat.zero_add, List.take_of_length_le (by rw [List.length_drop]; omega)]
    unfold rng? leN appT?
    rw [e0, Int.toNat_natCast, if_pos (by omega), Option.bind_some, if_pos (by omega), Option.bind_some, hdl, E_impl_Part_value (cs := cs) t1 f3.symm hin (fun v hv => ht.ok v (List.mem_of_mem_drop hv)), Option.bind_some, ltE, if_pos (by omega), Option.bind_some, if_pos (by simp; omega), Option.bind_some, ckI_of (by omega) (by omega), Option.bind_some, foldl_drop _ _ _ _ _ hx]
    have hst := vStep_ty hf ht g1
    have hk1 : k1.length ≤ k + 1 := by rw [t4]; simp; omega
    exact ih (k + 1) f (vStep row vs p) k1 (by omega) hst g2 hk1 (by omega)
theorem E_impl_exprValue {cs : List Col} {row : Row} {e : List Pt} (h : 0 ≤ exprKind cs e) (hf : rowFits cs row = true) : m_impl_exprValue row e = some (exprVal row e) := by
  obtain ⟨h1, h2, h3⟩ := kind_run h
  unfold m_impl_exprValue exprVal
  have := impl_v_loop (z := ⟨0, 0, ⟨#[]⟩⟩) hf h2 (r := exprKind cs e) e.length 0 _ [] [] (by omega) .nil (by rw [List.drop_zero]; exact h3) (by simp) (fuel0 (n := e.length))
  rw [List.drop_zero] at this
  exact this
theorem spec_v_loop {cs : List Col} {row : Row} {e : List Pt} {z : V} (hf : rowFits cs row = true) (he : e.length ≤ 12) {r : Int} : ∀ (n k f : Nat) (vs : List V) (ks : List Int), k + n = e.length → Typed vs ks → kGo cs (e.drop k) ks = some [r] → ks.length ≤ k → n < f → m_spec_l4Value_l1 f row e (k : Int) z vs = some (((e.drop k).foldl (vStep row) vs).getD 0 v0) := by
  intro n
  induction n with
  | zero =>
    intro k f vs ks hk ht hg hl hf'
    obtain ⟨f, rfl⟩ : ∃ q, f = q + 1 := ⟨f - 1, by omega⟩
    obtain rfl : k = e.length := by omega
    rw [List.drop_length] at hg ⊢
    cases hg
    cases ht with
    | cons h1 h2 =>
      cases h2 with
      | nil =>
        rw [m_spec_l4Value_l1, dnlt, cond_false]; rfl
  | succ n ih =>
    intro k f vs ks hk ht hg hl hf'
    obtain ⟨f, rfl⟩ : ∃ q, f = q + 1 := ⟨f - 1, by omega⟩
    have hx : e[k]? = some e[k] := List.getElem?_eq_getElem (by omega)
    generalize e[k] = p at hx
    obtain ⟨k1, g1, g2⟩ := kGo_drop hx hg
    obtain ⟨t1, t2, t3, t4⟩ := kStep_some g1
    have hlen := ht.len
    obtain ⟨f1, f2, f3, f4⟩ := fits_get hf
    rw [m_spec_l4Value_l1, dlt (by omega), cond_true, at_of hx, Option.bind_some, E_spec_l4Do (cs := cs) t1 f3.symm (by omega) (by omega) (fun v hv => ht.ok v hv), Option.bind_some, ckI_of (by omega) (by omega), Option.bind_some, foldl_drop _ _ _ _ _ hx]
    have hk1 : k1.length ≤ k + 1 := by rw [t4]; simp; omega
    exact ih (k + 1) f (vStep row vs p) k1 (by omega) (vStep_ty hf ht g1) g2 hk1 (by omega)
theorem E_spec_l4Value {cs : List Col} {row : Row} {e : List Pt} (h : 0 ≤ exprKind cs e) (hf : rowFits cs row = true) : m_spec_l4Value row e = some (exprVal row e) := by
  obtain ⟨h1, h2, h3⟩ := kind_run h
  unfold m_spec_l4Value exprVal
  have := spec_v_loop (z := ⟨0, 0, ⟨#[]⟩⟩) hf h2 (r := exprKind cs e) e.length 0 _ [] [] (by omega) .nil (by rw [List.drop_zero]; exact h3) (by simp) (fuel0 (n := e.length))
  rw [List.drop_zero] at this
  exact this
/-- The value of an expression on a row; nothing for others. -/
def exprValue (cs : List Col) (row : Row) (e : List Pt) : V := if 0 ≤ exprKind cs e ∧ rowFits cs row = true then exprVal row e else v0
theorem E_impl_ExprValue {cs : List Col} {row : Row} {e : List Pt} (hc : cs.length ≤ 1100000) (hr : rSm row) (he : ptSm e) : m_impl_ExprValue cs row e = some (exprValue cs row e) := by
  unfold m_impl_ExprValue m_impl_ExprValue_j1 exprValue
  rw [E_impl_ExprKind (by omega) (by have := he.1; omega) (fun p hp => by have := he.2 p hp; omega), Option.bind_some]
  by_cases hk : 0 ≤ exprKind cs e
  · rw [decide_eq_false (by omega), cond_false, E_impl_RowFits (by omega) hr, Option.bind_some]
    cases hf : rowFits cs row with
    | false => rw [Bool.not_false, cond_true, if_neg (fun h => by cases h.2)]; rfl
    | true => rw [Bool.not_true, cond_false, E_impl_exprValue hk hf, Option.bind_some, if_pos ⟨hk, rfl⟩, ltE]
  · rw [decide_eq_true (by omega), cond_true, cond_true, if_neg (fun h => hk h.1)]; rfl
theorem E_spec_ExprValue {cs : List Col} {row : Row} {e : List Pt} (hc : cs.length ≤ 1100000) (hr : rSm row) (he : ptSm e) : m_spec_ExprValue cs row e = some (exprValue cs row e) := by
  unfold m_spec_ExprValue m_spec_ExprValue_j1 exprValue
  rw [E_spec_ExprKind (by omega) (by have := he.1; omega) (fun p hp => by have := he.2 p hp; omega), Option.bind_some]
  by_cases hk : 0 ≤ exprKind cs e
  · rw [decide_eq_false (by omega), cond_false, E_spec_RowFits (by omega) hr, Option.bind_some]
    cases hf : rowFits cs row with
    | false => rw [Bool.not_false, cond_true, if_neg (fun h => by cases h.2)]; rfl
    | true => rw [Bool.not_true, cond_false, E_spec_l4Value hk hf, Option.bind_some, if_pos ⟨hk, rfl⟩, ltE]
  · rw [decide_eq_true (by omega), cond_true, cond_true, if_neg (fun h => hk h.1)]; rfl
def yes : V := ⟨3, 1, ⟨#[]⟩⟩
def exprHolds (cs : List Col) (row : Row) (e : List Pt) : Bool := decide (exprKind cs e = 3) && (rowFits cs row && decide (exprVal row e = yes))
theorem vOf_1 : vOf 1 = yes := rfl
theorem E_impl_exprHolds {cs : List Col} {row : Row} {e : List Pt} (h : 0 ≤ exprKind cs e) (hf : rowFits cs row = true) : m_impl_exprHolds row e = some (decide (exprVal row e = yes)) := by
  unfold m_impl_exprHolds
  rw [E_impl_exprValue h hf, Option.bind_some, E_impl_ValueOf, Option.bind_some, vOf_1]
theorem E_impl_ExprHolds {cs : List Col} {row : Row} {e : List Pt} (hc : cs.length ≤ 1100000) (hr : rSm row) (he : ptSm e) : m_impl_ExprHolds cs row e = some (exprHolds cs row e) := by
  unfold m_impl_ExprHolds m_impl_ExprHolds_j1 exprHolds
  rw [E_impl_ExprKind (by omega) (by have := he.1; omega) (fun p hp => by have := he.2 p hp; omega), Option.bind_some]
  by_cases hk : exprKind cs e = 3
  · rw [beqE hk, cond_true, E_impl_RowFits (by omega) hr, Option.bind_some, decide_eq_true hk, Bool.true_and]
    cases hf : rowFits cs row with
    | false => rw [cond_false, Bool.false_and]
    | true => rw [cond_true, E_impl_exprHolds (by omega) hf, Option.bind_some, Bool.true_and]
  · rw [beqF hk, cond_false, decide_eq_false hk, Bool.false_and]
def pSz (p : Pt) : Prop := p.V.S.size ≤ 20
theorem T_Leaf {o : Rd} {cs : List Col} {k : Int} (ho : 0 ≤ o.p ∧ o.p ≤ 1000000000 - 1000) : Tot (m_spec_l20Leaf o cs k) fun r => pSz r.1 ∧ o.p ≤ r.2.p ∧ r.2.p ≤ o.p + 11 := by
  unfold m_spec_l20Leaf
  have e0 : ByteArray.size ⟨#[]⟩ = 0 := rfl
  have j3 : ∀ (q : Rd) (z : Pt), o.p ≤ q.p → q.p ≤ o.p + 8 → Tot (m_spec_l20Leaf_j3 k q z) fun r => pSz r.1 ∧ o.p ≤ r.2.p ∧ r.2.p ≤ o.p + 11 := by
    intro q z h1 h2
    unfold m_spec_l20Leaf_j3
    refine Tot.bind (T_l20Like (by omega)) (fun r hr => Tot.lt (Tot.ret ⟨hr.1.1, by simp only; omega, by simp only; omega⟩))
  refine Tot.up 4 (fun n t (s : Rd) => m_spec_l20Leaf_l1 n cs k t s ⟨0, 0, ⟨0, 0, ⟨#[]⟩⟩⟩) (fun t s => o.p ≤ s.p ∧ s.p ≤ o.p + 2 * t) (fun n s h => ?_) (fun n t s h0 h1 h ih => ?_) _ 0 o (by omega) (by omega) (by omega) (by omega)
  · rw [m_spec_l20Leaf_l1, show decide ((4 : Int) < 4) = false from rfl, cond_false]
    unfold m_spec_l20Leaf_j1
    rw [cond_false]
    exact j3 s _ h.1 (by omega)
  · rw [m_spec_l20Leaf_l1, decide_eq_true h1, cond_true]
    unfold m_spec_l20Leaf_j1
    refine Tot.bif (fun hl => ?_) (fun _ => j3 s _ h.1 (by omega))
    rw [decide_eq_true_eq] at hl
    refine Tot.bind (T_pick (by omega)) (fun r hr => Tot.at (by omega) (by omega) (fun c _ => ?_))
    have j2 : ∀ (b : Bool) (q : Rd) (i : Int) (z : Pt), o.p ≤ q.p → q.p ≤ o.p + 2 * (t + 1) → z = ⟨0, 0, ⟨0, 0, ⟨#[]⟩⟩⟩ → Tot (m_spec_l20Leaf_j2 (m_spec_l20Leaf_l1 n) cs k t i b q z) fun r => pSz r.1 ∧ o.p ≤ r.2.p ∧ r.2.p ≤ o.p + 11 := by
      intro b q i z g1 g2 g3
      subst g3
      unfold m_spec_l20Leaf_j2
      refine Tot.bif (fun _ => Tot.lt (Tot.ret ⟨?_, by simp only; omega, by simp only; omega⟩)) (fun _ => Tot.ck (by omega) (by omega) (ih q ⟨g1, g2⟩))
      show ByteArray.size ⟨#[]⟩ ≤ 20
      omega
    refine Tot.bif (fun _ => Tot.bind (T_pick (by omega)) (fun q hq => j2 _ _ _ _ (by omega) (by omega) rfl)) (fun _ => j2 _ _ _ _ (by omega) (by omega) rfl)
theorem pSz_app {a b : List Pt} (ha : ∀ p ∈ a, pSz p) (hb : ∀ p ∈ b, pSz p) : ∀ p ∈ a ++ b, pSz p := fun p hp => (List.mem_append.1 hp).elim (ha p) (hb p)
theorem pSz_one {p : Pt} (h : pSz p) : ∀ q ∈ [p], pSz q := fun q hq => by rw [List.mem_singleton.1 hq]; exact h
theorem pSz_0 {k n : Int} : pSz ⟨k, n, ⟨0, 0, ⟨#[]⟩⟩⟩ := by show ByteArray.size ⟨#[]⟩ ≤ 20; decide
def ExQ (o : Rd) (N : Nat) (r : List Pt × Rd) : Prop := 1 ≤ r.1.length ∧ r.1.length + 1 ≤ 2 * N ∧ (∀ p ∈ r.1, pSz p) ∧ o.p ≤ r.2.p ∧ r.2.p + 50 ≤ o.p + 100 * (N : Int)
theorem T_Expr : ∀ (n f : Nat), n < f → ∀ (o : Rd) (cs : List Col) (k d : Int), d ≤ n → (-100 ≤ d ∧ d ≤ 100) → 0 ≤ o.p → o.p + 100 * ((2 ^ n : Nat) : Int) ≤ 900000000 → Tot (m_spec_l20Expr f o cs k d) (ExQ o (2 ^ n)) := by
  intro n
  induction n with
  | zero =>
    intro f hf o cs k d hd hd2 ho hb
    obtain ⟨f, rfl⟩ : ∃ q, f = q + 1 := ⟨f - 1, by omega⟩
    show Tot (m_spec_l20Expr_b (m_spec_l20Expr f) o cs k d) _
    unfold m_spec_l20Expr_b m_spec_l20Expr_j1
    rw [decide_eq_true (show d < 1 by omega), cond_true, cond_true]
    refine Tot.bind (T_Leaf (by omega)) (fun r hr => Tot.lt (Tot.ret ⟨Nat.le_refl _, by simp, pSz_one hr.1, hr.2.1, ?_⟩))
    simp only [Nat.pow_zero]; omega
  | succ n ih =>
    intro f hf o cs k d hd hd2 ho hb
    obtain ⟨f, rfl⟩ : ∃ q, f = q + 1 := ⟨f - 1, by omega⟩
    have ih := ih f (by omega)
    have e2 : (2 ^ (n + 1) : Nat) = 2 * 2 ^ n := by rw [Nat.pow_succ]; omega
    rw [e2] at hb ⊢
    have hN : 1 ≤ 2 ^ n := Nat.one_le_two_pow
    generalize (2 ^ n : Nat) = N at ih hb hN ⊢
    show Tot (m_spec_l20Expr_b (m_spec_l20Expr f) o cs k d) _
    unfold m_spec_l20Expr_b
    have j1 : ∀ (b : Bool) (q : Rd), o.p ≤ q.p → q.p ≤ o.p + 1 → (b = false → 1 ≤ d) → Tot (m_spec_l20Expr_j1 (m_spec_l20Expr f) cs k d b q) (ExQ o (2 * N)) := by
      intro b q g1 g2 g3
      unfold m_spec_l20Expr_j1
      refine Tot.bif (fun _ => Tot.bind (T_Leaf (by omega)) (fun r hr => Tot.lt (Tot.ret ⟨Nat.le_refl _, by simp only [List.length_cons, List.length_nil]; omega, pSz_one hr.1, by simp only; omega, by simp only; omega⟩))) (fun hb1 => ?_)
      have hd1 := g3 hb1
      refine Tot.bif (fun _ => ?_) (fun _ => Tot.bif (fun _ => ?_) (fun _ => ?_))
      · refine Tot.ck (by omega) (by omega) (Tot.bind (ih q cs k (d - 1) (by omega) (by omega) (by omega) (by omega)) (fun r hr => Tot.bind (T_Leaf (by have := hr.2.2.2; omega)) (fun u hu => ?_)))
        obtain ⟨r1, r2, r3, r4, r5⟩ := hr
        refine Tot.app (by simp only [List.length_cons, List.length_nil]; omega) (Tot.app (by simp only [List.length_append, List.length_cons, List.length_nil]; omega) (Tot.ret ⟨?_, ?_, pSz_app (pSz_app r3 (pSz_one hu.1)) (pSz_one pSz_0), by simp only; omega, by simp only; omega⟩))
        · simp only [List.length_append, List.length_cons, List.length_nil]; omega
        · simp only [List.length_append, List.length_cons, List.length_nil]; omega
      · exact Tot.bind (T_Leaf (by omega)) (fun r hr => Tot.lt (Tot.ret ⟨Nat.le_refl _, by simp only [List.length_cons, List.length_nil]; omega, pSz_one hr.1, by simp only; omega, by simp only; omega⟩))
      · refine Tot.bind (T_pick (by omega)) (fun c hc => Tot.bif (fun _ => ?_) (fun _ => Tot.bif (fun _ => ?_) (fun _ => Tot.bif (fun _ => ?_) (fun _ => ?_))))
        · refine Tot.ck (by omega) (by omega) (Tot.bind (ih c.2 cs 3 (d - 1) (by omega) (by omega) (by omega) (by omega)) (fun r hr => ?_))
          obtain ⟨r1, r2, r3, r4, r5⟩ := hr
          refine Tot.ck (by omega) (by omega) (Tot.bind (ih r.2 cs 3 (d - 2) (by omega) (by omega) (by omega) (by omega)) (fun s hs => ?_))
          obtain ⟨s1, s2, s3, s4, s5⟩ := hs
          refine Tot.app (by omega) (Tot.bind (T_pick (by omega)) (fun u hu => Tot.ck (by omega) (by omega) (Tot.app (by simp only [List.length_append, List.length_cons, List.length_nil]; omega) (Tot.ret ⟨?_, ?_, pSz_app (pSz_app r3 s3) (pSz_one pSz_0), by simp only; omega, by simp only; omega⟩))))
          · simp only [List.length_append, List.length_cons, List.length_nil]; omega
          · simp only [List.length_append, List.length_cons, List.length_nil]; omega
        · refine Tot.ck (by omega) (by omega) (Tot.bind (ih c.2 cs 3 (d - 1) (by omega) (by omega) (by omega) (by omega)) (fun r hr => ?_))
          obtain ⟨r1, r2, r3, r4, r5⟩ := hr
          refine Tot.app (by simp only [List.length_cons, List.length_nil]; omega) (Tot.ret ⟨?_, ?_, pSz_app r3 (pSz_one pSz_0), by simp only; omega, by simp only; omega⟩)
          · simp only [List.length_append, List.length_cons, List.length_nil]; omega
          · simp only [List.length_append, List.length_cons, List.length_nil]; omega
        · refine Tot.bind (T_pick (by omega)) (fun u hu => Tot.ck (by omega) (by omega) (Tot.ck (by omega) (by omega) (Tot.bind (ih u.2 cs (1 + u.1) (d - 1) (by omega) (by omega) (by omega) (by omega)) (fun r hr => ?_))))
          obtain ⟨r1, r2, r3, r4, r5⟩ := hr
          refine Tot.app (by simp only [List.length_cons, List.length_nil]; omega) (Tot.ret ⟨?_, ?_, pSz_app r3 (pSz_one pSz_0), by simp only; omega, by simp only; omega⟩)
          · simp only [List.length_append, List.length_cons, List.length_nil]; omega
          · simp only [List.length_append, List.length_cons, List.length_nil]; omega
        · refine Tot.bind (T_pick (by omega)) (fun u hu => Tot.ck (by omega) (by omega) (Tot.ck (by omega) (by omega) (Tot.bind (ih u.2 cs (1 + u.1) (d - 1) (by omega) (by omega) (by omega) (by omega)) (fun r hr => ?_))))
          obtain ⟨r1, r2, r3, r4, r5⟩ := hr
          refine Tot.bind (T_Leaf (by omega)) (fun w hw => Tot.app (by simp only [List.length_cons, List.length_nil]; omega) (Tot.bind (T_pick (by omega)) (fun x hx => Tot.ck (by omega) (by omega) (Tot.app (by simp only [List.length_append, List.length_cons, List.length_nil]; omega) (Tot.ret ⟨?_, ?_, pSz_app (pSz_app r3 (pSz_one hw.1)) (pSz_one pSz_0), by simp only; omega, by simp only; omega⟩)))))
          · simp only [List.length_append, List.length_cons, List.length_nil]; omega
          · simp only [List.length_append, List.length_cons, List.length_nil]; omega
    refine Tot.bif (fun h => j1 true o (by omega) (by omega) (fun h => by cases h)) (fun h => Tot.bind (T_pick (by omega)) (fun r hr => j1 _ _ (by omega) (by omega) (fun _ => ?_)))
    rw [decide_eq_false_iff_not] at h
    omega
theorem T_Expr3 {o : Rd} {cs : List Col} {k d : Int} (hd : d ≤ 3) (hd2 : -100 ≤ d) (ho : 0 ≤ o.p ∧ o.p ≤ 800000000) : Tot (m_spec_l20Expr 1000000000 o cs k d) fun r => 1 ≤ r.1.length ∧ r.1.length ≤ 15 ∧ (∀ p ∈ r.1, pSz p) ∧ o.p ≤ r.2.p ∧ r.2.p ≤ o.p + 750 :=
  (T_Expr 3 1000000000 (by omega) o cs k d hd (by omega) ho.1 (by have := ho.2; show o.p + 100 * (8 : Int) ≤ 900000000; omega)).mono fun r hr => by
    obtain ⟨r1, r2, r3, r4, r5⟩ := hr
    have e : (2 ^ 3 : Nat) = 8 := rfl
    rw [e] at r2 r5
    exact ⟨r1, by omega, r3, r4, by omega⟩
theorem T_Wild {o : Rd} {cs : List Col} {n : Int} (ho : 0 ≤ o.p ∧ o.p ≤ 700000000) (hn : -1000000 ≤ n ∧ n ≤ 1000000) : Tot (m_spec_l20Wild o cs n) fun r => r.1.length ≤ 16 ∧ (∀ p ∈ r.1, pSz p) ∧ o.p ≤ r.2.p ∧ r.2.p ≤ o.p + 800 := by
  unfold m_spec_l20Wild
  have j1 : ∀ (t : Nat) (q : Rd) (e : List Pt), t ≤ e.length → e.length ≤ 16 → (∀ p ∈ e, pSz p) → o.p ≤ q.p → q.p ≤ o.p + 800 → Tot (m_spec_l20Wild_j1 t q e) fun r => r.1.length ≤ 16 ∧ (∀ p ∈ r.1, pSz p) ∧ o.p ≤ r.2.p ∧ r.2.p ≤ o.p + 800 := by
    intro t q e h1 h2 h3 h4 h5
    unfold m_spec_l20Wild_j1 leN
    rw [if_pos h1]
    exact Tot.ret ⟨by simp only [List.length_take]; omega, fun p hp => h3 p (List.mem_of_mem_take hp), h4, h5⟩
  refine Tot.bind (T_pick (by omega)) (fun c hc => Tot.at (by omega) (by simp only [List.length_cons, List.length_nil]; omega) (fun k hk => ?_))
  refine Tot.bind (T_Expr3 (by omega) (by omega) (by omega)) (fun x hx => ?_)
  obtain ⟨x1, x2, x3, x4, x5⟩ := hx
  refine Tot.bind (T_odd (by omega) (by omega)) (fun b hb => Tot.bif (fun _ => ?_) (fun _ => j1 _ _ _ (Nat.le_refl _) (by omega) x3 (by omega) (by omega)))
  refine Tot.bind (T_pick (by omega)) (fun u hu => Tot.bif (fun _ => ?_) (fun _ => Tot.bif (fun _ => ?_) (fun _ => ?_)))
  · refine Tot.bind (T_pick (by omega)) (fun w hw => ?_)
    unfold rng?
    rw [if_pos (by omega)]
    exact j1 _ _ _ (by omega) (by omega) x3 (by omega) (by omega)
  · refine Tot.bind (T_pick (by omega)) (fun w hw => Tot.bind (T_pick (by omega)) (fun y hy => Tot.bind (T_pick (by omega)) (fun z hz => Tot.at (by omega) (by omega) (fun _ _ => Tot.at (by omega) (by omega) (fun _ _ => Tot.lt ?_)))))
    refine j1 _ _ _ (by rw [List.length_set]; exact Nat.le_refl _) (by rw [List.length_set]; omega) (fun p hp => ?_) (by omega) (by omega)
    rcases List.mem_or_eq_of_mem_set hp with h | h
    · exact x3 p h
    · rw [h]; exact pSz_0
  · refine Tot.bind (T_l20Value (by omega) (by omega)) (fun w hw => Tot.app (by simp only [List.length_cons, List.length_nil]; omega) ?_)
    exact j1 _ _ _ (Nat.le_refl _) (by simp only [List.length_append, List.length_cons, List.length_nil]; omega) (pSz_app x3 (pSz_one hw.1.1)) (by omega) (by omega)
def AskedOk (r : List Col × Row × List Pt) : Prop := r.1.length ≤ 6 ∧ rDr r.2.1 ∧ r.2.2.length ≤ 16 ∧ ∀ p ∈ r.2.2, pSz p
theorem T_Asked {o : Rd} {n : Int} (ho : 0 ≤ o.p ∧ o.p ≤ 100000) (hn : 0 ≤ n ∧ n ≤ 1000) : Tot (m_spec_l20Asked o n) fun r => AskedOk (r.1, r.2.1, r.2.2.1) := by
  unfold m_spec_l20Asked
  refine Tot.ck (by omega) (by omega) (Tot.bind (T_l20Columns (by omega) (by omega)) (fun c hc => Tot.ck (by omega) (by omega) (Tot.bind (T_l20Fit (by omega) (by omega) hc.1.2.1) (fun r hr => Tot.bind (T_Wild (by omega) (by omega)) (fun e he => Tot.ret ⟨hc.1.2.1, hr.1, he.1, he.2.1⟩)))))
theorem T_DrawExprValue {l : List UInt8} : Tot (m_spec_DrawExprValue l) AskedOk := by
  unfold m_spec_DrawExprValue
  exact Tot.bind T_l20Open (fun o ho => Tot.bind (T_Asked (by omega) (by omega)) (fun r hr => Tot.ret hr))
theorem pt_sm {e : List Pt} (h : e.length ≤ 1000) (hp : ∀ p ∈ e, pSz p) : ptSm e := ⟨by omega, fun p h => by have := hp p h; unfold pSz at this; omega⟩
theorem kGo_app {cs : List Col} : ∀ (a b : List Pt) (st : List Int), kGo cs (a ++ b) st = (kGo cs a st).bind (kGo cs b)
  | [], b, st => rfl
  | p :: a, b, st => by
    rw [List.cons_append, kGo_c, kGo_c]
    cases kStep cs st p with
    | none => rfl
    | some k => exact kGo_app a b k
theorem kStep_pre {cs : List Col} {pre ks ks' : List Int} {p : Pt} (h : kStep cs ks p = some ks') : kStep cs (pre ++ ks) p = some (pre ++ ks') := by
  obtain ⟨h1, h2, h3, rfl⟩ := kStep_some h
  have e1 : (pre ++ ks).length - takesN p = pre.length + (ks.length - takesN p) := by rw [List.length_append]; omega
  have e2 : (pre ++ ks).drop (pre.length + (ks.length - takesN p)) = ks.drop (ks.length - takesN p) := by rw [List.drop_append]; simp
  have e3 : (pre ++ ks).take (pre.length + (ks.length - takesN p)) = pre ++ ks.take (ks.length - takesN p) := by rw [List.take_append, List.take_of_length_le (by omega)]; simp
  unfold kStep
  rw [e1, e2, if_pos ⟨h1, by rw [List.length_append]; omega, h3⟩, e3, List.append_assoc]
theorem kGo_pre {cs : List Col} {pre : List Int} : ∀ (e : List Pt) (ks ks' : List Int), kGo cs e ks = some ks' → kGo cs e (pre ++ ks) = some (pre ++ ks')
  | [], ks, ks', h => by cases h; rfl
  | p :: e, ks, ks', h => by
    rw [kGo_c] at h ⊢
    cases hs : kStep cs ks p with
    | none => rw [hs] at h; cases h
    | some k1 => rw [hs, Option.bind_some] at h; rw [kStep_pre hs, Option.bind_some]; exact kGo_pre e _ _ h
theorem vStep_pre {row : Row} {pre vs : List V} {p : Pt} (h : takesN p ≤ vs.length) : vStep row (pre ++ vs) p = pre ++ vStep row vs p := by
  have e1 : (pre ++ vs).length - takesN p = pre.length + (vs.length - takesN p) := by rw [List.length_append]; omega
  have e2 : (pre ++ vs).drop (pre.length + (vs.length - takesN p)) = vs.drop (vs.length - takesN p) := by rw [List.drop_append]; simp
  have e3 : (pre ++ vs).take (pre.length + (vs.length - takesN p)) = pre ++ vs.take (vs.length - takesN p) := by rw [List.take_append, List.take_of_length_le (by omega)]; simp
  unfold vStep
  rw [e1, e2, e3, List.append_assoc]
theorem run_pre {cs : List Col} {row : Row} {pre : List V} (hf : rowFits cs row = true) : ∀ (e : List Pt) (vs : List V) (ks ks' : List Int), Typed vs ks → kGo cs e ks = some ks' → e.foldl (vStep row) (pre ++ vs) = pre ++ e.foldl (vStep row) vs
  | [], vs, ks, ks', h, hk => rfl
  | p :: e, vs, ks, ks', h, hk => by
    rw [kGo_c] at hk
    cases hs : kStep cs ks p with
    | none => rw [hs] at hk; cases hk
    | some k1 =>
      rw [hs, Option.bind_some] at hk
      rw [List.foldl_cons, List.foldl_cons, vStep_pre (by rw [h.len]; exact (kStep_some hs).2.1)]
      exact run_pre hf e _ _ _ (vStep_ty hf h hs) hk
theorem exprKind_of {cs : List Col} {e : List Pt} {k : Int} (hc : colsOk cs = true) (hl : e.length ≤ 12) (h : kGo cs e [] = some [k]) : exprKind cs e = k := by
  unfold exprKind
  rw [if_pos ⟨hc, hl⟩, h]; rfl
def pSame : Pt := ⟨4, 1, ⟨0, 0, ⟨#[]⟩⟩⟩
theorem step_same (cs : List Col) (k : Int) : kStep cs [k, k] pSame = some [3] :=
  (if_pos ⟨rfl, Nat.le_refl 2, (decide_eq_true rfl : decide (k = k) = true)⟩)
theorem app_nil {α : Type} {l : List α} (h : l.length ≤ 1000000) : app? [] l = some l := by rw [app_of (by simp; omega)]; rfl
theorem vOrd_self (v : V) : vOrd v v = 0 := (TO_value.eq0 v v).2 rfl
theorem same_0 {v : V} (h : vOk v = true) : decide (vOf (cmpT 1 v v) = yes) = (v.Kind != 0) := by
  unfold cmpT
  rw [h, if_pos (by rfl)]
  by_cases h0 : v.Kind = 0
  · rw [if_pos (.inl h0), h0]; rfl
  · rw [if_neg (fun g => g.elim h0 h0), if_pos rfl, vOrd_self]
    have : (v.Kind != 0) = true := by simp [h0]
    rw [this]; rfl
theorem pure_FnExprValue (l : List UInt8) : m_laws_FnExprValue l = some true := by
  unfold m_laws_FnExprValue
  by_cases hl : (l.length : Int) > 1048576
  · rw [decide_eq_true hl, cond_true]
  rw [decide_eq_false hl, cond_false]
  obtain ⟨⟨cs, row, e⟩, hd, d1, d2, d3, d4⟩ := T_DrawExprValue (l := l)
  have hr := rDr_sm d2
  have he := pt_sm (by omega) d4
  rw [hd, Option.bind_some, E_impl_ExprValue (by omega) hr he, Option.bind_some, ltE, E_spec_ExprValue (by omega) hr he, Option.bind_some, decT, Bool.not_true, cond_false]
  simp only at d1 d2 d3 d4 hr he ⊢
  rw [E_impl_ExprKind (by omega) (by have := he.1; omega) (fun p hp => by have := he.2 p hp; omega), Option.bind_some]
  have out : ∀ k : Int, ¬ (0 ≤ exprKind cs e ∧ rowFits cs row = true) → m_laws_FnExprValue_j1 cs row e k true (exprValue cs row e) = some true := fun k h => by
    unfold exprValue
    rw [if_neg h]
    unfold m_laws_FnExprValue_j1 m_laws_FnExprValue_j2
    rw [cond_true, show decide (v0 = ⟨0, 0, ⟨#[]⟩⟩) = true from rfl, cond_true, E_alive]; rfl
  by_cases hk : 0 ≤ exprKind cs e
  · rw [decide_eq_false (by omega), cond_false, E_impl_RowFits (by omega) hr, Option.bind_some]
    cases hf : rowFits cs row with
    | false => rw [Bool.not_false, out _ (fun h => by rw [hf] at h; cases h.2)]
    | true =>
      have hv : exprValue cs row e = exprVal row e := by unfold exprValue; rw [if_pos ⟨hk, hf⟩]
      obtain ⟨hty, hrun⟩ := exprVal_ty hk hf
      rw [hv, Bool.not_true]
      unfold m_laws_FnExprValue_j1
      rw [cond_false]
      have main : m_laws_FnExprValue_j3 cs row e false (exprVal row e) = some true := by
        unfold m_laws_FnExprValue_j3 m_laws_FnExprValue_j4
        rw [cond_false, app_nil (by omega), Option.bind_some, app_of (by omega), Option.bind_some, app_of (by simp only [List.length_append, List.length_cons, List.length_nil]; omega), Option.bind_some]
        by_cases h12 : e.length + e.length + 1 ≤ 12
        · rw [decide_eq_false (by simp only [List.length_append, List.length_cons, List.length_nil]; omega), cond_false]
          have s1 : ptSm (e ++ e ++ [pSame]) := pt_sm (by simp; omega) (pSz_app (pSz_app d4 d4) (pSz_one pSz_0))
          have k1 := E_impl_ExprHolds (cs := cs) (row := row) (e := e ++ e ++ [pSame]) (by omega) hr s1
          obtain ⟨g1, g2, g3⟩ := kind_run hk
          have kk : kGo cs (e ++ e ++ [pSame]) [] = some [3] := by
            rw [kGo_app, kGo_app, g3, Option.bind_some]
            have := kGo_pre (pre := [exprKind cs e]) e [] _ g3
            rw [List.append_nil] at this
            rw [this, Option.bind_some, kGo_c, List.singleton_append, step_same]; rfl
          have vv : (e ++ e ++ [pSame]).foldl (vStep row) [] = [vOf (cmpT 1 (exprVal row e) (exprVal row e))] := by
            have h2 := run_pre (pre := [exprVal row e]) hf e [] [] _ .nil g3
            rw [List.append_nil, hrun] at h2
            rw [List.foldl_append, List.foldl_append, hrun, h2, List.foldl_cons, List.foldl_nil]
            rfl
          have hh : exprHolds cs row (e ++ e ++ [pSame]) = ((exprVal row e).Kind != 0) := by
            have e1 : exprVal row (e ++ e ++ [pSame]) = vOf (cmpT 1 (exprVal row e) (exprVal row e)) := by
              show ((e ++ e ++ [pSame]).foldl (vStep row) []).getD 0 v0 = _
              rw [vv]; rfl
            unfold exprHolds
            rw [exprKind_of g1 (by simp; omega) kk, decT, Bool.true_and, hf, Bool.true_and, e1]
            exact same_0 hty.1
          rw [hh] at k1
          unfold pSame at k1
          rw [k1, Option.bind_some]
          simp
        · rw [decide_eq_true (by simp only [List.length_append, List.length_cons, List.length_nil]; omega), cond_true]
      rcases hty.2 with h | h
      · rw [show ((exprVal row e).Kind != exprKind cs e) = false by simp [h], cond_false, main]
      · rw [show ((exprVal row e).Kind != 0) = false by simp [h], main]
        cases ((exprVal row e).Kind != exprKind cs e) <;> rfl
  · rw [decide_eq_true (by omega), cond_true, out _ (fun h => hk h.1)]
end Go.Proofs.Ytgepipglchpabaa
