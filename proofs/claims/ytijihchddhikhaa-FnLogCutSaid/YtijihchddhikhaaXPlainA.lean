/- What the mirrors come to, in plain Lean: the law itself at the end. -/
import Derived.Test.YtijihchddhikhaaXW6
import Derived.Test.YtijihchddhikhaaLd
set_option linter.unusedVariables false
set_option linter.unusedSimpArgs false
set_option linter.unnecessarySimpa false
namespace Go.Proofs.Ytijihchddhikhaa
open Go.Proofs Go.Lift
abbrev V := S_impl_Value
abbrev Row := List V
abbrev Rows := List Row

def cmpI (a b : Int) : Int := if a < b then -1 else if b < a then 1 else 0
def cmpS (a b : ByteArray) : Int := if sLt a b then -1 else if sLt a b || sEq a b then 0 else 1
def orI (l : List Int) : Int := (l.find? (· != 0)).getD 0
def lower (l : List UInt8) : Bool := l.all fun b => decide (97 ≤ b.toNat) && decide (b.toNat ≤ 122)
/-- A value is one. -/
def vOk (v : V) : Bool :=
  if v.Kind = 0 then decide (v = ⟨0, 0, ⟨#[]⟩⟩)
  else if v.Kind = 1 then decide (v.S = ⟨#[]⟩) && (decide (-9999 ≤ v.N) && decide (v.N ≤ 9999))
  else if v.Kind = 2 then decide (v.N = 0) && decide (v.S.size ≤ 6) && lower v.S.data.toList
  else if v.Kind = 3 then decide (v.S = ⟨#[]⟩) && (decide (0 ≤ v.N) && decide (v.N ≤ 1))
  else false
def vOrd (v w : V) : Int := orI [cmpI v.Kind w.Kind, cmpI v.N w.N, cmpS v.S w.S]
def rowOk (l : Row) : Bool := decide (l.length ≤ 4) && l.all vOk
/-- As memory holds it with ease. -/
def vSm (v : V) : Prop := v.S.size ≤ 1000
def rSm (l : Row) : Prop := l.length ≤ 1000 ∧ ∀ v ∈ l, vSm v
def cmpL {α : Type} (p : α → α → Int) : List α → List α → Int
  | [], [] => 0
  | [], _ :: _ => -1
  | _ :: _, [] => 1
  | a :: x, b :: y => if p a b = 0 then cmpL p x y else p a b
def rOrd (a b : Row) : Int := orI [cmpL vOrd a b, cmpI a.length b.length]
theorem E_sameRow {a b : Row} (ha : a.length ≤ 1000000) : m_laws_sameRow a b = some (decide (a = b)) := by
  unfold m_laws_sameRow
  by_cases h : a.length = b.length
  · have hc : ((a.length : Int) != (b.length : Int)) = false := by simp [h]
    rw [hc, cond_false, ← all2_eq h]
    refine scan2 a b h (fun n k => m_laws_sameRow_l1 n a b k) (fun n k x y hx hy => ?_) (fun n => ?_) _ (by omega)
    · have := lt_of_at hx
      simp only [m_laws_sameRow_l1, dlt this, at_of hx, at_of hy, ck1 (show k < 1000000000000 by omega), Option.bind_some, cond_true]
      cases decide (x = y) <;> rfl
    · simp only [m_laws_sameRow_l1, dnlt]; rfl
  · have hc : ((a.length : Int) != (b.length : Int)) = true := by simp; omega
    rw [hc, cond_true]
    have : a ≠ b := fun e => h (by rw [e])
    simp [this]
theorem E_sameRows {a b : Rows} (ha : a.length ≤ 1000000) (hr : ∀ r ∈ a, r.length ≤ 1000000) : m_laws_sameRows a b = some (decide (a = b)) := by
  unfold m_laws_sameRows
  by_cases h : a.length = b.length
  · have hc : ((a.length : Int) != (b.length : Int)) = false := by simp [h]
    rw [hc, cond_false, ← all2_eq h]
    refine scan2 a b h (fun n k => m_laws_sameRows_l1 n a b k) (fun n k x y hx hy => ?_) (fun n => ?_) _ (by omega)
    · have := lt_of_at hx
      simp only [m_laws_sameRows_l1, dlt this, at_of hx, at_of hy, ck1 (show k < 1000000000000 by omega), Option.bind_some, cond_true, E_sameRow (hr x (List.mem_of_getElem? hx))]
      cases decide (x = y) <;> rfl
    · simp only [m_laws_sameRows_l1, dnlt]; rfl
  · have hc : ((a.length : Int) != (b.length : Int)) = true := by simp; omega
    rw [hc, cond_true]
    have : a ≠ b := fun e => h (by rw [e])
    simp [this]
theorem E_IndexFunc_V {l : Row} {p : V → Option Bool} {q : V → Bool} (hl : l.length ≤ 1000000) (hp : ∀ v ∈ l, p v = some (q v)) : m_slices_ContainsFunc_Limpl_Value_impl_Value l p = some (l.any q) := by
  unfold m_slices_ContainsFunc_Limpl_Value_impl_Value m_slices_IndexFunc_Limpl_Value_impl_Value
  have key : ∀ (ys : Row) (k n : Nat), l.drop k = ys → k ≤ l.length → ys.length < n → ∃ i : Int, m_slices_IndexFunc_Limpl_Value_impl_Value_l1 p n l (l.length : Int) (k : Int) = some i ∧ decide (i ≥ 0) = ys.any q := by
    intro ys
    induction ys with
    | nil =>
      intro k n hd hk hn
      have : k = l.length := by
        have := congrArg List.length hd
        simp at this; omega
      subst this
      obtain ⟨m, rfl⟩ : ∃ m, n = m + 1 := ⟨n - 1, by simp at hn; omega⟩
      exact ⟨-1, by simp only [m_slices_IndexFunc_Limpl_Value_impl_Value_l1, dnlt]; rfl, rfl⟩
    | cons y ys ih =>
      intro k n hd hk hn
      have hlt : k < l.length := by
        have := congrArg List.length hd
        simp at this; omega
      have hc := List.drop_eq_getElem_cons hlt
      rw [hd] at hc
      simp only [List.cons.injEq] at hc
      have hx : l[k]? = some y := by rw [List.getElem?_eq_getElem hlt, hc.1]
      obtain ⟨m, rfl⟩ : ∃ m, n = m + 1 := ⟨n - 1, by simp at hn; omega⟩
      simp only [m_slices_IndexFunc_Limpl_Value_impl_Value_l1, dlt hlt, at_of hx, hp y (List.mem_of_getElem? hx), ck1 (show k < 1000000000000 by omega), Option.bind_some, cond_true]
      cases hq : q y
      · obtain ⟨i, h1, h2⟩ := ih (k + 1) m hc.2.symm (by omega) (by simp at hn; omega)
        exact ⟨i, by simpa using h1, by rw [h2]; simp [hq]⟩
      · exact ⟨(k : Int), rfl, by simp [hq]⟩
  obtain ⟨i, h1, h2⟩ := key l 0 _ rfl (by omega) (show l.length < (((l.length : Int) - 0).toNat + 1) by omega)
  rw [show ((0 : Nat) : Int) = 0 from rfl] at h1
  rw [h1]
  simp only [Option.bind_some, h2]
theorem E_between (a b c : Int) : m_impl_between a b c = some (decide (b ≤ a) && decide (a ≤ c)) := by
  unfold m_impl_between m_impl_between_j1
  by_cases h : a ≥ b <;> simp [h]
theorem E_l1In (a b c : Int) : m_spec_l1In a b c = some (decide (b ≤ a) && decide (a ≤ c)) := by
  unfold m_spec_l1In m_spec_l1In_j1
  by_cases h : a ≥ b <;> simp [h]
theorem lower_any (l : List UInt8) : lower l = !(l.any fun b => !(decide (97 ≤ (b.toNat : Int)) && decide ((b.toNat : Int) ≤ 122))) := by
  unfold lower
  rw [List.all_eq_not_any_not]
  congr 2
  funext b
  congr 1
  have h1 : decide (97 ≤ b.toNat) = decide (97 ≤ (b.toNat : Int)) := by rw [decide_eq_decide]; omega
  have h2 : decide (b.toNat ≤ 122) = decide ((b.toNat : Int) ≤ 122) := by rw [decide_eq_decide]; omega
  rw [h1, h2]
theorem E_letters {s : ByteArray} (h : s.size ≤ 1000000) : m_impl_letters s = some (lower s.data.toList) := by
  unfold m_impl_letters sBytes?
  rw [if_pos (by omega)]
  simp only [Option.bind_some]
  have hl : s.data.toList.length ≤ 1000000 := h
  have := scanA (p := fun b : UInt8 => !(decide (97 ≤ (b.toNat : Int)) && decide ((b.toNat : Int) ≤ 122))) (r0 := false) (r1 := true) s.data.toList (fun n k => m_impl_letters_l1 n s.data.toList (s.data.toList.length : Int) k) (fun n k x hx => by
    have := lt_of_at hx
    simp only [m_impl_letters_l1, dlt this, at_of hx, E_between, ck1 (show k < 1000000000000 by omega), Option.bind_some, cond_true]) (fun n => by simp only [m_impl_letters_l1, dnlt]; rfl) _ fuel0
  rw [this, lower_any]
  cases s.data.toList.any fun b => !(decide (97 ≤ (b.toNat : Int)) && decide ((b.toNat : Int) ≤ 122)) <;> rfl
theorem sAt_of {s : ByteArray} {k : Nat} {x : UInt8} (h : s.data.toList[k]? = some x) : sAt? s (k : Int) = some x := by
  unfold sAt?
  rw [if_pos (by omega)]
  obtain ⟨h1, h2⟩ := List.getElem?_eq_some_iff.1 h
  have hs : k < s.size := by have := h1; rwa [Array.length_toList] at this
  have : s[k]? = some (s[k]'hs) := by simp [hs]
  rw [Int.toNat_natCast, this]
  congr 1
theorem E_l1Text {s : ByteArray} (h : s.size ≤ 1000000) : m_spec_l1Text s = some (lower s.data.toList && decide (s.size ≤ 6)) := by
  unfold m_spec_l1Text
  have hl : s.data.toList.length = s.size := rfl
  rw [← hl]
  have := scanA (p := fun b : UInt8 => !(decide (97 ≤ (b.toNat : Int)) && decide ((b.toNat : Int) ≤ 122))) (r0 := false) (r1 := decide ((s.size : Int) ≤ 6)) s.data.toList (fun n k => m_spec_l1Text_l1 n s k) (fun n k x hx => by
    have := lt_of_at hx
    have hd : decide ((k : Int) < (s.size : Int)) = true := by rw [← hl]; exact dlt this
    simp only [m_spec_l1Text_l1, m_spec_l1Text_j1, hd, sAt_of hx, ck1 (show k < 1000000000000 by omega), Option.bind_some, cond_true]
    have e1 : ((97 : UInt8).toNat : Int) = 97 := rfl
    have e2 : ((122 : UInt8).toNat : Int) = 122 := rfl
    rw [e1, e2]
    by_cases h1 : (x.toNat : Int) < 97
    · have : ¬ (97 ≤ (x.toNat : Int)) := by omega
      simp [h1, this]
    · have h1' : 97 ≤ (x.toNat : Int) := by omega
      by_cases h2 : (x.toNat : Int) > 122
      · have : ¬ ((x.toNat : Int) ≤ 122) := by omega
        simp [h1, h2, this]
      · have : (x.toNat : Int) ≤ 122 := by omega
        simp [h1, h2, this, h1']) (fun n => by simp only [m_spec_l1Text_l1, hl, dnlt]; rfl) _ fuel0
  rw [this, lower_any]
  have e : decide ((s.size : Int) ≤ 6) = decide (s.size ≤ 6) := by rw [decide_eq_decide]; omega
  rw [e]
  cases s.data.toList.any fun b => !(decide (97 ≤ (b.toNat : Int)) && decide ((b.toNat : Int) ≤ 122)) <;> simp
theorem E_Value_ok {v : V} (h : v.S.size ≤ 1000000) : m_impl_Value_ok v = some (vOk v) := by
  unfold m_impl_Value_ok m_impl_Value_ok_j1 m_impl_Value_ok_j2 m_impl_Value_ok_j3 vOk
  simp only [E_between, E_letters h, Option.bind_some, sEq_eq]
  by_cases h0 : v.Kind = 0
  · simp [h0]
  · by_cases h1 : v.Kind = 1
    · by_cases hs : v.S = ⟨#[]⟩ <;> simp [beqF h0, h0, h1, hs]
    · by_cases h2 : v.Kind = 2
      · by_cases hn : v.N = 0
        · by_cases hs : v.S.size ≤ 6
          · have : (v.S.size : Int) ≤ 6 := by omega
            simp [beqF h0, beqF h1, h0, h1, h2, hn, hs, this]
          · have : ¬ (v.S.size : Int) ≤ 6 := by omega
            simp [beqF h0, beqF h1, h0, h1, h2, hn, hs, this]
        · simp [beqF h0, beqF h1, h0, h1, h2, beqF hn, hn]
      · by_cases h3 : v.Kind = 3
        · by_cases hs : v.S = ⟨#[]⟩ <;> simp [beqF h0, beqF h1, beqF h2, h0, h1, h2, h3, hs]
        · simp [beqF h0, beqF h1, beqF h2, beqF h3, h0, h1, h2, h3]
theorem E_spec_ValueOk {v : V} (h : v.S.size ≤ 1000000) : m_spec_ValueOk v = some (vOk v) := by
  unfold m_spec_ValueOk m_spec_ValueOk_j1 m_spec_ValueOk_j2 m_spec_ValueOk_j3 m_spec_ValueOk_j4 vOk
  simp only [E_l1In, E_l1Text h, Option.bind_some, sEq_eq]
  obtain ⟨k, n, s⟩ := v
  simp only [S_impl_Value.mk.injEq]
  by_cases h0 : k = 0
  · by_cases hn : n = 0
    · simp [h0, hn]
    · simp [h0, hn, beqF hn]
  · by_cases h1 : k = 1
    · by_cases hs : s = ⟨#[]⟩ <;> by_cases ha : -9999 ≤ n <;> by_cases hb : n ≤ 9999 <;> simp [beqF h0, h0, h1, hs, ha, hb]
    · by_cases h2 : k = 2
      · by_cases hn : n = 0
        · simp [beqF h0, beqF h1, h0, h1, h2, hn, Bool.and_comm]
        · simp [beqF h0, beqF h1, h0, h1, h2, beqF hn, hn]
      · by_cases h3 : k = 3
        · by_cases hs : s = ⟨#[]⟩ <;> by_cases ha : 0 ≤ n <;> by_cases hb : n ≤ 1 <;> simp [beqF h0, beqF h1, beqF h2, h0, h1, h2, h3, hs, ha, hb]
        · simp [beqF h0, beqF h1, beqF h2, beqF h3, h0, h1, h2, h3]
theorem E_impl_RowOk {l : Row} (h : rSm l) : m_impl_RowOk l = some (rowOk l) := by
  unfold m_impl_RowOk m_impl_RowOk_j1 rowOk
  obtain ⟨h1, h2⟩ := h
  rw [E_IndexFunc_V (q := fun v => !(vOk v)) (by omega) (fun v hv => by unfold m_impl_RowOk_1; rw [E_Value_ok (by have := h2 v hv; unfold vSm at this; omega)]; rfl)]
  simp only [Option.bind_some]
  rw [List.all_eq_not_any_not]
  by_cases h : l.length ≤ 4
  · have : (l.length : Int) ≤ 4 := by omega
    simp [h, this]
  · have : ¬ (l.length : Int) ≤ 4 := by omega
    simp [h, this]
theorem E_spec_RowOk {l : Row} (h : rSm l) : m_spec_RowOk l = some (rowOk l) := by
  unfold m_spec_RowOk rowOk
  obtain ⟨h1, h2⟩ := h
  have := scanA (p := fun v => !(vOk v)) (r0 := false) (r1 := decide ((l.length : Int) ≤ 4)) l (fun n k => m_spec_RowOk_l1 n l k) (fun n k x hx => by
    have := lt_of_at hx
    have hsm := h2 x (List.mem_of_getElem? hx)
    unfold vSm at hsm
    simp only [m_spec_RowOk_l1, dlt this, at_of hx, E_spec_ValueOk (show x.S.size ≤ 1000000 by omega), ck1 (show k < 1000000000000 by omega), Option.bind_some, cond_true]) (fun n => by simp only [m_spec_RowOk_l1, dnlt]; rfl) _ fuel0
  rw [this, List.all_eq_not_any_not]
  have e : decide ((l.length : Int) ≤ 4) = decide (l.length ≤ 4) := by rw [decide_eq_decide]; omega
  rw [e]
  cases l.any fun v => !(vOk v) <;> simp
theorem E_alive : m_laws_alive = some true := by
  unfold m_laws_alive m_laws_alive_j1 m_impl_ValueOk
  rw [E_Value_ok (by decide), E_Value_ok (by decide)]
  rfl
theorem E_CompareI (a b : Int) : m_cmp_Compare_int a b = some (cmpI a b) := by
  unfold m_cmp_Compare_int m_cmp_isNaN_int cmpI
  have e : ∀ x : Int, (x != x) = false := fun x => by simp
  simp only [e, Option.bind_some, cond_false]
  by_cases h : a < b
  · simp [h]
  · by_cases h2 : a > b
    · simp [h, h2]
    · simp [h, h2]
theorem E_Or {l : List Int} (h : l.length ≤ 1000000) : m_cmp_Or_int l = some (orI l) := by
  unfold m_cmp_Or_int
  rw [scanC l (fun n k (_ : Unit) => m_cmp_Or_int_l1 n 0 l (l.length : Int) k) (fun x s k => bif (x != 0) then some x else k s) (fun _ => some 0) (fun n k x s hx => by
    have := lt_of_at hx
    rw [m_cmp_Or_int_l1, dlt this, cond_true, at_of hx, Option.bind_some, ck1 (show k < 1000000000000 by omega), Option.bind_some]) (fun n s => by rw [m_cmp_Or_int_l1, dnlt]; rfl) _ fuel0 ()]
  clear h
  unfold orI
  induction l with
  | nil => rfl
  | cons x l ih =>
    simp only [foldC, List.find?_cons]
    cases hx : (x != 0)
    · simpa using ih
    · rfl
theorem orI_1 {x : Int} {l : List Int} (h : x ≠ 0) : orI (x :: l) = x := by simp [orI, h]
theorem orI_0 {l : List Int} : orI (0 :: l) = orI l := by simp [orI]
theorem E_clone {l : Row} (h : l.length ≤ 1000000) : m_impl_clone_impl_Value l = some l := by
  unfold m_impl_clone_impl_Value appN?
  cases l with
  | nil => rfl
  | cons x l =>
    have e : (((x :: l).length : Int) == 0) = false := by simp; omega
    rw [e, cond_false, if_pos ⟨by simp, by omega⟩, Option.bind_some]; rfl
theorem foldl_snoc {α : Type} : ∀ (l a : List α), l.foldl (fun s x => s ++ [x]) a = a ++ l
  | [], a => by simp
  | x :: l, a => by rw [List.foldl_cons, foldl_snoc l]; simp
theorem E_rowsCopy {l : Rows} (h : l.length ≤ 1000000) (hr : ∀ r ∈ l, r.length ≤ 1000000) : m_impl_rowsCopy l = some l := by
  unfold m_impl_rowsCopy
  have := (scanF (f := fun (s : Rows) x => s ++ [x]) (J := fun s => some s) (fun k s => s.length = k) l (fun n k s => m_impl_rowsCopy_l1 n l (l.length : Int) k s) (fun n k x s hx hI => by
    have := lt_of_at hx
    rw [m_impl_rowsCopy_l1, dlt this, cond_true, at_of hx, Option.bind_some, E_clone (hr x (List.mem_of_getElem? hx)), Option.bind_some, app_of (by simp; omega), Option.bind_some, ck1 (show k < 1000000000000 by omega), Option.bind_some]
    exact ⟨rfl, by simp [hI]⟩) (fun n s _ => by
      rw [m_impl_rowsCopy_l1, dnlt, cond_false]
      unfold m_impl_rowsCopy_j1
      rfl) _ fuel0 [] rfl).1
  rw [this, foldl_snoc]; rfl
theorem E_l3Own {l : Row} (h : l.length ≤ 1000000) : m_spec_l3Own l = some l := by
  unfold m_spec_l3Own
  rw [app_of (by simp; omega)]; rfl

theorem cut_of {α : Type} {l : List α} {lo hi : Nat} (h : lo ≤ hi) (h2 : hi ≤ l.length) : cut? l (lo : Int) (hi : Int) = some ((l.take hi).drop lo) := by
  unfold cut?
  rw [if_pos (by omega)]
  simp
abbrev Rd := S_spec_l20Rd
/-- The reader stands at a place from p on, c further at most. -/
def At (p c : Int) (o : Rd) : Prop := p ≤ o.p ∧ o.p ≤ p + c
def Rd.ok (o : Rd) : Prop := 0 ≤ o.p ∧ o.p ≤ 1000000000
theorem tmod_b {m n : Int} (h : 0 ≤ m) (hn : 0 < n) : 0 ≤ m.tmod n ∧ m.tmod n < n := ⟨Int.tmod_nonneg n h, Int.tmod_lt_of_pos m hn⟩
theorem tdiv_b {m n : Int} (h : 0 ≤ m) (hn : 0 < n) : 0 ≤ m.tdiv n ∧ m.tdiv n ≤ m := ⟨Int.tdiv_nonneg h (Int.le_of_lt hn), Int.tdiv_le_self _ h⟩
theorem T_pick {o : Rd} {n : Int} (ho : 0 ≤ o.p ∧ o.p ≤ 1000000000) : Tot (m_Pspec_l20Rd_pick o n) fun r => 0 ≤ r.1 ∧ (r.1 < n ∨ r.1 = 0) ∧ r.2.p = o.p + 1 := by
  unfold m_Pspec_l20Rd_pick
  refine Tot.ck (by omega) (by omega) (Tot.lt ?_)
  refine Tot.bif (fun h => ?_) (fun h => ?_)
  · unfold m_Pspec_l20Rd_pick_j1
    exact Tot.ret ⟨Int.le_refl _, .inr rfl, rfl⟩
  · simp only [decide_eq_false_iff_not] at h
    unfold m_Pspec_l20Rd_pick_j1
    refine Tot.bif (fun h2 => Tot.ret ⟨Int.le_refl _, .inr rfl, rfl⟩) (fun h2 => ?_)
    have hb : 0 < (o.b.length : Int) := by simp at h2; have := List.length_pos_iff.2 h2; omega
    refine Tot.ck (by simp only; omega) (by simp only; omega) ?_
    have e : (o.p + 1 - 1) = o.p := by omega
    simp only [e]
    refine Tot.bif (fun h3 => ?_) (fun h3 => ?_)
    · simp only [decide_eq_true_eq] at h3
      refine Tot.at (by omega) h3 (fun x _ => ?_)
      refine Tot.rem (by omega) (Tot.ret ?_)
      have := tmod_b (m := (x.toNat : Int)) (n := n) (by omega) (by omega)
      exact ⟨this.1, .inl this.2, rfl⟩
    · have m1 := tmod_b (m := o.p) (n := o.b.length) (by omega) hb
      refine Tot.rem (by omega) (Tot.at m1.1 m1.2 (fun x _ => ?_))
      have hx := x.toNat_lt
      refine Tot.ck (by omega) (by omega) (Tot.ck (by omega) (by omega) (Tot.ck (by omega) (by omega) ?_))
      have m2 := tmod_b (m := o.p * 7 + 3) (n := o.b.length) (by omega) hb
      refine Tot.rem (by omega) (Tot.at m2.1 m2.2 (fun y _ => ?_))
      have hy := y.toNat_lt
      refine Tot.ck (by omega) (by omega) (Tot.ck (by omega) (by omega) (Tot.ck (by omega) (by omega) (Tot.ck (by omega) (by omega) ?_)))
      have d1 := tdiv_b (m := o.p) (n := o.b.length) (by omega) hb
      refine Tot.quo (by omega) (by omega) (by omega) (Tot.ck (by omega) (by omega) (Tot.ck (by omega) (by omega) ?_))
      have hz : 0 ≤ (x.toNat : Int) * 131 + (y.toNat : Int) * 1117 + o.p * 29 + o.p.tdiv o.b.length * 53 ∧ (x.toNat : Int) * 131 + (y.toNat : Int) * 1117 + o.p * 29 + o.p.tdiv o.b.length * 53 < 1000000000000 := by omega
      generalize (x.toNat : Int) * 131 + (y.toNat : Int) * 1117 + o.p * 29 + o.p.tdiv o.b.length * 53 = z at hz ⊢
      have d2 := tdiv_b (m := z) (n := 64) (by omega) (by omega)
      refine Tot.quo (by omega) (by omega) (by omega) (Tot.xor (by omega) (fun u h4 h5 => Tot.rem (by omega) (Tot.ret ?_)))
      have := tmod_b (m := u) (n := n) (by omega) (by omega)
      exact ⟨this.1, .inl this.2, rfl⟩
theorem T_odd {o : Rd} {n : Int} (ho : 0 ≤ o.p ∧ o.p ≤ 1000000000) (hn : -1000000 ≤ n ∧ n ≤ 1000000) : Tot (m_Pspec_l20Rd_odd o n) fun r => o.p ≤ r.2.p ∧ r.2.p ≤ o.p + 1 := by
  unfold m_Pspec_l20Rd_odd m_Pspec_l20Rd_odd_j1
  refine Tot.bif (fun h => ?_) (fun h => Tot.ret ⟨Int.le_refl _, by simp only; omega⟩)
  refine Tot.bind (T_pick ho) (fun r hr => ?_)
  exact Tot.ck (by omega) (by omega) (Tot.ret ⟨by simp only; omega, by simp only; omega⟩)
/-- A value that was drawn. -/
def vDr (v : V) : Prop := v.S.size ≤ 20 ∧ -10000 ≤ v.N ∧ v.N ≤ 10000 ∧ -10 ≤ v.Kind ∧ v.Kind ≤ 10
theorem T_l20Value_j3 {n : Int} {o : Rd} {v w : V} (ho : 0 ≤ o.p ∧ o.p ≤ 1000000000 - 10) (hn : -1000000 ≤ n ∧ n ≤ 1000000) (hv : w.S.size ≤ 10 ∧ -10000 ≤ w.N ∧ w.N ≤ 10000 ∧ -10 ≤ w.Kind ∧ w.Kind ≤ 10) : Tot (m_spec_l20Value_j3 n o v w) fun r => vDr r.1 ∧ o.p ≤ r.2.p ∧ r.2.p ≤ o.p + 5 := by
  unfold m_spec_l20Value_j3 m_spec_l20Value_j4
  refine Tot.bind (T_odd (by omega) hn) (fun r hr => ?_)
  refine Tot.bif (fun _ => ?_) (fun _ => ?_)
  · refine Tot.bind (T_pick (by omega)) (fun q hq => ?_)
    refine Tot.bif (fun _ => ?_) (fun _ => Tot.bif (fun _ => ?_) (fun _ => Tot.bif (fun _ => ?_) (fun _ => ?_)))
    · refine Tot.lt (Tot.lt (Tot.ret ⟨⟨by simp only; omega, by simp only; omega, by simp only; omega, by simp only; omega, by simp only; omega⟩, by simp only; omega, by simp only; omega⟩))
    · refine Tot.cat (by rw [show ByteArray.size ⟨#[97, 98, 99, 100, 101, 102, 103]⟩ = 7 from rfl]; omega) (Tot.lt (Tot.lt (Tot.ret ⟨⟨?_, by simp only; omega, by simp only; omega, by simp only; omega, by simp only; omega⟩, by simp only; omega, by simp only; omega⟩)))
      simp only [ByteArray.size_append]
      rw [show ByteArray.size ⟨#[97, 98, 99, 100, 101, 102, 103]⟩ = 7 from rfl]; omega
    · refine Tot.bind (T_pick (by omega)) (fun u hu => ?_)
      refine Tot.ck (by omega) (by omega) (Tot.lt (Tot.lt (Tot.ret ⟨⟨by simp only; omega, by simp only; omega, by simp only; omega, by simp only; omega, by simp only; omega⟩, by simp only; omega, by simp only; omega⟩)))
    · refine Tot.cat (by rw [show ByteArray.size ⟨#[65]⟩ = 1 from rfl]; omega) (Tot.lt (Tot.lt (Tot.ret ⟨⟨?_, by simp only; omega, by simp only; omega, by simp only; omega, by simp only; omega⟩, by simp only; omega, by simp only; omega⟩)))
      simp only [ByteArray.size_append]
      rw [show ByteArray.size ⟨#[65]⟩ = 1 from rfl]; omega
  · exact Tot.lt (Tot.ret ⟨⟨by simp only; omega, by simp only; omega, by simp only; omega, by simp only; omega, by simp only; omega⟩, by simp only; omega, by simp only; omega⟩)
theorem T_l20Value_l1 {n : Int} {v : V} (hn : -1000000 ≤ n ∧ n ≤ 1000000) {p : Int} (hp : 0 ≤ p ∧ p ≤ 1000000000 - 20) : ∀ (f : Nat) (t : Int) (s : Rd × V), 0 ≤ t → t < f → (t ≤ 4 ∧ p ≤ s.1.p ∧ s.1.p + t ≤ p + 4 ∧ (s.2.S.size : Int) + t ≤ 4 ∧ -10000 ≤ s.2.N ∧ s.2.N ≤ 10000 ∧ -10 ≤ s.2.Kind ∧ s.2.Kind ≤ 10) →
    Tot (m_spec_l20Value_l1 f n t s.1 v s.2) fun r => vDr r.1 ∧ p ≤ r.2.p ∧ r.2.p ≤ p + 9 := by
  refine Tot.down (fun f t (s : Rd × V) => m_spec_l20Value_l1 f n t s.1 v s.2) _ (fun f s h => ?_) (fun f t s ht h ih => ?_)
  · rw [m_spec_l20Value_l1, show decide ((0 : Int) > 0) = false from rfl, cond_false]
    exact (T_l20Value_j3 (by omega) hn ⟨by omega, by omega, by omega, by omega, by omega⟩).mono fun r hr => ⟨hr.1, by omega, by omega⟩
  · rw [m_spec_l20Value_l1, decide_eq_true (show t > 0 by omega), cond_true]
    refine Tot.bind (T_pick (by omega)) (fun r hr => ?_)
    refine Tot.ck (by omega) (by omega) (Tot.cat ?_ (Tot.lt (Tot.ck (by omega) (by omega) ?_)))
    · rw [show (bStr [Lift.byteOf (97 + r.1)]).size = 1 from rfl]; omega
    · refine ih (r.2, { s.2 with S := s.2.S ++ bStr [Lift.byteOf (97 + r.1)] }) ⟨by omega, by simp only; omega, by simp only; omega, ?_, by simp only; omega, by simp only; omega, by simp only; omega, by simp only; omega⟩
      simp only [ByteArray.size_append]
      rw [show (bStr [Lift.byteOf (97 + r.1)]).size = 1 from rfl]; omega
theorem T_l20Value {o : Rd} {n : Int} (ho : 0 ≤ o.p ∧ o.p ≤ 1000000000 - 100) (hn : -1000000 ≤ n ∧ n ≤ 1000000) : Tot (m_spec_l20Value o n) fun r => vDr r.1 ∧ o.p ≤ r.2.p ∧ r.2.p ≤ o.p + 15 := by
  unfold m_spec_l20Value
  have e0 : ByteArray.size ⟨#[]⟩ = 0 := rfl
  have j2 : ∀ (b : Bool) (q : Rd) (v w : V), o.p ≤ q.p → q.p ≤ o.p + 2 → w.S.size = 0 → w.N = 0 → w.Kind = 0 → Tot (m_spec_l20Value_j2 n b q v w) fun r => vDr r.1 ∧ o.p ≤ r.2.p ∧ r.2.p ≤ o.p + 15 := by
    intro b q v w h1 h2 h3 h4 h5
    unfold m_spec_l20Value_j2
    refine Tot.bif (fun _ => Tot.lt ?_) (fun _ => ?_)
    · refine Tot.bind (T_pick (by omega)) (fun r hr => ?_)
      exact (T_l20Value_l1 (v := v) hn (p := r.2.p) (by omega) _ r.1 (r.2, ⟨2, 0, ⟨#[]⟩⟩) (by omega) (by omega) ⟨by omega, by simp only; omega, by simp only; omega, by simp only [e0]; omega, by first | decide | omega | (simp only; omega), by first | decide | omega | (simp only; omega), by first | decide | omega | (simp only; omega), by first | decide | omega | (simp only; omega)⟩).mono fun x hx => ⟨hx.1, by omega, by omega⟩
    · refine Tot.bind (T_pick (by omega)) (fun r hr => Tot.lt ?_)
      exact (T_l20Value_j3 (by omega) hn ⟨by simp only [e0]; omega, by simp only; omega, by simp only; omega, by first | decide | omega | (simp only; omega), by first | decide | omega | (simp only; omega)⟩).mono fun x hx => ⟨hx.1, by omega, by omega⟩
  have j1 : ∀ (t : Int) (b : Bool) (q : Rd) (v w : V), o.p ≤ q.p → q.p ≤ o.p + 1 → w.S.size = 0 → w.N = 0 → w.Kind = 0 → Tot (m_spec_l20Value_j1 n t b q v w) fun r => vDr r.1 ∧ o.p ≤ r.2.p ∧ r.2.p ≤ o.p + 15 := by
    intro t b q v w h1 h2 h3 h4 h5
    unfold m_spec_l20Value_j1
    refine Tot.bif (fun _ => ?_) (fun _ => Tot.bif (fun _ => j2 _ _ _ _ h1 (by omega) h3 h4 h5) (fun _ => j2 _ _ _ _ h1 (by omega) h3 h4 h5))
    refine Tot.bind (T_pick (by omega)) (fun r hr => Tot.ck (by omega) (by omega) (Tot.lt ?_))
    refine Tot.bind (T_pick (by omega)) (fun u hu => Tot.bif (fun _ => ?_) (fun _ => ?_))
    · refine Tot.bind (T_pick (by omega)) (fun x hx => Tot.at (by omega) (by simp only [List.length_cons, List.length_nil]; omega) (fun y hy => Tot.lt ?_))
      have hy' : -10000 ≤ y ∧ y ≤ 10000 := by simp at hy; omega
      exact (T_l20Value_j3 (by omega) hn ⟨by simp only [e0]; omega, by simp only; omega, by simp only; omega, by first | decide | omega | (simp only; omega), by first | decide | omega | (simp only; omega)⟩).mono fun x hx => ⟨hx.1, by omega, by omega⟩
    · exact (T_l20Value_j3 (by omega) hn ⟨by simp only [e0]; omega, by simp only; omega, by simp only; omega, by first | decide | omega | (simp only; omega), by first | decide | omega | (simp only; omega)⟩).mono fun x hx => ⟨hx.1, by omega, by omega⟩
  refine Tot.lt (Tot.bind (T_pick (by omega)) (fun r hr => ?_))
  refine Tot.bif (fun _ => ?_) (fun _ => Tot.bif (fun _ => ?_) (fun _ => Tot.bif (fun _ => ?_) (fun _ => ?_)))
  · exact (T_l20Value_j3 (by omega) hn ⟨by simp only [e0]; omega, by simp only; omega, by simp only; omega, by first | decide | omega | (simp only; omega), by first | decide | omega | (simp only; omega)⟩).mono fun x hx => ⟨hx.1, by omega, by omega⟩
  · exact j1 _ _ _ _ _ (by omega) (by omega) rfl rfl rfl
  · exact j1 _ _ _ _ _ (by omega) (by omega) rfl rfl rfl
  · exact j1 _ _ _ _ _ (by omega) (by omega) rfl rfl rfl
def cDr (c : S_impl_Column) : Prop := -10 ≤ c.Kind ∧ c.Kind ≤ 10
theorem T_l20Like {o : Rd} {c : S_impl_Column} (ho : 0 ≤ o.p ∧ o.p ≤ 1000000000 - 100) : Tot (m_spec_l20Like o c) fun r => vDr r.1 ∧ o.p ≤ r.2.p ∧ r.2.p ≤ o.p + 3 := by
  unfold m_spec_l20Like
  have e0 : ByteArray.size ⟨#[]⟩ = 0 := rfl
  have j1 : ∀ (b : Bool) (q : Rd) (v : V), o.p ≤ q.p → q.p ≤ o.p + 1 → Tot (m_spec_l20Like_j1 c b q v) fun r => vDr r.1 ∧ o.p ≤ r.2.p ∧ r.2.p ≤ o.p + 3 := by
    intro b q v h1 h2
    unfold m_spec_l20Like_j1
    refine Tot.bif (fun _ => Tot.lt (Tot.ret ⟨⟨by first | decide | omega | (simp only; omega), by first | decide | omega | (simp only; omega), by first | decide | omega | (simp only; omega), by first | decide | omega | (simp only; omega), by first | decide | omega | (simp only; omega)⟩, h1, by simp only; omega⟩)) (fun _ => Tot.bif (fun _ => ?_) (fun _ => Tot.bif (fun _ => ?_) (fun _ => ?_)))
    · refine Tot.bind (T_pick (by omega)) (fun r hr => Tot.lt (Tot.ret ⟨⟨by simp only [e0]; omega, by simp only; omega, by simp only; omega, by simp only; omega, by simp only; omega⟩, by simp only; omega, by simp only; omega⟩))
    · refine Tot.bind (T_pick (by omega)) (fun r hr => Tot.at (by omega) (by simp only [List.length_cons, List.length_nil]; omega) (fun y hy => Tot.lt (Tot.ret ⟨⟨?_, by simp only; omega, by simp only; omega, by simp only; omega, by simp only; omega⟩, by simp only; omega, by simp only; omega⟩)))
      simp only [List.mem_cons, List.mem_nil_iff, or_false] at hy
      rcases hy with rfl | rfl | rfl | rfl <;> exact Nat.le_of_ble_eq_true rfl
    · refine Tot.bind (T_pick (by omega)) (fun r hr => Tot.lt (Tot.ret ⟨⟨by simp only [e0]; omega, by simp only; omega, by simp only; omega, by simp only; omega, by simp only; omega⟩, by simp only; omega, by simp only; omega⟩))
  refine Tot.bif (fun _ => Tot.bind (T_pick (by omega)) (fun r hr => j1 _ _ _ (by omega) (by omega))) (fun _ => j1 _ _ _ (by omega) (by omega))
theorem T_l20Columns {o : Rd} {n : Int} (ho : 0 ≤ o.p ∧ o.p ≤ 1000000000 - 100) (hn : -1000000 ≤ n ∧ n ≤ 1000000) : Tot (m_spec_l20Columns o n) fun r => (1 ≤ r.1.length ∧ r.1.length ≤ 6 ∧ ∀ c ∈ r.1, cDr c) ∧ o.p ≤ r.2.p ∧ r.2.p ≤ o.p + 20 := by
  unfold m_spec_l20Columns
  refine Tot.bind (T_pick (by omega)) (fun r hr => Tot.ck (by omega) (by omega) ?_)
  refine Tot.down (fun f t (s : Rd × List S_impl_Column) => m_spec_l20Columns_l1 f n t s.1 s.2) (fun t s => t ≤ 3 ∧ r.2.p ≤ s.1.p ∧ s.1.p + 2 * t ≤ r.2.p + 6 ∧ (s.2.length : Int) + t = 1 + r.1 ∧ ∀ c ∈ s.2, cDr c) (fun f s h => ?_) (fun f t s ht h ih => ?_) _ (1 + r.1) (r.2, []) (by omega) (by omega) ⟨by omega, by simp only; omega, by simp only; omega, by first | (simp; done) | (simp; omega), by simp⟩
  · obtain ⟨g1, g2, g3, g4, g5⟩ := h
    rw [m_spec_l20Columns_l1, show decide ((0 : Int) > 0) = false from rfl, cond_false]
    unfold m_spec_l20Columns_j1 m_spec_l20Columns_j2
    refine Tot.bind (T_odd (by omega) hn) (fun q hq => Tot.bif (fun _ => ?_) (fun _ => Tot.ret ⟨⟨by simp only; omega, by simp only; omega, g5⟩, by simp only; omega, by simp only; omega⟩))
    refine Tot.bind (T_pick (by omega)) (fun u hu => Tot.ck (by omega) (by omega) (Tot.app (by simp only [List.length_cons, List.length_nil]; omega) (Tot.ret ⟨⟨by first | (simp; done) | (simp; omega), by first | (simp; done) | (simp; omega), ?_⟩, by simp only; omega, by simp only; omega⟩)))
    intro c hc
    simp only [List.mem_append, List.mem_cons, List.mem_nil_iff, or_false] at hc
    rcases hc with hc | rfl | rfl | rfl
    · exact g5 c hc
    · exact ⟨by simp only; omega, by simp only; omega⟩
    · exact ⟨by first | decide | omega | (simp only; omega), by first | decide | omega | (simp only; omega)⟩
    · exact ⟨by first | decide | omega | (simp only; omega), by first | decide | omega | (simp only; omega)⟩
  · obtain ⟨g1, g2, g3, g4, g5⟩ := h
    rw [m_spec_l20Columns_l1, decide_eq_true (show t > 0 by omega), cond_true]
    refine Tot.bind (T_pick (by omega)) (fun x hx => Tot.at (by omega) (by simp only [List.length_cons, List.length_nil]; omega) (fun y hy => ?_))
    have hy' : -10 ≤ y ∧ y ≤ 10 := by simp at hy; omega
    refine Tot.bind (T_pick (by omega)) (fun z hz => Tot.app (by simp only [List.length_cons, List.length_nil]; omega) (Tot.ck (by omega) (by omega) ?_))
    refine ih (z.2, s.2 ++ [⟨y, decide (z.1 > 0)⟩]) ⟨by omega, by simp only; omega, by simp only; omega, by first | (simp; done) | (simp; omega), ?_⟩
    intro c hc
    simp only [List.mem_append, List.mem_cons, List.mem_nil_iff, or_false] at hc
    rcases hc with hc | rfl
    · exact g5 c hc
    · exact hy'
/-- A row that was drawn. -/
def rDr (r : Row) : Prop := r.length ≤ 9 ∧ ∀ v ∈ r, vDr v
theorem T_l20Fit {o : Rd} {cs : List S_impl_Column} {n : Int} (ho : 0 ≤ o.p ∧ o.p ≤ 1000000000 - 1000) (hn : -1000000 ≤ n ∧ n ≤ 1000000) (hc : cs.length ≤ 6) : Tot (m_spec_l20Fit o cs n) fun r => rDr r.1 ∧ o.p ≤ r.2.p ∧ r.2.p ≤ o.p + 80 := by
  unfold m_spec_l20Fit
  refine Tot.up (cs.length : Int) (fun f t (s : Rd × Row) => m_spec_l20Fit_l1 f cs n t s.1 s.2) (fun t s => o.p ≤ s.1.p ∧ s.1.p ≤ o.p + 3 * t ∧ (s.2.length : Int) = t ∧ ∀ v ∈ s.2, vDr v) (fun f s h => ?_) (fun f t s h0 ht h ih => ?_) _ 0 (o, []) (by omega) (by omega) (by omega) ⟨by simp only; omega, by simp only; omega, by simp, by simp⟩
  · obtain ⟨g1, g2, g3, g4⟩ := h
    rw [m_spec_l20Fit_l1, show decide ((cs.length : Int) < cs.length) = false by simp, cond_false]
    unfold m_spec_l20Fit_j1 m_spec_l20Fit_j2
    refine Tot.bind (T_odd (by omega) hn) (fun q hq => Tot.bif (fun _ => ?_) (fun _ => Tot.ret ⟨⟨by simp only; omega, g4⟩, by simp only; omega, by simp only; omega⟩))
    refine Tot.bind (T_pick (by omega)) (fun u hu => Tot.bif (fun _ => ?_) (fun _ => Tot.bif (fun _ => ?_) (fun _ => ?_)))
    · refine Tot.app (by simp only [List.length_cons, List.length_nil]; omega) (Tot.ret ⟨⟨by first | (simp; done) | (simp; omega), ?_⟩, by simp only; omega, by simp only; omega⟩)
      intro c hc
      simp only [List.mem_append, List.mem_cons, List.mem_nil_iff, or_false] at hc
      rcases hc with hc | rfl
      · exact g4 c hc
      · exact ⟨by first | decide | omega | (simp only; omega), by first | decide | omega | (simp only; omega), by first | decide | omega | (simp only; omega), by first | decide | omega | (simp only; omega), by first | decide | omega | (simp only; omega)⟩
    · refine Tot.bif (fun h3 => ?_) (fun _ => Tot.ret ⟨⟨by simp only; omega, g4⟩, by simp only; omega, by simp only; omega⟩)
      simp only [gt_iff_lt, decide_eq_true_eq] at h3
      refine Tot.bind (T_pick (by omega)) (fun x hx => Tot.bind (T_l20Value (by omega) (by omega)) (fun y hy => Tot.at (by omega) (by omega) (fun _ _ => Tot.at (by omega) (by omega) (fun _ _ => Tot.lt (Tot.ret ⟨⟨by first | (simp; done) | (simp; omega), ?_⟩, by simp only; omega, by simp only; omega⟩)))))
      intro c hc
      rcases List.mem_or_eq_of_mem_set hc with hc | rfl
      · exact g4 c hc
      · exact hy.1
    · refine Tot.bind (T_l20Value (by omega) (by omega)) (fun x hx => Tot.bind (T_l20Value (by omega) (by omega)) (fun y hy => Tot.bind (T_l20Value (by omega) (by omega)) (fun z hz => Tot.app (by simp only [List.length_cons, List.length_nil]; omega) (Tot.ret ⟨⟨by first | (simp; done) | (simp; omega), ?_⟩, by simp only; omega, by simp only; omega⟩))))
      intro c hc
      simp only [List.mem_append, List.mem_cons, List.mem_nil_iff, or_false] at hc
      rcases hc with hc | rfl | rfl | rfl
      · exact g4 c hc
      · exact hx.1
      · exact hy.1
      · exact hz.1
  · obtain ⟨g1, g2, g3, g4⟩ := h
    rw [m_spec_l20Fit_l1, decide_eq_true ht, cond_true]
    refine Tot.at h0 ht (fun c hc => Tot.bind (T_l20Like (by omega)) (fun x hx => Tot.app (by simp only [List.length_cons, List.length_nil]; omega) (Tot.ck (by omega) (by omega) ?_)))
    refine ih (x.2, s.2 ++ [x.1]) ⟨by simp only; omega, by simp only; omega, by first | (simp; done) | (simp; omega), ?_⟩
    intro c hc
    simp only [List.mem_append, List.mem_cons, List.mem_nil_iff, or_false] at hc
    rcases hc with hc | rfl
    · exact g4 c hc
    · exact hx.1
theorem rDr_sm {r : Row} (h : rDr r) : rSm r := ⟨by have := h.1; omega, fun v hv => by have := (h.2 v hv).1; unfold vSm; omega⟩
theorem T_l20Open {l : List UInt8} : Tot (m_spec_l20Open l) fun r => r.p = 0 := by
  unfold m_spec_l20Open m_spec_l20Open_j1
  refine Tot.bif (fun h => ?_) (fun _ => Tot.ret rfl)
  simp only [gt_iff_lt, decide_eq_true_eq] at h
  exact Tot.cut (by omega) (Tot.ret rfl)
/-- A total order, told by numbers. -/
structure TO {α : Type} (p : α → α → Int) : Prop where
  eq0 : ∀ a b, p a b = 0 ↔ a = b
  anti : ∀ a b, p a b < 0 ↔ 0 < p b a
  trans : ∀ a b c, p a b < 0 → p b c < 0 → p a c < 0
theorem TO.le_trans {α : Type} {p : α → α → Int} (h : TO p) {a b c : α} (h1 : p a b ≤ 0) (h2 : p b c ≤ 0) : p a c ≤ 0 := by
  rcases Int.lt_or_eq_of_le h1 with h1 | h1
  · rcases Int.lt_or_eq_of_le h2 with h2 | h2
    · exact Int.le_of_lt (h.trans _ _ _ h1 h2)
    · rw [← (h.eq0 _ _).1 h2]; omega
  · rw [(h.eq0 _ _).1 h1]; exact h2
theorem TO.total {α : Type} {p : α → α → Int} (h : TO p) (a b : α) : 0 < p a b ↔ p b a < 0 := (h.anti b a).symm
def lx (x y : Int) : Int := if x = 0 then y else x
theorem orI_2 (a b : Int) : orI [a, b] = lx a b := by
  unfold lx; split
  · rename_i h; subst h; rw [orI_0]
    by_cases h : b = 0
    · subst h; rfl
    · rw [orI_1 h]
  · rename_i h; rw [orI_1 h]
theorem L_slices_Clone_Limpl_Entry_impl_Entry {l : List S_impl_Entry} (hl : l.length ≤ 1000000) : m_slices_Clone_Limpl_Entry_impl_Entry l = some l := by
  unfold m_slices_Clone_Limpl_Entry_impl_Entry
  cases l with
  | nil => rfl
  | cons x l =>
    simp only [nilM, cond_false]
    rw [app_of (by simp at hl ⊢; omega), Option.bind_some, List.nil_append]
theorem L_slices_IndexFunc_Limpl_Entry_impl_Entry {l : List S_impl_Entry} {p : S_impl_Entry → Option Bool} {q : S_impl_Entry → Bool} (hl : l.length ≤ 1000000) (hp : ∀ v ∈ l, p v = some (q v)) : m_slices_IndexFunc_Limpl_Entry_impl_Entry l p = some (idxI q l) := by
  unfold m_slices_IndexFunc_Limpl_Entry_impl_Entry
  exact scanI (q := q) (g := fun i => some i) l (fun n k => m_slices_IndexFunc_Limpl_Entry_impl_Entry_l1 p n l (l.length : Int) k) (fun n k x hx => by
    have := lt_of_at hx
    rw [m_slices_IndexFunc_Limpl_Entry_impl_Entry_l1, dlt this, cond_true]
    simp only [at_of hx, Option.bind_some, hp x (List.mem_of_getElem? hx), ck1 (show k < 1000000000000 by omega)]) (fun n => by rw [m_slices_IndexFunc_Limpl_Entry_impl_Entry_l1, dnlt]; rfl) _ fuel0
theorem L_slices_DeleteFunc_Limpl_Entry_impl_Entry {l : List S_impl_Entry} {p : S_impl_Entry → Option Bool} {q : S_impl_Entry → Bool} (hl : l.length ≤ 1000000) (hp : ∀ v ∈ l, p v = some (q v)) : m_slices_DeleteFunc_Limpl_Entry_impl_Entry l p = some (l.filter fun x => !q x) := by
  unfold m_slices_DeleteFunc_Limpl_Entry_impl_Entry
  rw [L_slices_IndexFunc_Limpl_Entry_impl_Entry hl hp, Option.bind_some]
  obtain ⟨h1, h2⟩ := idxI_spec (q := q) l
  have hg := idxI_ge q l
  by_cases hn : idxI q l = -1
  · rw [hn, h1 hn]; rfl
  · obtain ⟨k, hk⟩ : ∃ k : Nat, idxI q l = k := ⟨(idxI q l).toNat, by omega⟩
    obtain ⟨a, b, x, c, d⟩ := h2 k hk
    rw [hk, show ((k : Int) == -1) = false by rw [beq_eq_false_iff_ne]; omega, cond_false, ck1 (by omega), Option.bind_some, filter_take a b c d]
    obtain ⟨o', g1, g2, g3⟩ := delLoop (q := q) (F := fun w o => m_slices_DeleteFunc_Limpl_Entry_impl_Entry_j2 p (w : Int) o) (fun n w k o => m_slices_DeleteFunc_Limpl_Entry_impl_Entry_l1 p n (w : Int) (k : Int) o) l
      (fun n w k o y ho hw hy hly => by
        show m_slices_DeleteFunc_Limpl_Entry_impl_Entry_l1 p (n + 1) _ _ _ = _
        have hlt := lt_of_at hy
        rw [m_slices_DeleteFunc_Limpl_Entry_impl_Entry_l1, dlt hlt, cond_true, at_of hy, Option.bind_some, Option.bind_some, ltE, hp y (List.mem_of_getElem? hly), Option.bind_some]
        unfold m_slices_DeleteFunc_Limpl_Entry_impl_Entry_j1
        cases q y with
        | true => rw [Bool.not_true, cond_false, cond_false, ck1 (by omega), Option.bind_some]; rfl
        | false =>
          rw [Bool.not_false, cond_true, cond_true, at_of (List.getElem?_eq_getElem (show w < o.length by omega)), Option.bind_some, Option.bind_some, ltE, ck1 (by omega), Option.bind_some, ck1 (by omega), Option.bind_some, Int.toNat_natCast]; rfl)
      (fun n w o ho => by
        show m_slices_DeleteFunc_Limpl_Entry_impl_Entry_l1 p (n + 1) _ _ _ = _
        rw [m_slices_DeleteFunc_Limpl_Entry_impl_Entry_l1, ho, dnlt, cond_false])
      (l.length - (k + 1)) (k + 1) k ((((l.length : Int) - ((k : Int) + 1)).toNat + 1)) l (by omega) (by omega) (by omega) rfl (fun _ _ => rfl)
    have g3' : m_slices_DeleteFunc_Limpl_Entry_impl_Entry_l1 p ((((l.length : Int) - ((k : Int) + 1)).toNat + 1)) (k : Int) ((k : Int) + 1) l = _ := g3
    rw [g3']
    have hw : k + ((l.drop (k + 1)).filter fun x => !q x).length ≤ l.length := by
      have h3 : ((l.drop (k + 1)).filter fun x => !q x).length ≤ (l.drop (k + 1)).length := List.length_filter_le _ _
      rw [List.length_drop] at h3; omega
    generalize k + ((l.drop (k + 1)).filter fun x => !q x).length = w at g2 hw ⊢
    show m_slices_DeleteFunc_Limpl_Entry_impl_Entry_j2 p (w : Int) o' = _
    unfold m_slices_DeleteFunc_Limpl_Entry_impl_Entry_j2
    rw [rng_of (by omega), Option.bind_some, rng_of (by omega), Option.bind_some, Int.toNat_natCast, leN_of (by simp; omega), Option.bind_some]
    rw [Nat.zero_add, List.take_take, Nat.min_self, g2]
theorem L_slices_Clip_Limpl_Write_impl_Write_o {l : List S_impl_Write} : m_slices_Clip_Limpl_Write_impl_Write_o l = some l := rfl
theorem L_slices_Clip_Limpl_Entry_impl_Entry_o {l : List S_impl_Entry} : m_slices_Clip_Limpl_Entry_impl_Entry_o l = some l := rfl
theorem L_slices_Clip_Limpl_Version_impl_Version_o {l : List S_impl_Version} : m_slices_Clip_Limpl_Version_impl_Version_o l = some l := rfl
theorem L_slices_swapRangeCmpFunc_impl_Version {p : S_impl_Version → S_impl_Version → Option Int} (P X Q Y S : List S_impl_Version) (hXY : X.length = Y.length) (hl : P.length + X.length + Q.length + Y.length + S.length ≤ 1000000) :
    m_slices_swapRangeCmpFunc_impl_Version (P ++ (X ++ (Q ++ (Y ++ S)))) (P.length : Int) ((P.length + X.length + Q.length : Nat) : Int) (X.length : Int) p = some (P ++ (Y ++ (Q ++ (X ++ S)))) := by
  unfold m_slices_swapRangeCmpFunc_impl_Version
  have key : ∀ (d i m : Nat), i + d = X.length → d < m → m_slices_swapRangeCmpFunc_impl_Version_l1 p m (P.length : Int) ((P.length + X.length + Q.length : Nat) : Int) (X.length : Int) (i : Int) (P ++ ((Y.take i ++ X.drop i) ++ (Q ++ ((X.take i ++ Y.drop i) ++ S)))) = some (P ++ (Y ++ (Q ++ (X ++ S)))) := by
    intro d
    induction d with
    | zero =>
      intro i m hi hm
      obtain ⟨m, rfl⟩ : ∃ q, m = q + 1 := ⟨m - 1, by omega⟩
      obtain rfl : i = X.length := by omega
      rw [m_slices_swapRangeCmpFunc_impl_Version_l1, dnlt, cond_false, List.take_length, List.drop_length, hXY, List.take_length, List.drop_length]
      simp
    | succ d ih =>
      intro i m hi hm
      obtain ⟨m, rfl⟩ : ∃ q, m = q + 1 := ⟨m - 1, by omega⟩
      have hX : X.drop i = X[i] :: X.drop (i + 1) := List.drop_eq_getElem_cons (by omega)
      have hY : Y.drop i = Y[i] :: Y.drop (i + 1) := List.drop_eq_getElem_cons (by omega)
      have eo : P ++ ((Y.take i ++ X.drop i) ++ (Q ++ ((X.take i ++ Y.drop i) ++ S))) = (P ++ Y.take i) ++ X[i] :: ((X.drop (i + 1) ++ (Q ++ X.take i)) ++ Y[i] :: (Y.drop (i + 1) ++ S)) := by rw [hX, hY]; simp only [List.append_assoc, List.cons_append]
      have en : (P ++ Y.take i) ++ Y[i] :: ((X.drop (i + 1) ++ (Q ++ X.take i)) ++ X[i] :: (Y.drop (i + 1) ++ S)) = P ++ ((Y.take (i + 1) ++ X.drop (i + 1)) ++ (Q ++ ((X.take (i + 1) ++ Y.drop (i + 1)) ++ S))) := by
        rw [List.take_succ_eq_append_getElem (show i < Y.length by omega), List.take_succ_eq_append_getElem (show i < X.length by omega)]; simp only [List.append_assoc, List.cons_append, List.nil_append]
      have l1 : (P ++ Y.take i).length = P.length + i := by simp; omega
      have l2 : (P ++ Y.take i).length + 1 + (X.drop (i + 1) ++ (Q ++ X.take i)).length = P.length + X.length + Q.length + i := by simp; omega
      obtain ⟨g1, g2⟩ := at_two (P ++ Y.take i) (X.drop (i + 1) ++ (Q ++ X.take i)) (Y.drop (i + 1) ++ S) X[i] Y[i]
      have st := set_two (P ++ Y.take i) (X.drop (i + 1) ++ (Q ++ X.take i)) (Y.drop (i + 1) ++ S) X[i] Y[i]
      rw [l1] at g1
      rw [l2] at g2
      rw [l2, l1] at st
      rw [eo]
      generalize ho : (P ++ Y.take i) ++ X[i] :: ((X.drop (i + 1) ++ (Q ++ X.take i)) ++ Y[i] :: (Y.drop (i + 1) ++ S)) = o at g1 g2 st
      rw [m_slices_swapRangeCmpFunc_impl_Version_l1, dlt (show i < X.length by omega), cond_true, show ((P.length : Int) + (i : Int)) = ((P.length + i : Nat) : Int) by omega, show (((P.length + X.length + Q.length : Nat) : Int) + (i : Int)) = ((P.length + X.length + Q.length + i : Nat) : Int) by omega,
        ckI_of (x := ((P.length + i : Nat) : Int)) (by omega) (by omega), Option.bind_some, ckI_of (x := ((P.length + X.length + Q.length + i : Nat) : Int)) (by omega) (by omega), Option.bind_some, Option.bind_some]
      rw [at_of g2, Option.bind_some, Option.bind_some, Option.bind_some, at_of g1, Option.bind_some, Option.bind_some, Option.bind_some, Option.bind_some]
      rw [ltE, Int.toNat_natCast, Int.toNat_natCast, at_set_ne g2 (show P.length + i ≠ P.length + X.length + Q.length + i by omega), Option.bind_some, Option.bind_some, ltE, ck1 (by omega), Option.bind_some, st, en, show ((i : Int) + 1) = ((i + 1 : Nat) : Int) by omega]
      exact ih (i + 1) m (by omega) (by omega)
  have := key X.length 0 (((X.length : Int) - 0).toNat + 1) (by omega) (by omega)
  rw [show ((0 : Nat) : Int) = 0 from rfl, List.take_zero, List.drop_zero, List.take_zero, List.drop_zero, List.nil_append, List.nil_append] at this
  exact this
theorem L_slices_rotateCmpFunc_impl_Version {p : S_impl_Version → S_impl_Version → Option Int} (P X Y S : List S_impl_Version) (hX : 0 < X.length) (hY : 0 < Y.length) (hl : P.length + X.length + Y.length + S.length ≤ 1000000) :
    m_slices_rotateCmpFunc_impl_Version (P ++ (X ++ (Y ++ S))) (P.length : Int) ((P.length + X.length : Nat) : Int) ((P.length + X.length + Y.length : Nat) : Int) p = some (P ++ (Y ++ (X ++ S))) := by
  unfold m_slices_rotateCmpFunc_impl_Version
  rw [ckI_of (by omega) (by omega), Option.bind_some, ckI_of (by omega) (by omega), Option.bind_some, show (((P.length + X.length : Nat) : Int) - (P.length : Int)) = (X.length : Int) by omega, show (((P.length + X.length + Y.length : Nat) : Int) - ((P.length + X.length : Nat) : Int)) = (Y.length : Int) by omega]
  have key : ∀ (d n mm : Nat) (P X Y S : List S_impl_Version), X.length + Y.length ≤ d → d < n → 0 < X.length → 0 < Y.length → P.length + X.length + Y.length + S.length ≤ 1000000 → mm = P.length + X.length →
      m_slices_rotateCmpFunc_impl_Version_l1 p n (mm : Int) (X.length : Int) (Y.length : Int) (P ++ (X ++ (Y ++ S))) = some (P ++ (Y ++ (X ++ S))) := by
    intro d
    induction d with
    | zero => intro n mm P X Y S h0 h1 h2; omega
    | succ d ih =>
      intro n mm P X Y S h0 h1 h2 h3 h4 h5
      obtain ⟨n, rfl⟩ : ∃ q, n = q + 1 := ⟨n - 1, by omega⟩
      rw [m_slices_rotateCmpFunc_impl_Version_l1, neN]
      by_cases he : X.length = Y.length
      · rw [decide_eq_true he, Bool.not_true, cond_false]
        unfold m_slices_rotateCmpFunc_impl_Version_j1
        have := L_slices_swapRangeCmpFunc_impl_Version (p := p) P X [] Y S he (by simp; omega)
        simp only [List.nil_append, List.length_nil, Nat.add_zero] at this
        rw [ckI_of (by omega) (by omega), Option.bind_some, show ((mm : Int) - (X.length : Int)) = (P.length : Int) by omega, h5, this, Option.bind_some, lenQ_ok (by simp; omega), Option.bind_some]
      · rw [decide_eq_false he, Bool.not_false, cond_true]
        by_cases hg : X.length > Y.length
        · have hs : X = X.take Y.length ++ X.drop Y.length := (List.take_append_drop _ _).symm
          have lu : (X.take Y.length).length = Y.length := by simp; omega
          have lv : (X.drop Y.length).length = X.length - Y.length := by simp
          generalize X.take Y.length = U at hs lu
          generalize X.drop Y.length = V at hs lv
          subst hs
          have := L_slices_swapRangeCmpFunc_impl_Version (p := p) P U V Y S lu (by simp at h4 ⊢; omega)
          rw [decide_eq_true (show (((U ++ V).length : Int) > (Y.length : Int)) by omega), cond_true, ckI_of (by omega) (by omega), Option.bind_some, show ((mm : Int) - ((U ++ V).length : Int)) = (P.length : Int) by omega, List.append_assoc, ← lu,
            show (mm : Int) = ((P.length + U.length + V.length : Nat) : Int) by simp at h5; omega, this, Option.bind_some, lenQ_ok (by simp; omega), Option.bind_some, ckI_of (by omega) (by omega), Option.bind_some]
          have e := ih n (P.length + U.length + V.length) (P ++ Y) V U S (by simp at h0; omega) (by omega) (by omega) (by omega) (by simp at h4 ⊢; omega) (by simp; omega)
          rw [show (((U ++ V).length : Int) - (U.length : Int)) = (V.length : Int) by simp; omega]
          simp only [List.append_assoc] at e ⊢
          exact e
        · have hs : Y = Y.take (Y.length - X.length) ++ Y.drop (Y.length - X.length) := (List.take_append_drop _ _).symm
          have lu : (Y.take (Y.length - X.length)).length = Y.length - X.length := by simp
          have lv : (Y.drop (Y.length - X.length)).length = X.length := by simp; omega
          generalize Y.take (Y.length - X.length) = U at hs lu
          generalize Y.drop (Y.length - X.length) = V at hs lv
          subst hs
          have := L_slices_swapRangeCmpFunc_impl_Version (p := p) P X U V S lv.symm (by simp at h4 ⊢; omega)
          rw [decide_eq_false (show ¬ ((X.length : Int) > ((U ++ V).length : Int)) by omega), cond_false, ckI_of (by omega) (by omega), Option.bind_some, ckI_of (by omega) (by omega), Option.bind_some, ckI_of (by omega) (by omega), Option.bind_some, show ((mm : Int) - (X.length : Int)) = (P.length : Int) by omega,
            show ((mm : Int) + ((U ++ V).length : Int) - (X.length : Int)) = ((P.length + X.length + U.length : Nat) : Int) by simp; omega, List.append_assoc, this, Option.bind_some, lenQ_ok (by simp; omega), Option.bind_some, ckI_of (by omega) (by omega), Option.bind_some]
          have e := ih n mm P V U (X ++ S) (by simp at h0; omega) (by omega) (by omega) (by simp at he; omega) (by simp at h4 ⊢; omega) (by omega)
          rw [show (((U ++ V).length : Int) - (X.length : Int)) = (U.length : Int) by simp; omega, ← lv]
          simp only [List.append_assoc] at e ⊢
          exact e
  exact key (X.length + Y.length) 1000000000 _ P X Y S (Nat.le_refl _) (by omega) hX hY hl rfl
theorem L_up_slices_symMergeCmpFunc_impl_Version {rc : List S_impl_Version → Int → Int → Int → (S_impl_Version → S_impl_Version → Option Int) → Option (List S_impl_Version)} {p : S_impl_Version → S_impl_Version → Option Int} (x : S_impl_Version) : ∀ (B P R : List S_impl_Version) (n : Nat), B.length < n → P.length + B.length + R.length ≤ 1000000 →
    m_slices_symMergeCmpFunc_impl_Version_l2 rc p n ((P.length + B.length + 1 : Nat) : Int) (P.length : Int) (P ++ x :: (B ++ R)) = some (P ++ (B ++ x :: R)) := by
  intro B
  induction B with
  | nil =>
    intro P R n hn hl
    obtain ⟨n, rfl⟩ : ∃ q, n = q + 1 := ⟨n - 1, by omega⟩
    rw [m_slices_symMergeCmpFunc_impl_Version_l2, ckI_of (by omega) (by omega), Option.bind_some, decide_eq_false (by simp), cond_false]
    rfl
  | cons y B ih =>
    intro P R n hn hl
    obtain ⟨n, rfl⟩ : ∃ q, n = q + 1 := ⟨n - 1, by omega⟩
    obtain ⟨g1, g2⟩ := at_two P [] (B ++ R) x y
    have st := set_two P [] (B ++ R) x y
    rw [List.nil_append, List.nil_append, List.length_nil, Nat.add_zero] at st
    rw [List.nil_append] at g1
    rw [List.nil_append, List.length_nil, Nat.add_zero] at g2
    rw [List.cons_append]
    generalize ho : P ++ x :: y :: (B ++ R) = o at g1 g2 st
    have hlen : (y :: B).length = B.length + 1 := rfl
    rw [hlen] at hn hl
    rw [m_slices_symMergeCmpFunc_impl_Version_l2, hlen, ckI_of (by omega) (by omega), Option.bind_some, decide_eq_true (by omega), cond_true, ck1 (show P.length < 1000000000000 by omega), Option.bind_some, Option.bind_some, show ((P.length : Int) + 1) = ((P.length + 1 : Nat) : Int) by omega, at_of g2, Option.bind_some, Option.bind_some, at_of g1, Option.bind_some, Option.bind_some, Option.bind_some, Option.bind_some, ltE, Int.toNat_natCast, Int.toNat_natCast, at_set_ne g2 (show P.length ≠ P.length + 1 by omega), Option.bind_some, Option.bind_some, ltE, Option.bind_some, st]
    have := ih (P ++ [y]) R n (by omega) (by simp; omega)
    rw [show ((P ++ [y]).length + B.length + 1) = P.length + (B.length + 1) + 1 by simp; omega, show ((P ++ [y]).length : Nat) = P.length + 1 by simp] at this
    rw [show P ++ y :: x :: (B ++ R) = (P ++ [y]) ++ x :: (B ++ R) by simp, this]
    simp
theorem L_down_slices_symMergeCmpFunc_impl_Version {rc : List S_impl_Version → Int → Int → Int → (S_impl_Version → S_impl_Version → Option Int) → Option (List S_impl_Version)} {p : S_impl_Version → S_impl_Version → Option Int} (x : S_impl_Version) (Q : List S_impl_Version) : ∀ (k : Nat) (A R : List S_impl_Version) (n : Nat), A.length = k → k < n → Q.length + A.length + R.length ≤ 1000000 →
    m_slices_symMergeCmpFunc_impl_Version_l4 rc p n (Q.length : Int) ((Q.length + A.length : Nat) : Int) (Q ++ (A ++ x :: R)) = some (Q ++ x :: (A ++ R)) := by
  intro k
  induction k with
  | zero =>
    intro A R n hk hn hl
    obtain rfl : A = [] := List.length_eq_zero_iff.1 hk
    obtain ⟨n, rfl⟩ : ∃ q, n = q + 1 := ⟨n - 1, by omega⟩
    rw [m_slices_symMergeCmpFunc_impl_Version_l4, decide_eq_false (by simp), cond_false]
    rfl
  | succ k ih =>
    intro A R n hk hn hl
    obtain ⟨n, rfl⟩ : ∃ q, n = q + 1 := ⟨n - 1, by omega⟩
    obtain ⟨A', z, rfl⟩ : ∃ A' z, A = A' ++ [z] := by
      have : A ≠ [] := by rintro rfl; simp at hk
      exact ⟨A.dropLast, A.getLast this, (List.dropLast_concat_getLast this).symm⟩
    have hk' : A'.length = k := by simpa using hk
    obtain ⟨g1, g2⟩ := at_two (Q ++ A') [] R z x
    have st := set_two (Q ++ A') [] R x z
    have l1 : (Q ++ A').length = Q.length + A'.length := by simp
    have e0 : Q ++ ((A' ++ [z]) ++ x :: R) = (Q ++ A') ++ z :: ([] ++ x :: R) := by simp
    have hset : (((Q ++ A') ++ z :: ([] ++ x :: R)).set (Q.length + A'.length + 1) z).set (Q.length + A'.length) x = (Q ++ A') ++ x :: z :: R := by
      rw [List.set_append_right _ _ (by rw [l1]; omega), l1, show Q.length + A'.length + 1 - (Q.length + A'.length) = 1 by omega, List.nil_append, List.set_cons_succ, List.set_cons_zero, List.set_append_right _ _ (by rw [l1]; omega), l1, Nat.sub_self, List.set_cons_zero]
    rw [l1] at g1
    rw [l1, List.length_nil, Nat.add_zero] at g2
    rw [e0]
    generalize ho : (Q ++ A') ++ z :: ([] ++ x :: R) = o at g1 g2 hset
    have hlen : (A' ++ [z]).length = A'.length + 1 := by simp
    rw [hlen] at hl ⊢
    rw [m_slices_symMergeCmpFunc_impl_Version_l4, decide_eq_true (by omega), cond_true, show ((Q.length + (A'.length + 1) : Nat) : Int) = ((Q.length + A'.length + 1 : Nat) : Int) by omega, ckdd (by omega), Option.bind_some, Option.bind_some, at_of g1, Option.bind_some, Option.bind_some, at_of g2, Option.bind_some, Option.bind_some, Option.bind_some, Option.bind_some, ltE, Int.toNat_natCast, Int.toNat_natCast, at_set_ne g1 (show Q.length + A'.length + 1 ≠ Q.length + A'.length by omega), Option.bind_some, Option.bind_some, ltE, Option.bind_some, hset]
    have := ih A' (z :: R) n hk' (by omega) (by simp; omega)
    rw [List.append_assoc, this]
    simp
theorem L_b1_slices_symMergeCmpFunc_impl_Version {rc : List S_impl_Version → Int → Int → Int → (S_impl_Version → S_impl_Version → Option Int) → Option (List S_impl_Version)} {p : S_impl_Version → S_impl_Version → Option Int} {q : S_impl_Version → S_impl_Version → Int} {U : List S_impl_Version} (hp : ∀ x ∈ U, ∀ y ∈ U, p x y = some (q x y)) (x : S_impl_Version) (P Y S : List S_impl_Version) (hU : ∀ z ∈ x :: Y, z ∈ U) (hl : P.length + 1 + Y.length + S.length ≤ 1000000) :
    ∃ B1 B2, Y = B1 ++ B2 ∧ m_slices_symMergeCmpFunc_impl_Version_l1 rc p (((P.length + 1 + Y.length : Nat) : Int) - ((P.length + 1 : Nat) : Int)).toNat.succ (P.length : Int) ((P.length + 1 : Nat) : Int) ((P.length + 1 + Y.length : Nat) : Int) (P ++ ([x] ++ (Y ++ S))) = some (P ++ ((B1 ++ x :: B2) ++ S)) ∧ (∀ z, B1[B1.length - 1]? = some z → q z x < 0) ∧ (∀ z, B2[0]? = some z → ¬ q z x < 0) := by
  have hx0 : (P ++ ([x] ++ (Y ++ S)))[P.length]? = some x := by simp
  let good : Nat → Bool := fun h => match (P ++ ([x] ++ (Y ++ S)))[h]? with | some z => decide (q z x < 0) | none => false
  obtain ⟨k, k1, k2, k3, k4, k5⟩ := bsLoop (fun n i j => m_slices_symMergeCmpFunc_impl_Version_l1 rc p n (P.length : Int) i j (P ++ ([x] ++ (Y ++ S)))) (fun i => m_slices_symMergeCmpFunc_impl_Version_j1 rc p (P.length : Int) (i : Int) (P ++ ([x] ++ (Y ++ S)))) good (P.length + 1) (P.length + 1 + Y.length)
    (fun n i => by show m_slices_symMergeCmpFunc_impl_Version_l1 rc p (n + 1) _ _ _ _ = _; rw [m_slices_symMergeCmpFunc_impl_Version_l1, dnlt, cond_false])
    (fun n i j h1 h2 h3 => by
      show m_slices_symMergeCmpFunc_impl_Version_l1 rc p (n + 1) _ _ _ _ = _
      obtain ⟨z, g1, g2, g3, g4⟩ := mid_get P [x] Y S (i := (i + j) / 2) (by omega) (by simp only [List.length_singleton]; omega)
      have gd : good ((i + j) / 2) = decide (q z x < 0) := by show (match (P ++ ([x] ++ (Y ++ S)))[(i + j) / 2]? with | some z => decide (q z x < 0) | none => false) = _; rw [g1]
      rw [m_slices_symMergeCmpFunc_impl_Version_l1, dlt h2, cond_true, show ((i : Int) + (j : Int)) = ((i + j : Nat) : Int) by omega, ckI_of (by omega) (by omega), Option.bind_some, uI_of (by omega) (by omega), Option.bind_some, shr_half, Option.bind_some, uI_of (by omega) (by omega), Option.bind_some, at_of g1, Option.bind_some, Option.bind_some, at_of hx0, Option.bind_some, Option.bind_some, hp z (hU z (by simpa using g2)) x (hU x (by simp)), Option.bind_some, gd]
      by_cases hq : q z x < 0
      · rw [decide_eq_true hq, cond_true, if_pos rfl, ck1 (by omega), Option.bind_some]
        rfl
      · rw [decide_eq_false hq, cond_false, if_neg (by simp)])
    (((P.length + 1 + Y.length : Nat) : Int) - ((P.length + 1 : Nat) : Int)).toNat.succ (by omega) (by omega)
  have k3' : m_slices_symMergeCmpFunc_impl_Version_l1 rc p (((P.length + 1 + Y.length : Nat) : Int) - ((P.length + 1 : Nat) : Int)).toNat.succ (P.length : Int) ((P.length + 1 : Nat) : Int) ((P.length + 1 + Y.length : Nat) : Int) (P ++ ([x] ++ (Y ++ S))) = m_slices_symMergeCmpFunc_impl_Version_j1 rc p (P.length : Int) (k : Int) (P ++ ([x] ++ (Y ++ S))) := k3
  rw [k3']
  have gdef : ∀ h z, (P ++ ([x] ++ (Y ++ S)))[h]? = some z → good h = decide (q z x < 0) := fun h z hz => by
    show (match (P ++ ([x] ++ (Y ++ S)))[h]? with | some z => decide (q z x < 0) | none => false) = _; rw [hz]
  clear k3 k3'
  obtain ⟨B1, B2, rfl, hB⟩ : ∃ B1 B2, Y = B1 ++ B2 ∧ B1.length = k - (P.length + 1) := ⟨Y.take (k - (P.length + 1)), Y.drop (k - (P.length + 1)), (List.take_append_drop _ _).symm, by simp; omega⟩
  rw [List.length_append] at hl k2 k5
  refine ⟨B1, B2, rfl, ?_, ?_, ?_⟩
  · unfold m_slices_symMergeCmpFunc_impl_Version_j1
    have := L_up_slices_symMergeCmpFunc_impl_Version (rc := rc) (p := p) x B1 P (B2 ++ S) 1000000000 (by omega) (by simp; omega)
    rw [show (k : Int) = ((P.length + B1.length + 1 : Nat) : Int) by omega, show P ++ ([x] ++ (B1 ++ B2 ++ S)) = P ++ x :: (B1 ++ (B2 ++ S)) by simp, this]
    simp
  · intro z hz
    rcases k4 with h | h
    · have : B1 = [] := List.length_eq_zero_iff.1 (by omega)
      subst this; simp at hz
    · have hpos := lt_of_at hz
      have : (P ++ ([x] ++ (B1 ++ B2 ++ S)))[k - 1]? = some z := by
        rw [List.getElem?_append_right (by omega), List.getElem?_append_right (by simp; omega), List.append_assoc, List.getElem?_append_left (by simp; omega)]
        rw [← hz]; congr 1; simp; omega
      rw [gdef _ _ this] at h
      simpa using h
  · intro z hz
    rcases k5 with h | h
    · have : B2 = [] := List.length_eq_zero_iff.1 (by omega)
      subst this; simp at hz
    · have hpos := lt_of_at hz
      have : (P ++ ([x] ++ (B1 ++ B2 ++ S)))[k]? = some z := by
        rw [List.getElem?_append_right (by omega), List.getElem?_append_right (by simp; omega), List.append_assoc, List.getElem?_append_right (by simp; omega), List.getElem?_append_left (by simp; omega)]
        rw [← hz]; congr 1; simp; omega
      rw [gdef _ _ this] at h
      simpa using h
theorem L_b3_slices_symMergeCmpFunc_impl_Version {rc : List S_impl_Version → Int → Int → Int → (S_impl_Version → S_impl_Version → Option Int) → Option (List S_impl_Version)} {p : S_impl_Version → S_impl_Version → Option Int} {q : S_impl_Version → S_impl_Version → Int} {U : List S_impl_Version} (hp : ∀ x ∈ U, ∀ y ∈ U, p x y = some (q x y)) (y : S_impl_Version) (P X S : List S_impl_Version) (hU : ∀ z ∈ y :: X, z ∈ U) (hl : P.length + 1 + X.length + S.length ≤ 1000000) :
    ∃ A1 A2, X = A1 ++ A2 ∧ m_slices_symMergeCmpFunc_impl_Version_l3 rc p (((P.length + X.length : Nat) : Int) - (P.length : Int)).toNat.succ ((P.length + X.length : Nat) : Int) (P.length : Int) ((P.length + X.length : Nat) : Int) (P ++ (X ++ ([y] ++ S))) = some (P ++ ((A1 ++ y :: A2) ++ S)) ∧ (∀ z, A1[A1.length - 1]? = some z → ¬ q y z < 0) ∧ (∀ z, A2[0]? = some z → q y z < 0) := by
  have hx0 : (P ++ (X ++ ([y] ++ S)))[P.length + X.length]? = some y := by
    rw [List.getElem?_append_right (by omega), List.getElem?_append_right (by omega)]; simp
  let good : Nat → Bool := fun h => match (P ++ (X ++ ([y] ++ S)))[h]? with | some z => !decide (q y z < 0) | none => false
  obtain ⟨k, k1, k2, k3, k4, k5⟩ := bsLoop (fun n i j => m_slices_symMergeCmpFunc_impl_Version_l3 rc p n ((P.length + X.length : Nat) : Int) i j (P ++ (X ++ ([y] ++ S)))) (fun i => m_slices_symMergeCmpFunc_impl_Version_j4 rc p ((P.length + X.length : Nat) : Int) (i : Int) (P ++ (X ++ ([y] ++ S)))) good P.length (P.length + X.length)
    (fun n i => by show m_slices_symMergeCmpFunc_impl_Version_l3 rc p (n + 1) _ _ _ _ = _; rw [m_slices_symMergeCmpFunc_impl_Version_l3, dnlt, cond_false])
    (fun n i j h1 h2 h3 => by
      show m_slices_symMergeCmpFunc_impl_Version_l3 rc p (n + 1) _ _ _ _ = _
      obtain ⟨z, g1, g2, g3, g4⟩ := mid_get P X [y] S (i := (i + j) / 2) (by omega) (by simp only [List.length_singleton]; omega)
      have gd : good ((i + j) / 2) = !decide (q y z < 0) := by show (match (P ++ (X ++ ([y] ++ S)))[(i + j) / 2]? with | some z => !decide (q y z < 0) | none => false) = _; rw [g1]
      rw [m_slices_symMergeCmpFunc_impl_Version_l3, dlt h2, cond_true, show ((i : Int) + (j : Int)) = ((i + j : Nat) : Int) by omega, ckI_of (by omega) (by omega), Option.bind_some, uI_of (by omega) (by omega), Option.bind_some, shr_half, Option.bind_some, uI_of (by omega) (by omega), Option.bind_some, at_of hx0, Option.bind_some, Option.bind_some, at_of g1, Option.bind_some, Option.bind_some, hp y (hU y (by simp)) z (hU z (by rcases List.mem_append.1 g2 with h | h <;> simp_all)), Option.bind_some, gd]
      by_cases hq : q y z < 0
      · rw [decide_eq_true hq, Bool.not_true, cond_false, if_neg (by simp)]
      · rw [decide_eq_false hq, Bool.not_false, cond_true, if_pos rfl, ck1 (by omega), Option.bind_some]
        rfl)
    (((P.length + X.length : Nat) : Int) - (P.length : Int)).toNat.succ (by omega) (by omega)
  have k3' : m_slices_symMergeCmpFunc_impl_Version_l3 rc p (((P.length + X.length : Nat) : Int) - (P.length : Int)).toNat.succ ((P.length + X.length : Nat) : Int) (P.length : Int) ((P.length + X.length : Nat) : Int) (P ++ (X ++ ([y] ++ S))) = m_slices_symMergeCmpFunc_impl_Version_j4 rc p ((P.length + X.length : Nat) : Int) (k : Int) (P ++ (X ++ ([y] ++ S))) := k3
  rw [k3']
  have gdef : ∀ h z, (P ++ (X ++ ([y] ++ S)))[h]? = some z → good h = !decide (q y z < 0) := fun h z hz => by
    show (match (P ++ (X ++ ([y] ++ S)))[h]? with | some z => !decide (q y z < 0) | none => false) = _; rw [hz]
  clear k3 k3'
  obtain ⟨A1, A2, rfl, hA⟩ : ∃ A1 A2, X = A1 ++ A2 ∧ A1.length = k - P.length := ⟨X.take (k - P.length), X.drop (k - P.length), (List.take_append_drop _ _).symm, by simp; omega⟩
  rw [List.length_append] at hl k2 k5
  refine ⟨A1, A2, rfl, ?_, ?_, ?_⟩
  · unfold m_slices_symMergeCmpFunc_impl_Version_j4
    have := L_down_slices_symMergeCmpFunc_impl_Version (rc := rc) (p := p) y (P ++ A1) A2.length A2 S ((((P.length + (A1 ++ A2).length : Nat) : Int) - (k : Int)).toNat + 1) rfl (by simp; omega) (by simp; omega)
    rw [show (((P ++ A1).length : Nat) : Int) = (k : Int) by simp; omega, show (((P ++ A1).length + A2.length : Nat) : Int) = ((P.length + (A1 ++ A2).length : Nat) : Int) by simp; omega] at this
    rw [show P ++ (A1 ++ A2 ++ ([y] ++ S)) = (P ++ A1) ++ (A2 ++ y :: S) by simp, this]
    simp
  · intro z hz
    rcases k4 with h | h
    · have : A1 = [] := List.length_eq_zero_iff.1 (by omega)
      subst this; simp at hz
    · have hpos := lt_of_at hz
      have : (P ++ (A1 ++ A2 ++ ([y] ++ S)))[k - 1]? = some z := by
        rw [List.getElem?_append_right (by omega), List.append_assoc, List.getElem?_append_left (by omega)]
        rw [← hz]; congr 1; omega
      rw [gdef _ _ this] at h
      simpa using h
  · intro z hz
    rcases k5 with h | h
    · have : A2 = [] := List.length_eq_zero_iff.1 (by omega)
      subst this; simp at hz
    · have hpos := lt_of_at hz
      have : (P ++ (A1 ++ A2 ++ ([y] ++ S)))[k]? = some z := by
        rw [List.getElem?_append_right (by omega), List.append_assoc, List.getElem?_append_right (by omega), List.getElem?_append_left (by omega)]
        rw [← hz]; congr 1; omega
      rw [gdef _ _ this] at h
      simpa using h
theorem L_m12_slices_symMergeCmpFunc_impl_Version {rc : List S_impl_Version → Int → Int → Int → (S_impl_Version → S_impl_Version → Option Int) → Option (List S_impl_Version)} {p : S_impl_Version → S_impl_Version → Option Int} {q : S_impl_Version → S_impl_Version → Int} {U : List S_impl_Version} {d : Nat} (ih : ∀ (P X Y S : List S_impl_Version), X.length + Y.length ≤ d → 0 < X.length → 0 < Y.length → (∀ z ∈ X ++ Y, z ∈ U) → P.length + X.length + Y.length + S.length ≤ 1000000 → OrdB (fun x r => decide (q r x < 0)) X → OrdB (fun x r => decide (q r x < 0)) Y →
    ∃ Z, Z.Perm (X ++ Y) ∧ OrdB (fun x r => decide (q r x < 0)) Z ∧ rc (P ++ (X ++ (Y ++ S))) (P.length : Int) ((P.length + X.length : Nat) : Int) ((P.length + X.length + Y.length : Nat) : Int) p = some (P ++ (Z ++ S)))
    {P A2 B2 S : List S_impl_Version} {a h e b : Nat} (ha : P.length = a) (hm : a + h + A2.length = e) (hb : e + B2.length = b) (hd : A2.length + B2.length ≤ d) (hU : ∀ z ∈ A2 ++ B2, z ∈ U) (hl : b + S.length ≤ 1000000) (oA2 : OrdB (fun x r => decide (q r x < 0)) A2) (oB2 : OrdB (fun x r => decide (q r x < 0)) B2)
    (Z1 : List S_impl_Version) (hz : Z1.length = h) : ∃ Z2, Z2.Perm (A2 ++ B2) ∧ OrdB (fun x r => decide (q r x < 0)) Z2 ∧ m_slices_symMergeCmpFunc_impl_Version_j12 rc p (b : Int) ((a + h : Nat) : Int) (e : Int) (P ++ (Z1 ++ (A2 ++ (B2 ++ S)))) = some (P ++ ((Z1 ++ Z2) ++ S)) := by
  unfold m_slices_symMergeCmpFunc_impl_Version_j12
  have stay : A2 = [] ∨ B2 = [] → ∃ Z2, Z2.Perm (A2 ++ B2) ∧ OrdB (fun x r => decide (q r x < 0)) Z2 ∧ m_slices_symMergeCmpFunc_impl_Version_j13 rc p (b : Int) ((a + h : Nat) : Int) (e : Int) false (P ++ (Z1 ++ (A2 ++ (B2 ++ S)))) = some (P ++ ((Z1 ++ Z2) ++ S)) := by
    intro hn
    refine ⟨A2 ++ B2, .refl _, ?_, ?_⟩
    · rcases hn with rfl | rfl
      · simpa using oB2
      · simpa using oA2
    · unfold m_slices_symMergeCmpFunc_impl_Version_j13
      rw [cond_false]
      simp
  by_cases b1 : a + h < e
  · rw [dlt b1, cond_true]
    by_cases b2 : e < b
    · rw [dlt b2]
      obtain ⟨Z2, z1, z2, z3⟩ := ih (P ++ Z1) A2 B2 S hd (by omega) (by omega) hU (by rw [List.length_append]; omega) oA2 oB2
      refine ⟨Z2, z1, z2, ?_⟩
      unfold m_slices_symMergeCmpFunc_impl_Version_j13
      rw [cond_true, ← List.append_assoc]
      rw [List.length_append, ha, hz, hm, hb] at z3
      have zl := z1.length_eq
      rw [List.length_append] at zl
      rw [z3, Option.bind_some, lenQ_ok (by simp; omega), Option.bind_some]
      simp
    · rw [decide_eq_false (by omega)]
      exact stay (.inr (List.length_eq_zero_iff.1 (by omega)))
  · rw [decide_eq_false (by omega), cond_false]
    exact stay (.inl (List.length_eq_zero_iff.1 (by omega)))
theorem L_m10_slices_symMergeCmpFunc_impl_Version {rc : List S_impl_Version → Int → Int → Int → (S_impl_Version → S_impl_Version → Option Int) → Option (List S_impl_Version)} {p : S_impl_Version → S_impl_Version → Option Int} {q : S_impl_Version → S_impl_Version → Int} {U : List S_impl_Version} {d : Nat} (ht : ∀ x ∈ U, ∀ y ∈ U, ∀ z ∈ U, decide (q y x < 0) = false → decide (q z y < 0) = false → decide (q z x < 0) = false) (ih : ∀ (P X Y S : List S_impl_Version), X.length + Y.length ≤ d → 0 < X.length → 0 < Y.length → (∀ z ∈ X ++ Y, z ∈ U) → P.length + X.length + Y.length + S.length ≤ 1000000 → OrdB (fun x r => decide (q r x < 0)) X → OrdB (fun x r => decide (q r x < 0)) Y →
    ∃ Z, Z.Perm (X ++ Y) ∧ OrdB (fun x r => decide (q r x < 0)) Z ∧ rc (P ++ (X ++ (Y ++ S))) (P.length : Int) ((P.length + X.length : Nat) : Int) ((P.length + X.length + Y.length : Nat) : Int) p = some (P ++ (Z ++ S)))
    {P A1 A2 B1 B2 S : List S_impl_Version} {a h k e b : Nat} (ha : P.length = a) (hk : a + A1.length = k) (hh : k + B1.length = a + h) (hm : a + h + A2.length = e) (hb : e + B2.length = b) (hd1 : A1.length + B1.length ≤ d) (hd : A2.length + B2.length ≤ d) (hU : ∀ z ∈ A1 ++ A2 ++ (B1 ++ B2), z ∈ U) (hl : b + S.length ≤ 1000000) (oX : OrdB (fun x r => decide (q r x < 0)) (A1 ++ A2)) (oY : OrdB (fun x r => decide (q r x < 0)) (B1 ++ B2))
    (c1 : ∀ x y, A1[A1.length - 1]? = some x → B2[0]? = some y → decide (q y x < 0) = false) (c2 : ∀ x y, B1[B1.length - 1]? = some x → A2[0]? = some y → decide (q y x < 0) = false) :
    ∃ Z, Z.Perm (A1 ++ A2 ++ (B1 ++ B2)) ∧ OrdB (fun x r => decide (q r x < 0)) Z ∧ m_slices_symMergeCmpFunc_impl_Version_j10 rc p (a : Int) (b : Int) ((a + h : Nat) : Int) (k : Int) (e : Int) (P ++ (A1 ++ (B1 ++ (A2 ++ (B2 ++ S))))) = some (P ++ (Z ++ S)) := by
  obtain ⟨oA1, oA2, oA⟩ := ord_split oX
  obtain ⟨oB1, oB2, oB⟩ := ord_split oY
  have last := L_m12_slices_symMergeCmpFunc_impl_Version ih (P := P) (A2 := A2) (B2 := B2) (S := S) ha hm hb hd (fun z hz => hU z (by rcases List.mem_append.1 hz with h | h <;> simp [h])) hl oA2 oB2
  unfold m_slices_symMergeCmpFunc_impl_Version_j10
  have stay : A1 = [] ∨ B1 = [] → ∃ Z, Z.Perm (A1 ++ A2 ++ (B1 ++ B2)) ∧ OrdB (fun x r => decide (q r x < 0)) Z ∧ m_slices_symMergeCmpFunc_impl_Version_j11 rc p (a : Int) (b : Int) ((a + h : Nat) : Int) (k : Int) (e : Int) false (P ++ (A1 ++ (B1 ++ (A2 ++ (B2 ++ S))))) = some (P ++ (Z ++ S)) := by
    intro hn
    have oZ : OrdB (fun x r => decide (q r x < 0)) (A1 ++ B1) := by
      rcases hn with rfl | rfl
      · simpa using oB1
      · simpa using oA1
    obtain ⟨Z2, z1, z2, z3⟩ := last (A1 ++ B1) (by rw [List.length_append]; omega)
    obtain ⟨m1, m2⟩ := merge_mid ht hU oX oY c1 c2 (.refl _) oZ z1 z2
    refine ⟨_, m1, m2, ?_⟩
    unfold m_slices_symMergeCmpFunc_impl_Version_j11
    rw [cond_false, ← z3]
    congr 1; simp
  by_cases b1 : a < k
  · rw [dlt b1, cond_true]
    by_cases b2 : k < a + h
    · rw [dlt b2]
      obtain ⟨Z1, y1, y2, y3⟩ := ih P A1 B1 (A2 ++ (B2 ++ S)) hd1 (by omega) (by omega) (fun z hz => hU z (by rcases List.mem_append.1 hz with h | h <;> simp [h])) (by rw [List.length_append, List.length_append]; omega) oA1 oB1
      have zl := y1.length_eq
      rw [List.length_append] at zl
      obtain ⟨Z2, z1, z2, z3⟩ := last Z1 (by omega)
      obtain ⟨m1, m2⟩ := merge_mid ht hU oX oY c1 c2 y1 y2 z1 z2
      refine ⟨_, m1, m2, ?_⟩
      unfold m_slices_symMergeCmpFunc_impl_Version_j11
      rw [ha, hk, hh] at y3
      rw [cond_true, y3, Option.bind_some, lenQ_ok (by simp; omega), Option.bind_some]
      exact z3
    · rw [decide_eq_false (by omega)]
      exact stay (.inr (List.length_eq_zero_iff.1 (by omega)))
  · rw [decide_eq_false (by omega), cond_false]
    exact stay (.inl (List.length_eq_zero_iff.1 (by omega)))
theorem L_m8_slices_symMergeCmpFunc_impl_Version {rc : List S_impl_Version → Int → Int → Int → (S_impl_Version → S_impl_Version → Option Int) → Option (List S_impl_Version)} {p : S_impl_Version → S_impl_Version → Option Int} {q : S_impl_Version → S_impl_Version → Int} {U : List S_impl_Version} {d : Nat} (ht : ∀ x ∈ U, ∀ y ∈ U, ∀ z ∈ U, decide (q y x < 0) = false → decide (q z y < 0) = false → decide (q z x < 0) = false) (ih : ∀ (P X Y S : List S_impl_Version), X.length + Y.length ≤ d → 0 < X.length → 0 < Y.length → (∀ z ∈ X ++ Y, z ∈ U) → P.length + X.length + Y.length + S.length ≤ 1000000 → OrdB (fun x r => decide (q r x < 0)) X → OrdB (fun x r => decide (q r x < 0)) Y →
    ∃ Z, Z.Perm (X ++ Y) ∧ OrdB (fun x r => decide (q r x < 0)) Z ∧ rc (P ++ (X ++ (Y ++ S))) (P.length : Int) ((P.length + X.length : Nat) : Int) ((P.length + X.length + Y.length : Nat) : Int) p = some (P ++ (Z ++ S)))
    {P A1 A2 B1 B2 S : List S_impl_Version} {a h k e m b : Nat} (ha : P.length = a) (hk : a + A1.length = k) (hkm : k + A2.length = m) (hme : m + B1.length = e) (hh : k + B1.length = a + h) (hb : e + B2.length = b) (hd1 : A1.length + B1.length ≤ d) (hd : A2.length + B2.length ≤ d) (hU : ∀ z ∈ A1 ++ A2 ++ (B1 ++ B2), z ∈ U) (hl : b + S.length ≤ 1000000) (oX : OrdB (fun x r => decide (q r x < 0)) (A1 ++ A2)) (oY : OrdB (fun x r => decide (q r x < 0)) (B1 ++ B2))
    (c1 : ∀ x y, A1[A1.length - 1]? = some x → B2[0]? = some y → decide (q y x < 0) = false) (c2 : ∀ x y, B1[B1.length - 1]? = some x → A2[0]? = some y → decide (q y x < 0) = false) :
    ∃ Z, Z.Perm (A1 ++ A2 ++ (B1 ++ B2)) ∧ OrdB (fun x r => decide (q r x < 0)) Z ∧ m_slices_symMergeCmpFunc_impl_Version_j8 rc p (a : Int) (m : Int) (b : Int) ((a + h : Nat) : Int) (((a + h : Nat) : Int) + (m : Int)) (k : Int) (P ++ (A1 ++ A2 ++ (B1 ++ B2 ++ S))) = some (P ++ (Z ++ S)) := by
  obtain ⟨Z, f1, f2, f3⟩ := L_m10_slices_symMergeCmpFunc_impl_Version ht ih (S := S) ha hk hh (show a + h + A2.length = e by omega) hb hd1 hd hU hl oX oY c1 c2
  refine ⟨Z, f1, f2, ?_⟩
  unfold m_slices_symMergeCmpFunc_impl_Version_j8
  rw [show ((((a + h : Nat) : Int) + (m : Int)) - (k : Int)) = (e : Int) by omega, ckI_of (by omega) (by omega), Option.bind_some]
  have stay : A2 = [] ∨ B1 = [] → m_slices_symMergeCmpFunc_impl_Version_j9 rc p (a : Int) (m : Int) (b : Int) ((a + h : Nat) : Int) (k : Int) (e : Int) false (P ++ (A1 ++ A2 ++ (B1 ++ B2 ++ S))) = some (P ++ (Z ++ S)) := by
    intro hn
    unfold m_slices_symMergeCmpFunc_impl_Version_j9
    rw [cond_false, ← f3]
    congr 1
    rcases hn with rfl | rfl <;> simp
  by_cases b1 : k < m
  · rw [dlt b1, cond_true]
    by_cases b2 : m < e
    · rw [dlt b2]
      unfold m_slices_symMergeCmpFunc_impl_Version_j9
      have := L_slices_rotateCmpFunc_impl_Version (p := p) (P ++ A1) A2 B1 (B2 ++ S) (by omega) (by omega) (by rw [List.length_append, List.length_append]; omega)
      rw [List.length_append, ha, hk, hkm, hme] at this
      rw [cond_true, show P ++ (A1 ++ A2 ++ (B1 ++ B2 ++ S)) = P ++ A1 ++ (A2 ++ (B1 ++ (B2 ++ S))) by simp, this, Option.bind_some, lenQ_ok (by simp; omega), Option.bind_some, ← f3]
      congr 1; simp
    · rw [decide_eq_false (by omega)]
      exact stay (.inr (List.length_eq_zero_iff.1 (by omega)))
  · rw [decide_eq_false (by omega), cond_false]
    exact stay (.inl (List.length_eq_zero_iff.1 (by omega)))
theorem L_s7_slices_symMergeCmpFunc_impl_Version {rc : List S_impl_Version → Int → Int → Int → (S_impl_Version → S_impl_Version → Option Int) → Option (List S_impl_Version)} {p : S_impl_Version → S_impl_Version → Option Int} {q : S_impl_Version → S_impl_Version → Int} {U : List S_impl_Version} (hp : ∀ x ∈ U, ∀ y ∈ U, p x y = some (q x y))
    {P X Y S : List S_impl_Version} {a h m b : Nat} (ha : P.length = a) (hm : a + X.length = m) (hb : m + Y.length = b) (hU : ∀ z ∈ X ++ Y, z ∈ U) (hl : b + S.length ≤ 1000000)
    (lo hi : Nat) (l1 : a ≤ lo) (l2 : lo ≤ hi) (l3 : hi ≤ a + h) (l4 : hi ≤ m) (l5 : (a + h) + m ≤ lo + b) (l6 : a + h ≤ b) :
    ∃ k, lo ≤ k ∧ k ≤ hi ∧ m_slices_symMergeCmpFunc_impl_Version_j7 rc p (a : Int) (m : Int) (b : Int) ((a + h : Nat) : Int) (((a + h : Nat) : Int) + (m : Int)) (lo : Int) (hi : Int) (P ++ (X ++ (Y ++ S))) = m_slices_symMergeCmpFunc_impl_Version_j8 rc p (a : Int) (m : Int) (b : Int) ((a + h : Nat) : Int) (((a + h : Nat) : Int) + (m : Int)) (k : Int) (P ++ (X ++ (Y ++ S))) ∧
      (k = lo ∨ ∀ z w, (P ++ (X ++ (Y ++ S)))[(a + h) + m - 1 - (k - 1)]? = some z → (P ++ (X ++ (Y ++ S)))[k - 1]? = some w → decide (q z w < 0) = false) ∧ (k = hi ∨ ∀ z w, (P ++ (X ++ (Y ++ S)))[(a + h) + m - 1 - k]? = some z → (P ++ (X ++ (Y ++ S)))[k]? = some w → q z w < 0) := by
  unfold m_slices_symMergeCmpFunc_impl_Version_j7
  rw [ckI_of (by omega) (by omega), Option.bind_some]
  let good : Nat → Bool := fun c => match (P ++ (X ++ (Y ++ S)))[(a + h) + m - 1 - c]?, (P ++ (X ++ (Y ++ S)))[c]? with | some z, some w => !decide (q z w < 0) | _, _ => false
  have gdef : ∀ c z w, (P ++ (X ++ (Y ++ S)))[(a + h) + m - 1 - c]? = some z → (P ++ (X ++ (Y ++ S)))[c]? = some w → good c = !decide (q z w < 0) := fun c z w hz hw => by
    show (match (P ++ (X ++ (Y ++ S)))[(a + h) + m - 1 - c]?, (P ++ (X ++ (Y ++ S)))[c]? with | some z, some w => !decide (q z w < 0) | _, _ => false) = _; rw [hz, hw]
  obtain ⟨k, k1, k2, k3, k4, k5⟩ := bsLoop (fun n i j => m_slices_symMergeCmpFunc_impl_Version_l5 rc p n (a : Int) (m : Int) (b : Int) ((a + h : Nat) : Int) (((a + h : Nat) : Int) + (m : Int)) i j ((((a + h : Nat) : Int) + (m : Int)) - 1) (P ++ (X ++ (Y ++ S))))
    (fun i => m_slices_symMergeCmpFunc_impl_Version_j8 rc p (a : Int) (m : Int) (b : Int) ((a + h : Nat) : Int) (((a + h : Nat) : Int) + (m : Int)) (i : Int) (P ++ (X ++ (Y ++ S)))) good lo hi
    (fun n i => by show m_slices_symMergeCmpFunc_impl_Version_l5 _ p (n + 1) _ _ _ _ _ _ _ _ _ = _; rw [m_slices_symMergeCmpFunc_impl_Version_l5, dnlt, cond_false])
    (fun n i j h1 h2 h3 => by
      show m_slices_symMergeCmpFunc_impl_Version_l5 _ p (n + 1) _ _ _ _ _ _ _ _ _ = _
      generalize hc : (i + j) / 2 = c at *
      obtain ⟨w, w1, w2, w3, w4⟩ := mid_get P X Y S (i := c) (by omega) (by omega)
      obtain ⟨z, z1, z2, z3, z4⟩ := mid_get P X Y S (i := (a + h) + m - 1 - c) (by omega) (by omega)
      rw [m_slices_symMergeCmpFunc_impl_Version_l5, dlt h2, cond_true, show ((i : Int) + (j : Int)) = ((i + j : Nat) : Int) by omega, ckI_of (by omega) (by omega), Option.bind_some, uI_of (by omega) (by omega), Option.bind_some, shr_half, Option.bind_some, uI_of (by omega) (by omega), Option.bind_some, hc, ckI_of (by omega) (by omega), Option.bind_some,
        show ((((a + h : Nat) : Int) + (m : Int)) - 1 - (c : Int)) = (((a + h) + m - 1 - c : Nat) : Int) by omega, at_of z1, Option.bind_some, Option.bind_some, at_of w1, Option.bind_some, Option.bind_some, hp z (hU z z2) w (hU w w2), Option.bind_some, gdef c z w z1 w1]
      by_cases hq : q z w < 0
      · rw [decide_eq_true hq, Bool.not_true, cond_false, if_neg (by simp)]
      · rw [decide_eq_false hq, Bool.not_false, cond_true, if_pos rfl, ck1 (by omega), Option.bind_some]
        rfl)
    (((hi : Int) - (lo : Int)).toNat + 1) (by omega) l2
  refine ⟨k, k1, k2, k3, ?_, ?_⟩
  · rcases k4 with hk | hk
    · exact .inl hk
    · refine .inr fun z w hz hw => ?_
      rw [gdef _ _ _ hz hw] at hk
      simpa using hk
  · rcases k5 with hk | hk
    · exact .inl hk
    · refine .inr fun z w hz hw => ?_
      rw [gdef _ _ _ hz hw] at hk
      simpa using hk
theorem L_m7_slices_symMergeCmpFunc_impl_Version {rc : List S_impl_Version → Int → Int → Int → (S_impl_Version → S_impl_Version → Option Int) → Option (List S_impl_Version)} {p : S_impl_Version → S_impl_Version → Option Int} {q : S_impl_Version → S_impl_Version → Int} {U : List S_impl_Version} {d : Nat} (hp : ∀ x ∈ U, ∀ y ∈ U, p x y = some (q x y)) (ht : ∀ x ∈ U, ∀ y ∈ U, ∀ z ∈ U, decide (q y x < 0) = false → decide (q z y < 0) = false → decide (q z x < 0) = false) (has : ∀ x ∈ U, ∀ y ∈ U, q y x < 0 → ¬ q x y < 0) (ih : ∀ (P X Y S : List S_impl_Version), X.length + Y.length ≤ d → 0 < X.length → 0 < Y.length → (∀ z ∈ X ++ Y, z ∈ U) → P.length + X.length + Y.length + S.length ≤ 1000000 → OrdB (fun x r => decide (q r x < 0)) X → OrdB (fun x r => decide (q r x < 0)) Y →
    ∃ Z, Z.Perm (X ++ Y) ∧ OrdB (fun x r => decide (q r x < 0)) Z ∧ rc (P ++ (X ++ (Y ++ S))) (P.length : Int) ((P.length + X.length : Nat) : Int) ((P.length + X.length + Y.length : Nat) : Int) p = some (P ++ (Z ++ S)))
    {P X Y S : List S_impl_Version} {a h : Nat} (ha : P.length = a) (hh : (X.length + Y.length) / 2 = h) (hmid : (a + (a + X.length + Y.length)) / 2 = a + h) (hX : 2 ≤ X.length) (hY : 2 ≤ Y.length) (hd : X.length + Y.length ≤ d + 1) (hU : ∀ z ∈ X ++ Y, z ∈ U) (hl : a + X.length + Y.length + S.length ≤ 1000000) (oX : OrdB (fun x r => decide (q r x < 0)) X) (oY : OrdB (fun x r => decide (q r x < 0)) Y)
    (lo hi : Nat) (l1 : a ≤ lo) (l2 : lo ≤ hi) (l3 : hi ≤ a + h) (l4 : hi ≤ a + X.length) (l5 : (a + h) + (a + X.length) ≤ lo + (a + X.length + Y.length)) (l6 : (lo = a ∨ (a + h) + (a + X.length) = lo + (a + X.length + Y.length))) (l7 : (hi = a + h ∨ hi = a + X.length)) :
    ∃ Z, Z.Perm (X ++ Y) ∧ OrdB (fun x r => decide (q r x < 0)) Z ∧ m_slices_symMergeCmpFunc_impl_Version_j7 rc p (a : Int) ((a + X.length : Nat) : Int) ((a + X.length + Y.length : Nat) : Int) ((a + h : Nat) : Int) (((a + h : Nat) : Int) + ((a + X.length : Nat) : Int)) (lo : Int) (hi : Int) (P ++ (X ++ (Y ++ S))) = some (P ++ (Z ++ S)) := by
  have hUX : ∀ z ∈ X, z ∈ U := fun z hz => hU z (by simp [hz])
  have hUY : ∀ z ∈ Y, z ∈ U := fun z hz => hU z (by simp [hz])
  have asy : ∀ x ∈ U, ∀ y ∈ U, q y x < 0 → decide (q x y < 0) = false := fun x hx y hy h => decide_eq_false (has x hx y hy h)
  obtain ⟨k, k1, k2, k3, k4, k5⟩ := L_s7_slices_symMergeCmpFunc_impl_Version (rc := rc) (S := S) (h := h) hp ha (m := a + X.length) (b := a + X.length + Y.length) rfl rfl hU (by omega) lo hi l1 l2 l3 l4 l5 (by omega)
  rw [k3]
  clear k3
  obtain ⟨e, he⟩ : ∃ e, (a + h) + (a + X.length) = k + e := ⟨(a + h) + (a + X.length) - k, by omega⟩
  obtain ⟨A1, A2, B1, B2, rfl, rfl, hA, hB, c1, c2⟩ := cut_mid P X Y S (k := k) (e := e) (by omega) (by omega) (by omega) (by omega)
  have lA : (A1 ++ A2).length = A1.length + A2.length := List.length_append
  have lB : (B1 ++ B2).length = B1.length + B2.length := List.length_append
  have d1 : ∀ x y, A1[A1.length - 1]? = some x → B2[0]? = some y → decide (q y x < 0) = false := by
    intro x y hx hy
    obtain ⟨g1, g2⟩ := c1 x y hx hy
    have p1 := lt_of_at hx
    have p2 := lt_of_at hy
    rcases k4 with hk | hk
    · omega
    · exact hk y x (by rw [show a + h + (a + (A1 ++ A2).length) - 1 - (k - 1) = e by omega]; exact g2) g1
  have d2 : ∀ x y, B1[B1.length - 1]? = some x → A2[0]? = some y → decide (q y x < 0) = false := by
    intro x y hx hy
    obtain ⟨g1, g2⟩ := c2 x y hx hy
    have p1 := lt_of_at hx
    have p2 := lt_of_at hy
    rcases k5 with hk | hk
    · omega
    · exact asy _ (hUX _ (List.mem_append_right _ (List.mem_of_getElem? hy))) _ (hUY _ (List.mem_append_left _ (List.mem_of_getElem? hx))) (hk x y (by rw [show a + h + (a + (A1 ++ A2).length) - 1 - k = e - 1 by omega]; exact g1) g2)
  exact L_m8_slices_symMergeCmpFunc_impl_Version ht ih ha (by omega) (by omega) (show a + (A1 ++ A2).length + B1.length = e by omega) (by omega) (by omega) (by omega) (by omega) hU (by omega) oX oY d1 d2
theorem L_slices_symMergeCmpFunc_impl_Version {p : S_impl_Version → S_impl_Version → Option Int} {q : S_impl_Version → S_impl_Version → Int} {U : List S_impl_Version} (hp : ∀ x ∈ U, ∀ y ∈ U, p x y = some (q x y)) (ht : ∀ x ∈ U, ∀ y ∈ U, ∀ z ∈ U, decide (q y x < 0) = false → decide (q z y < 0) = false → decide (q z x < 0) = false) (has : ∀ x ∈ U, ∀ y ∈ U, q y x < 0 → ¬ q x y < 0) :
    ∀ (d fu : Nat) (P X Y S : List S_impl_Version), X.length + Y.length ≤ d → d < fu → 0 < X.length → 0 < Y.length → (∀ z ∈ X ++ Y, z ∈ U) → P.length + X.length + Y.length + S.length ≤ 1000000 → OrdB (fun x r => decide (q r x < 0)) X → OrdB (fun x r => decide (q r x < 0)) Y →
    ∃ Z, Z.Perm (X ++ Y) ∧ OrdB (fun x r => decide (q r x < 0)) Z ∧ m_slices_symMergeCmpFunc_impl_Version fu (P ++ (X ++ (Y ++ S))) (P.length : Int) ((P.length + X.length : Nat) : Int) ((P.length + X.length + Y.length : Nat) : Int) p = some (P ++ (Z ++ S)) := by
  intro d
  induction d with
  | zero => intro fu P X Y S h1 h2 h3; omega
  | succ d ih =>
    intro fu P X Y S hd hfu hX hY hU hl oX oY
    obtain ⟨fu, rfl⟩ : ∃ g, fu = g + 1 := ⟨fu - 1, by omega⟩
    have hUX : ∀ z ∈ X, z ∈ U := fun z hz => hU z (by simp [hz])
    have hUY : ∀ z ∈ Y, z ∈ U := fun z hz => hU z (by simp [hz])
    have asy : ∀ x ∈ U, ∀ y ∈ U, q y x < 0 → decide (q x y < 0) = false := fun x hx y hy h => decide_eq_false (has x hx y hy h)
    rw [m_slices_symMergeCmpFunc_impl_Version]
    unfold m_slices_symMergeCmpFunc_impl_Version_b
    rw [ckI_of (by omega) (by omega), Option.bind_some]
    by_cases hx1 : X.length = 1
    · rw [show ((((P.length + X.length : Nat) : Int) - (P.length : Int)) == 1) = true by rw [beq_iff_eq]; omega, cond_true]
      obtain ⟨x, rfl⟩ := List.length_eq_one_iff.1 hx1
      obtain ⟨B1, B2, rfl, g1, g2, g3⟩ := L_b1_slices_symMergeCmpFunc_impl_Version (rc := m_slices_symMergeCmpFunc_impl_Version fu) hp x P Y S (by simpa using hU) (by simpa using hl)
      refine ⟨B1 ++ x :: B2, ?_, ?_, ?_⟩
      · rw [List.singleton_append]; exact List.perm_middle
      · obtain ⟨o1, o2, o3⟩ := ord_split oY
        have := (merge_mid (A1 := []) (A2 := [x]) (Z1 := B1) (Z2 := x :: B2) ht (by simpa using hU) (by simpa using oX) oY (fun a b ha => by simp at ha) (fun a b ha hb => by
          simp at hb; subst hb
          exact asy _ (hUX _ (by simp)) _ (hUY _ (List.mem_append_left _ (List.mem_of_getElem? ha))) (g2 a ha)) (.refl _) o1 (.refl _) (ord_app (X := [x]) (List.pairwise_singleton _ _) o2 (ord_cross ht hUX (fun z hz => hUY z (by simp [hz])) (List.pairwise_singleton _ _) o2 (fun a b ha hb => by
          simp at ha; subst ha
          exact decide_eq_false (g3 b hb))))).2
        exact this
      · refine Eq.trans ?_ g1; rfl
    · rw [show ((((P.length + X.length : Nat) : Int) - (P.length : Int)) == 1) = false by rw [beq_eq_false_iff_ne]; omega, cond_false]
      unfold m_slices_symMergeCmpFunc_impl_Version_j3
      rw [ckI_of (by omega) (by omega), Option.bind_some]
      by_cases hy1 : Y.length = 1
      · rw [show ((((P.length + X.length + Y.length : Nat) : Int) - ((P.length + X.length : Nat) : Int)) == 1) = true by rw [beq_iff_eq]; omega, cond_true]
        obtain ⟨y, rfl⟩ := List.length_eq_one_iff.1 hy1
        obtain ⟨A1, A2, rfl, g1, g2, g3⟩ := L_b3_slices_symMergeCmpFunc_impl_Version (rc := m_slices_symMergeCmpFunc_impl_Version fu) hp y P X S (fun z hz => by rcases List.mem_cons.1 hz with rfl | hz; exact hUY _ (by simp); exact hUX z hz) (by simp at hl ⊢; omega)
        refine ⟨A1 ++ y :: A2, ?_, ?_, ?_⟩
        · rw [List.append_assoc]
          refine List.Perm.append_left A1 ?_
          exact (List.perm_append_comm (l₁ := [y]) (l₂ := A2))
        · obtain ⟨o1, o2, o3⟩ := ord_split oX
          have := (merge_mid (A1 := A1) (A2 := A2) (B1 := [y]) (B2 := []) (Z1 := A1 ++ [y]) (Z2 := A2) ht (by simpa using hU) oX (by simpa using oY) (fun a b ha hb => by simp at hb) (fun a b ha hb => by
            simp at ha; subst ha
            exact asy _ (hUX _ (List.mem_append_right _ (List.mem_of_getElem? hb))) _ (hUY _ (by simp)) (g3 b hb)) (.refl _) (ord_app (Y := [y]) o1 (List.pairwise_singleton _ _) (ord_cross ht (fun z hz => hUX z (by simp [hz])) hUY o1 (List.pairwise_singleton _ _) (fun a b ha hb => by
            simp at hb; subst hb
            exact decide_eq_false (g2 a ha)))) (by simp) o2).2
          simpa using this
        · refine Eq.trans ?_ g1; rfl
      · rw [show ((((P.length + X.length + Y.length : Nat) : Int) - ((P.length + X.length : Nat) : Int)) == 1) = false by rw [beq_eq_false_iff_ne]; omega, cond_false]
        unfold m_slices_symMergeCmpFunc_impl_Version_j6
        generalize ha : P.length = a at *
        have hmid : (a + (a + X.length + Y.length)) / 2 = a + (X.length + Y.length) / 2 := by omega
        rw [show ((a : Int) + ((a + X.length + Y.length : Nat) : Int)) = ((a + (a + X.length + Y.length) : Nat) : Int) by omega, ckI_of (by omega) (by omega), Option.bind_some, uI_of (by omega) (by omega), Option.bind_some, shr_half, Option.bind_some, uI_of (by omega) (by omega), Option.bind_some, hmid]
        generalize hh : (X.length + Y.length) / 2 = h at *
        rw [ckI_of (by omega) (by omega), Option.bind_some]
        have go := fun lo hi => L_m7_slices_symMergeCmpFunc_impl_Version (rc := m_slices_symMergeCmpFunc_impl_Version fu) (d := d) hp ht has (fun P X Y S h1 h2 h3 h4 h5 h6 h7 => ih fu P X Y S h1 (by omega) h2 h3 h4 h5 h6 h7) (P := P) (X := X) (Y := Y) (S := S) ha hh hmid (by omega) (by omega) hd hU hl oX oY lo hi
        by_cases hm : a + X.length > a + h
        · rw [decide_eq_true (show (((a + X.length : Nat) : Int) > ((a + h : Nat) : Int)) by omega), cond_true, ckI_of (by omega) (by omega), Option.bind_some, show (((a + h : Nat) : Int) + ((a + X.length : Nat) : Int) - ((a + X.length + Y.length : Nat) : Int)) = (((a + h) + (a + X.length) - (a + X.length + Y.length) : Nat) : Int) by omega]
          exact go _ _ (by omega) (by omega) (by omega) (by omega) (by omega) (by omega) (by omega)
        · rw [decide_eq_false (show ¬ (((a + X.length : Nat) : Int) > ((a + h : Nat) : Int)) by omega), cond_false]
          exact go a (a + X.length) (by omega) (by omega) (by omega) (by omega) (by omega) (by omega) (by omega)
theorem L_seg_slices_insertionSortCmpFunc_impl_Version {p : S_impl_Version → S_impl_Version → Option Int} {q : S_impl_Version → S_impl_Version → Int} (P X S : List S_impl_Version) (hl : P.length + X.length + S.length ≤ 1000000) (hp : ∀ x ∈ X, ∀ y ∈ X, p x y = some (q x y)) : m_slices_insertionSortCmpFunc_impl_Version (P ++ (X ++ S)) (P.length : Int) ((P.length + X.length : Nat) : Int) p = some (P ++ (isort (fun x r => decide (q r x < 0)) X ++ S)) := by
  unfold m_slices_insertionSortCmpFunc_impl_Version
  rw [ck1 (by omega), Option.bind_some]
  have get : ∀ (o : List S_impl_Version) (j : Nat) (x : S_impl_Version), o.length = X.length → o[j]? = some x → (P ++ (o ++ S))[P.length + j]? = some x := by
    intro o j x ho hx
    have := lt_of_at hx
    rw [List.getElem?_append_right (by omega), List.getElem?_append_left (by omega), ← hx]; congr 1; omega
  have hset : ∀ (o : List S_impl_Version) (j : Nat) (x : S_impl_Version), j < o.length → (P ++ (o ++ S)).set (P.length + j) x = P ++ (o.set j x ++ S) := by
    intro o j x hj
    rw [List.set_append_right _ _ (by omega), List.set_append_left _ _ (by omega)]; congr 3; omega
  have := insSort (lt := fun r x => decide (q r x < 0)) (J := fun s => some (P ++ (s ++ S))) (N := X.length) (fun n i o => m_slices_insertionSortCmpFunc_impl_Version_l1 p n (P.length : Int) ((P.length + X.length : Nat) : Int) ((P.length : Int) + i) (P ++ (o ++ S))) (fun n m i j o => m_slices_insertionSortCmpFunc_impl_Version_l2 p (m_slices_insertionSortCmpFunc_impl_Version_l1 p n) m (P.length : Int) ((P.length + X.length : Nat) : Int) ((P.length : Int) + i) ((P.length : Int) + j) (P ++ (o ++ S))) (by omega)
    (fun o => ∀ x ∈ o, ∀ y ∈ o, p x y = some (q x y)) (fun a b h ha x hx y hy => ha x (h.mem_iff.2 hx) y (h.mem_iff.2 hy)) ?_ ?_ ?_ ?_ X rfl hp ((((P.length + X.length : Nat) : Int) - ((P.length : Int) + 1)).toNat + 1) (by omega) (by omega)
  · exact this
  · intro n i o hi
    show m_slices_insertionSortCmpFunc_impl_Version_l1 p (n + 1) _ _ _ _ = _
    rw [m_slices_insertionSortCmpFunc_impl_Version_l1, decide_eq_true (by omega), cond_true]
  · intro n i o hi
    show m_slices_insertionSortCmpFunc_impl_Version_l1 p (n + 1) _ _ _ _ = _
    rw [m_slices_insertionSortCmpFunc_impl_Version_l1, decide_eq_false (by omega), cond_false]
  · intro n m i o hi
    show m_slices_insertionSortCmpFunc_impl_Version_l2 p _ (m + 1) _ _ _ _ _ = _
    rw [m_slices_insertionSortCmpFunc_impl_Version_l2, decide_eq_false (by omega), cond_false]
    unfold m_slices_insertionSortCmpFunc_impl_Version_j1 m_slices_insertionSortCmpFunc_impl_Version_j2
    rw [cond_false, ckI_of (by omega) (by omega), Option.bind_some, show (P.length : Int) + (i : Int) + 1 = (P.length : Int) + ((i + 1 : Nat) : Int) by omega]
  · intro n m i j o x y hi hj ho hc hx hy
    have hxy := hc x (List.mem_of_getElem? hx) y (List.mem_of_getElem? hy)
    have gx := get o _ x ho hx
    have gy := get o _ y ho hy
    have b1 := lt_of_at hx
    show m_slices_insertionSortCmpFunc_impl_Version_l2 p _ (m + 1) _ _ _ _ _ = _
    rw [m_slices_insertionSortCmpFunc_impl_Version_l2, decide_eq_true (by omega), cond_true, show (P.length : Int) + ((j + 1 : Nat) : Int) = ((P.length + j + 1 : Nat) : Int) by omega]
    rw [show P.length + (j + 1) = P.length + j + 1 by omega] at gx
    have st1 := hset o (j + 1) y b1
    have st2 := hset (o.set (j + 1) y) j x (by simp; omega)
    rw [show P.length + (j + 1) = P.length + j + 1 by omega] at st1
    rw [at_of gx, Option.bind_some, Option.bind_some, ckdd (show P.length + j < 1000000000000 by omega), Option.bind_some, at_of gy, Option.bind_some, Option.bind_some, hxy, Option.bind_some]
    unfold m_slices_insertionSortCmpFunc_impl_Version_j1 m_slices_insertionSortCmpFunc_impl_Version_j2
    by_cases h : q x y < 0
    · rw [decide_eq_true h, cond_true, if_pos rfl, ckdd (show P.length + j < 1000000000000 by omega), Option.bind_some, Option.bind_some, at_of gy, Option.bind_some, Option.bind_some, at_of gx, Option.bind_some, Option.bind_some, Option.bind_some, Option.bind_some, ltE, Int.toNat_natCast, Int.toNat_natCast, at_set_ne gy (show P.length + j + 1 ≠ P.length + j by omega), Option.bind_some, Option.bind_some, ltE, Option.bind_some, st1, st2]
      rw [show ((P.length + j : Nat) : Int) = (P.length : Int) + (j : Int) by omega]
    · rw [decide_eq_false h, cond_false, ckI_of (by omega) (by omega), Option.bind_some, if_neg (by simp), show (P.length : Int) + (i : Int) + 1 = (P.length : Int) + ((i + 1 : Nat) : Int) by omega]
theorem L_any_slices_SortStableFunc_Limpl_Version_impl_Version {l : List S_impl_Version} {p : S_impl_Version → S_impl_Version → Option Int} {q : S_impl_Version → S_impl_Version → Int} (hl : l.length ≤ 100000) (hp : ∀ x ∈ l, ∀ y ∈ l, p x y = some (q x y)) (ht : ∀ x ∈ l, ∀ y ∈ l, ∀ z ∈ l, decide (q y x < 0) = false → decide (q z y < 0) = false → decide (q z x < 0) = false) (has : ∀ x ∈ l, ∀ y ∈ l, q y x < 0 → ¬ q x y < 0) :
    ∃ o, o.Perm l ∧ OrdB (fun x r => decide (q r x < 0)) o ∧ m_slices_SortStableFunc_Limpl_Version_impl_Version l p = some o := by
  have isO : ∀ X : List S_impl_Version, (∀ x ∈ X, x ∈ l) → OrdB (fun x r => decide (q r x < 0)) (isort (fun x r => decide (q r x < 0)) X) := fun X hX => isort_ord (fun x hx y hy z hz => ht x (hX x hx) y (hX y hy) z (hX z hz)) (fun x hx y hy h => decide_eq_false (has x (hX x hx) y (hX y hy) (of_decide_eq_true h)))
  have mrg : ∀ (P X Y S : List S_impl_Version), 0 < X.length → 0 < Y.length → P.length + X.length + Y.length + S.length = l.length → (∀ x ∈ X, x ∈ l) → (∀ x ∈ Y, x ∈ l) → OrdB (fun x r => decide (q r x < 0)) X → OrdB (fun x r => decide (q r x < 0)) Y → ∃ Z, Z.Perm (X ++ Y) ∧ OrdB (fun x r => decide (q r x < 0)) Z ∧ m_slices_symMergeCmpFunc_impl_Version 1000000000 (P ++ (X ++ (Y ++ S))) (P.length : Int) ((P.length + X.length : Nat) : Int) ((P.length + X.length + Y.length : Nat) : Int) p = some (P ++ (Z ++ S)) := by
    intro P X Y S hX hY hN hUX hUY oX oY
    exact L_slices_symMergeCmpFunc_impl_Version hp ht has (X.length + Y.length) 1000000000 P X Y S (Nat.le_refl _) (by omega) hX hY (fun z hz => by rcases List.mem_append.1 hz with h | h; exact hUX z h; exact hUY z h) (by omega) oX oY
  have r2 : ∀ n (bs : Nat) (o : List S_impl_Version), 0 < bs → bs < l.length → o.length = l.length → (∀ x ∈ o, x ∈ l) → Chk (fun x r => decide (q r x < 0)) bs o → ∃ o', o'.Perm o ∧ Chk (fun x r => decide (q r x < 0)) (2 * bs) o' ∧ m_slices_stableCmpFunc_impl_Version_l2 p (n + 1) (l.length : Int) (bs : Int) o = m_slices_stableCmpFunc_impl_Version_l2 p n (l.length : Int) ((2 * bs : Nat) : Int) o' := by
    intro n bs o hb hbl ho hU hC
    have c2 : ckI ((2 : Int) * (bs : Int)) = some ((2 * bs : Nat) : Int) := by rw [ckI_of (by omega) (by omega)]; congr 1
    have := stable2 (U := fun x => x ∈ l) (gt := fun x r => decide (q r x < 0)) (N := l.length) (bs := bs) (J := fun o' => m_slices_stableCmpFunc_impl_Version_l2 p n (l.length : Int) ((2 * bs : Nat) : Int) o') hb
      (fun n3 a b o => m_slices_stableCmpFunc_impl_Version_l3 p (m_slices_stableCmpFunc_impl_Version_l2 p n) n3 (l.length : Int) (bs : Int) (a : Int) (b : Int) o)
      (fun n3 P X Y S hX hY hN oX oY hUX hUY => by
        obtain ⟨Z, z1, z2, z3⟩ := mrg P X Y S (by omega) (by omega) hN hUX hUY oX oY
        have zl := z1.length_eq
        rw [List.length_append] at zl
        refine ⟨Z, z1, z2, ?_⟩
        show m_slices_stableCmpFunc_impl_Version_l3 p _ (n3 + 1) _ _ _ _ _ = _
        rw [show P.length + X.length + Y.length = P.length + 2 * bs by omega] at z3
        rw [m_slices_stableCmpFunc_impl_Version_l3, decide_eq_true (by omega), cond_true, ckI_of (by omega) (by omega), Option.bind_some, show ((P.length : Int) + (bs : Int)) = ((P.length + X.length : Nat) : Int) by omega, z3, Option.bind_some, lenQ_ok (by simp; omega), Option.bind_some, c2, Option.bind_some, ckI_of (by omega) (by omega), Option.bind_some]
        rfl)
      (fun n3 P X Y hX hY0 hY hN oX oY hUX hUY => by
        obtain ⟨Z, z1, z2, z3⟩ := mrg P X Y [] (by omega) (by omega) (by simpa using hN) hUX hUY oX oY
        have zl := z1.length_eq
        rw [List.length_append] at zl
        refine ⟨Z, z1, z2, ?_⟩
        show m_slices_stableCmpFunc_impl_Version_l3 p _ (n3 + 1) _ _ _ _ _ = _
        rw [List.append_nil, List.append_nil] at z3
        rw [m_slices_stableCmpFunc_impl_Version_l3, decide_eq_false (by omega), cond_false]
        unfold m_slices_stableCmpFunc_impl_Version_j2 m_slices_stableCmpFunc_impl_Version_j3
        rw [ckI_of (by omega) (by omega), Option.bind_some, decide_eq_true (by omega), cond_true, show ((P.length : Int) + (bs : Int)) = ((P.length + X.length : Nat) : Int) by omega, show (l.length : Int) = ((P.length + X.length + Y.length : Nat) : Int) by omega, z3, Option.bind_some, lenQ_ok (by simp; omega), Option.bind_some, show ((bs : Int) * 2) = 2 * (bs : Int) by omega, c2, Option.bind_some])
      (fun n3 P X hX hN => by
        show m_slices_stableCmpFunc_impl_Version_l3 p _ (n3 + 1) _ _ _ _ _ = _
        rw [m_slices_stableCmpFunc_impl_Version_l3, decide_eq_false (by omega), cond_false]
        unfold m_slices_stableCmpFunc_impl_Version_j2 m_slices_stableCmpFunc_impl_Version_j3
        rw [ckI_of (by omega) (by omega), Option.bind_some, decide_eq_false (by omega), cond_false, show ((bs : Int) * 2) = 2 * (bs : Int) by omega, c2, Option.bind_some])
      (((l.length : Int) - ((2 * bs : Nat) : Int)).toNat + 2) o [] (by
        rw [ho]
        generalize hw : ((l.length : Int) - ((2 * bs : Nat) : Int)).toNat = w
        rw [Nat.mul_add]
        have : w ≤ 2 * bs * w := Nat.le_mul_of_pos_left w (by omega)
        omega) (by simpa using ho) hU hC
    obtain ⟨o', g1, g2, g3⟩ := this
    refine ⟨o', g1, g2, ?_⟩
    rw [m_slices_stableCmpFunc_impl_Version_l2, decide_eq_true (by omega), cond_true, c2, Option.bind_some]
    simp only [List.nil_append, List.length_nil, Nat.zero_add] at g3
    exact g3
  have r1 := stable1 (U := fun x => x ∈ l) (gt := fun x r => decide (q r x < 0)) (N := l.length) (bs := 20) (J := fun o' => m_slices_stableCmpFunc_impl_Version_l2 p (((l.length : Int) - 20).toNat + 1) (l.length : Int) 20 o') (by omega)
    (fun n a b o => m_slices_stableCmpFunc_impl_Version_l1 p n (l.length : Int) 20 (a : Int) (b : Int) o) isO
    (fun n P X S hX hN hU => by
      show m_slices_stableCmpFunc_impl_Version_l1 p (n + 1) _ _ _ _ _ = _
      have := L_seg_slices_insertionSortCmpFunc_impl_Version (p := p) (q := q) P X S (by omega) (fun x hx y hy => hp x (hU x hx) y (hU y hy))
      rw [hX] at this
      rw [m_slices_stableCmpFunc_impl_Version_l1, decide_eq_true (by omega), cond_true, this, Option.bind_some, lenQ_ok (by simp [isort_len]), Option.bind_some, ckI_of (by omega) (by omega), Option.bind_some]
      rfl)
    (fun n P X hX hN hU => by
      show m_slices_stableCmpFunc_impl_Version_l1 p (n + 1) _ _ _ _ _ = _
      have := L_seg_slices_insertionSortCmpFunc_impl_Version (p := p) (q := q) P X [] (by simp; omega) (fun x hx y hy => hp x (hU x hx) y (hU y hy))
      rw [hN, List.append_nil, List.append_nil] at this
      rw [m_slices_stableCmpFunc_impl_Version_l1, decide_eq_false (by omega), cond_false]
      unfold m_slices_stableCmpFunc_impl_Version_j1
      rw [this, Option.bind_some, lenQ_ok (by simp [isort_len]), Option.bind_some])
    (((l.length : Int) - 20).toNat + 2) l [] (by omega) (by simp) (fun x h => h)
  obtain ⟨l1, g1, g2, g3⟩ := r1
  obtain ⟨o, k1, k2, k3⟩ := stable3 (U := fun x => x ∈ l) (gt := fun x r => decide (q r x < 0)) (N := l.length) (J := fun o => some o) (fun n bs o => m_slices_stableCmpFunc_impl_Version_l2 p n (l.length : Int) (bs : Int) o) r2
    (fun n bs o h ho => by
      show m_slices_stableCmpFunc_impl_Version_l2 p (n + 1) _ _ _ = _
      rw [m_slices_stableCmpFunc_impl_Version_l2, decide_eq_false (by omega), cond_false])
    (l.length - 20) (((l.length : Int) - 20).toNat + 1) 20 l1 (Nat.le_refl _) (by omega) (by omega) g1.length_eq (fun x hx => g1.mem_iff.1 hx) g2
  refine ⟨o, k1.trans g1, k2, ?_⟩
  unfold m_slices_SortStableFunc_Limpl_Version_impl_Version m_slices_stableCmpFunc_impl_Version
  simp only [List.nil_append, List.length_nil, Nat.zero_add] at g3
  have k3' : m_slices_stableCmpFunc_impl_Version_l2 p (((l.length : Int) - 20).toNat + 1) (l.length : Int) 20 l1 = some o := k3
  have g3' : m_slices_stableCmpFunc_impl_Version_l1 p (((l.length : Int) - 20).toNat + 2) (l.length : Int) 20 0 20 l = some o := g3.trans k3'
  rw [g3', Option.bind_some, lenQ_ok (k1.trans g1).length_eq, Option.bind_some]
def total (left : List Rows) : Nat := left.flatten.length
abbrev Ta := S_impl_Tally
def kLt (a b : Ta) : Prop := rOrd a.Key b.Key < 0
def ks (l : List Ta) : Prop := l.Pairwise kLt
/-- A tally that is one, but for how many rows there may be. -/
def tOkW (t : Ta) : Prop := t.Key.length = 1 ∧ rowOk t.Key = true ∧ 1 ≤ t.Rows ∧ 0 ≤ t.Many ∧ t.Many ≤ t.Rows ∧ -9999 * t.Many ≤ t.Sum ∧ t.Sum ≤ 9999 * t.Many
def rsum (l : List Ta) : Int := (l.map (·.Rows)).sum
structure TInv (n : Nat) (l : List Ta) : Prop where
  ks : ks l
  ok : ∀ x ∈ l, tOkW x
  sum : rsum l = n
theorem TInv.nil : TInv 0 [] where
  ks := List.Pairwise.nil
  ok := by simp
  sum := rfl
abbrev Ver := S_impl_Version
abbrev Wr := S_impl_Write
def keyB (n : Int) : Bool := decide (0 ≤ n) && decide (n ≤ 4)
def vb (v : Ver) : Bool := keyB v.Key && ((decide (1 ≤ v.Born) && decide (v.Born ≤ 40)) && ((decide (v.Died = 0) || (decide (v.Born + 1 ≤ v.Died) && decide (v.Died ≤ 40))) && rowOk v.Row))
def vbad (w v : Ver) : Bool := decide (w.Key > v.Key) || (decide (w.Key = v.Key) && (decide (w.Died = 0) || decide (w.Died > v.Born)))
def verOk (l : List Ver) : Bool := l.all vb && adjB vbad l && decide ((l.length : Int) ≤ 60)
theorem E_keyOk (n : Int) : m_impl_keyOk n = some (keyB n) := by unfold m_impl_keyOk; rw [E_between, Option.bind_some]; rfl
theorem nat01 : ((0 : Nat) : Int) + 1 = 1 := rfl
theorem natS {k : Nat} : ((k : Nat) : Int) + 1 = ((k + 1 : Nat) : Int) := by omega
theorem neF {a b : Int} (h : a = b) : (a != b) = false := by simp [h]
theorem vb_nums {v : Ver} (h : vb v = true) : 0 ≤ v.Key ∧ v.Key ≤ 4 ∧ 1 ≤ v.Born ∧ v.Born ≤ 40 ∧ (v.Died = 0 ∨ (v.Born + 1 ≤ v.Died ∧ v.Died ≤ 40)) ∧ rowOk v.Row = true := by
  unfold vb keyB at h
  simp only [Bool.and_eq_true, Bool.or_eq_true, decide_eq_true_eq] at h
  exact ⟨h.1.1, h.1.2, h.2.1.1, h.2.1.2, h.2.2.1, h.2.2.2⟩
theorem ivo_head {l : List Ver} {n k : Nat} {x : Ver} (hx : l[k]? = some x) (hr : rSm x.Row) : m_impl_VersionsOk_l1 (n + 1) l l (l.length : Int) (k : Int) = m_impl_VersionsOk_j1 (m_impl_VersionsOk_l1 n) l (k : Int) l (l.length : Int) (k : Int) (!vb x) x := by
  have hlt := lt_of_at hx
  rw [m_impl_VersionsOk_l1, dlt hlt, cond_true, at_of hx, Option.bind_some, ltE, E_keyOk, Option.bind_some]
  unfold vb
  cases hA : keyB x.Key with
  | false => simp only [cond_true, cond_false, Bool.not_true, Bool.not_false, Bool.not_not, Bool.true_and, Bool.false_and, Bool.and_true, Bool.and_false, Bool.true_or, Bool.false_or, Bool.or_true, Bool.or_false]
  | true =>
    rw [Bool.not_true, cond_false, E_between, Option.bind_some, Bool.true_and]
    cases hB : (decide (1 ≤ x.Born) && decide (x.Born ≤ 40)) with
    | false => simp only [cond_true, cond_false, Bool.not_true, Bool.not_false, Bool.not_not, Bool.true_and, Bool.false_and, Bool.and_true, Bool.and_false, Bool.true_or, Bool.false_or, Bool.or_true, Bool.or_false]
    | true =>
      rw [Bool.not_true, cond_false, Bool.true_and]
      by_cases hd : x.Died = 0
      · rw [neF hd, cond_false, E_impl_RowOk hr, Option.bind_some, decide_eq_true hd, Bool.true_or, Bool.true_and]
      · have hb := hB
        simp only [Bool.and_eq_true, decide_eq_true_eq] at hb
        rw [beqF' hd, cond_true, ckI_of (by omega) (by omega), Option.bind_some, E_between, Option.bind_some, decide_eq_false hd, Bool.false_or]
        cases hC : (decide (x.Born + 1 ≤ x.Died) && decide (x.Died ≤ 40)) with
        | false => simp only [cond_true, cond_false, Bool.not_true, Bool.not_false, Bool.not_not, Bool.true_and, Bool.false_and, Bool.and_true, Bool.and_false, Bool.true_or, Bool.false_or, Bool.or_true, Bool.or_false]
        | true => rw [Bool.not_true, cond_false, E_impl_RowOk hr, Option.bind_some, Bool.true_and]
theorem E_impl_VersionsOk {l : List Ver} (hl : l.length ≤ 1000000) (hr : ∀ v ∈ l, rSm v.Row) : m_impl_VersionsOk l = some (verOk l) := by
  unfold m_impl_VersionsOk verOk
  refine scanPrev (p := vb) (bad := vbad) l (fun n k => m_impl_VersionsOk_l1 n l l (l.length : Int) k) (fun n x hx => ?_) (fun n k x y hx hy hp => ?_) (fun n => ?_) _ fuel0
  · show m_impl_VersionsOk_l1 (n + 1) l l (l.length : Int) ((0 : Nat) : Int) = _
    rw [ivo_head hx (hr x (List.mem_of_getElem? hx))]
    unfold m_impl_VersionsOk_j1
    cases vb x with
    | false => simp only [cond_true, cond_false, Bool.not_true, Bool.not_false, Bool.not_not, Bool.true_and, Bool.false_and, Bool.and_true, Bool.and_false, Bool.true_or, Bool.false_or, Bool.or_true, Bool.or_false]
    | true =>
      rw [Bool.not_true, cond_false, cond_true, show (((0 : Nat) : Int) == 0) = true from rfl, cond_true]
      unfold m_impl_VersionsOk_j3
      rw [ck1 (by omega), Option.bind_some, nat01]
  · rw [ivo_head hx (hr x (List.mem_of_getElem? hx))]
    have hlt := lt_of_at hx
    unfold m_impl_VersionsOk_j1
    cases vb x with
    | false => simp only [cond_true, cond_false, Bool.not_true, Bool.not_false, Bool.not_not, Bool.true_and, Bool.false_and, Bool.and_true, Bool.and_false, Bool.true_or, Bool.false_or, Bool.or_true, Bool.or_false]
    | true =>
      rw [Bool.not_true, cond_false, Bool.true_and, beqF (show ¬ ((k + 1 : Nat) : Int) = 0 by omega), cond_false, ckdd (by omega), Option.bind_some, at_of hy, Option.bind_some, ltE]
      have hn := vb_nums hp
      unfold vbad
      have stop : m_impl_VersionsOk_j2 (m_impl_VersionsOk_l1 n) l l (l.length : Int) ((k + 1 : Nat) : Int) true = some false := by unfold m_impl_VersionsOk_j2; rw [cond_true]
      have next : m_impl_VersionsOk_j2 (m_impl_VersionsOk_l1 n) l l (l.length : Int) ((k + 1 : Nat) : Int) false = m_impl_VersionsOk_l1 n l l (l.length : Int) ((k + 1 + 1 : Nat) : Int) := by
        unfold m_impl_VersionsOk_j2 m_impl_VersionsOk_j3
        rw [cond_false, ck1 (by omega), Option.bind_some, show ((k + 1 : Nat) : Int) + 1 = ((k + 1 + 1 : Nat) : Int) by omega]
      by_cases h1 : y.Key > x.Key
      · rw [decide_eq_true h1, cond_true, stop]; simp only [cond_true, cond_false, Bool.not_true, Bool.not_false, Bool.not_not, Bool.true_and, Bool.false_and, Bool.and_true, Bool.and_false, Bool.true_or, Bool.false_or, Bool.or_true, Bool.or_false]
      · rw [decide_eq_false h1, cond_false, Bool.false_or]
        by_cases h2 : y.Key = x.Key
        · rw [show (y.Key == x.Key) = true by simp [h2], cond_true, decide_eq_true h2, Bool.true_and]
          by_cases h3 : y.Born ≥ x.Born
          · rw [decide_eq_true h3, cond_true]
            by_cases h4 : y.Died = 0
            · rw [stop, decide_eq_true h4]; simp only [cond_true, cond_false, Bool.not_true, Bool.not_false, Bool.not_not, Bool.true_and, Bool.false_and, Bool.and_true, Bool.and_false, Bool.true_or, Bool.false_or, Bool.or_true, Bool.or_false]
            · rw [stop, decide_eq_false h4, decide_eq_true (show y.Died > x.Born by omega)]; simp only [cond_true, cond_false, Bool.not_true, Bool.not_false, Bool.not_not, Bool.true_and, Bool.false_and, Bool.and_true, Bool.and_false, Bool.true_or, Bool.false_or, Bool.or_true, Bool.or_false]
          · rw [decide_eq_false h3, cond_false]
            by_cases h4 : y.Died = 0
            · rw [show (y.Died == 0) = true by simp [h4], cond_true, decide_eq_true h4, stop]; simp only [cond_true, cond_false, Bool.not_true, Bool.not_false, Bool.not_not, Bool.true_and, Bool.false_and, Bool.and_true, Bool.and_false, Bool.true_or, Bool.false_or, Bool.or_true, Bool.or_false]
            · rw [beqF h4, cond_false, decide_eq_false h4, Bool.false_or]
              by_cases h5 : y.Died > x.Born
              · rw [decide_eq_true h5, stop]; simp only [cond_true, cond_false, Bool.not_true, Bool.not_false, Bool.not_not, Bool.true_and, Bool.false_and, Bool.and_true, Bool.and_false, Bool.true_or, Bool.false_or, Bool.or_true, Bool.or_false]
              · rw [decide_eq_false h5, next]; simp only [cond_true, cond_false, Bool.not_true, Bool.not_false, Bool.not_not, Bool.true_and, Bool.false_and, Bool.and_true, Bool.and_false, Bool.true_or, Bool.false_or, Bool.or_true, Bool.or_false]
        · rw [beqF h2, cond_false, decide_eq_false h2, Bool.false_and, next]; simp only [cond_true, cond_false, Bool.not_true, Bool.not_false, Bool.not_not, Bool.true_and, Bool.false_and, Bool.and_true, Bool.and_false, Bool.true_or, Bool.false_or, Bool.or_true, Bool.or_false]
  · rw [m_impl_VersionsOk_l1, dnlt, cond_false]; rfl
def wb (w : Wr) : Bool := keyB w.Key && (rowOk w.Row && !(w.Gone && decide ((w.Row.length : Int) > 0)))
def wbad (x w : Wr) : Bool := decide (x.Key ≥ w.Key)
def wOk (l : List Wr) : Bool := l.all wb && adjB wbad l
theorem adj_len {l : List Wr} (h : wOk l = true) : l.length ≤ 5 := by
  unfold wOk at h
  rw [Bool.and_eq_true, adjB_iff] at h
  obtain ⟨h1, h2⟩ := h
  have key : ∀ (k : Nat) (x : Wr), l[k]? = some x → (k : Int) ≤ x.Key := by
    intro k
    induction k with
    | zero =>
      intro x hx
      have := List.all_eq_true.1 h1 x (List.mem_of_getElem? hx)
      unfold wb keyB at this
      simp only [Bool.and_eq_true, decide_eq_true_eq] at this
      omega
    | succ k ih =>
      intro x hx
      have hlt := lt_of_at hx
      have hy : l[k]? = some l[k] := List.getElem?_eq_getElem (by omega)
      have := h2 k _ _ hy hx
      unfold wbad at this
      rw [decide_eq_false_iff_not] at this
      have := ih _ hy
      omega
  rcases Nat.lt_or_ge 5 l.length with h5 | h5
  · have hx : l[5]? = some l[5] := List.getElem?_eq_getElem h5
    have a := key 5 _ hx
    have := List.all_eq_true.1 h1 _ (List.mem_of_getElem? hx)
    unfold wb keyB at this
    simp only [Bool.and_eq_true, decide_eq_true_eq] at this
    omega
  · exact h5
theorem E_impl_WritesOk {l : List Wr} (hl : l.length ≤ 1000000) (hr : ∀ v ∈ l, rSm v.Row) : m_impl_WritesOk l = some (wOk l) := by
  have main : m_impl_WritesOk l = some (l.all wb && adjB wbad l && decide ((l.length : Int) ≤ 5)) := by
    unfold m_impl_WritesOk
    have head : ∀ n (k : Nat) x (c : Bool) (hc : (bif decide ((k : Int) > 0) then ((ckI ((k : Int) - 1)).bind fun x21 => (at? l x21).bind fun x22 => m_impl_WritesOk_j1 (m_impl_WritesOk_l1 n) l l (l.length : Int) (k : Int) (decide (x22.Key ≥ x.Key))) else (m_impl_WritesOk_j1 (m_impl_WritesOk_l1 n) l l (l.length : Int) (k : Int) false)) = m_impl_WritesOk_j1 (m_impl_WritesOk_l1 n) l l (l.length : Int) (k : Int) c), l[k]? = some x → m_impl_WritesOk_l1 (n + 1) l l (l.length : Int) (k : Int) = m_impl_WritesOk_j1 (m_impl_WritesOk_l1 n) l l (l.length : Int) (k : Int) (!(wb x) || c) := by
      intro n k x c hc hx
      have hlt := lt_of_at hx
      rw [m_impl_WritesOk_l1, dlt hlt, cond_true, at_of hx, Option.bind_some, ltE, E_keyOk, Option.bind_some]
      unfold wb
      cases keyB x.Key with
      | false => rw [Bool.not_false, cond_true, Bool.false_and, Bool.not_false, Bool.true_or]
      | true =>
        rw [Bool.not_true, cond_false, E_impl_RowOk (hr x (List.mem_of_getElem? hx)), Option.bind_some, Bool.true_and]
        cases rowOk x.Row with
        | false => rw [Bool.not_false, cond_true, Bool.false_and, Bool.not_false, Bool.true_or]
        | true =>
          rw [Bool.not_true, cond_false, Bool.true_and, Bool.not_not]
          cases x.Gone with
          | true =>
            rw [cond_true, Bool.true_and]
            by_cases h : (x.Row.length : Int) > 0
            · rw [decide_eq_true h, cond_true, Bool.true_or]
            · rw [decide_eq_false h, cond_false, Bool.false_or]; exact hc
          | false => rw [cond_false, Bool.false_and, Bool.false_or]; exact hc
    refine scanPrev (p := wb) (bad := wbad) l (fun n k => m_impl_WritesOk_l1 n l l (l.length : Int) k) (fun n x hx => ?_) (fun n k x y hx hy hp => ?_) (fun n => ?_) _ fuel0
    · show m_impl_WritesOk_l1 (n + 1) l l (l.length : Int) ((0 : Nat) : Int) = _
      rw [head n 0 x false (by rw [dgt00, cond_false]) hx]
      unfold m_impl_WritesOk_j1
      cases wb x with
      | false => simp only [cond_true, cond_false, Bool.not_true, Bool.not_false, Bool.not_not, Bool.true_and, Bool.false_and, Bool.and_true, Bool.and_false, Bool.true_or, Bool.false_or, Bool.or_true, Bool.or_false]
      | true => simp only [cond_true, cond_false, Bool.not_true, Bool.not_false, Bool.not_not, Bool.true_and, Bool.false_and, Bool.and_true, Bool.and_false, Bool.true_or, Bool.false_or, Bool.or_true, Bool.or_false]; rw [ck1 (by omega), Option.bind_some, nat01]
    · have hlt := lt_of_at hx
      rw [head n (k + 1) x (wbad y x) (by rw [dgt0, cond_true, ckdd (by omega), Option.bind_some, at_of hy, Option.bind_some, wbad]) hx]
      unfold m_impl_WritesOk_j1
      cases wb x with
      | false => simp only [cond_true, cond_false, Bool.not_true, Bool.not_false, Bool.not_not, Bool.true_and, Bool.false_and, Bool.and_true, Bool.and_false, Bool.true_or, Bool.false_or, Bool.or_true, Bool.or_false]
      | true =>
        rw [Bool.not_true, Bool.false_or, Bool.true_and]
        cases wbad y x with
        | true => simp only [cond_true, cond_false, Bool.not_true, Bool.not_false, Bool.not_not, Bool.true_and, Bool.false_and, Bool.and_true, Bool.and_false, Bool.true_or, Bool.false_or, Bool.or_true, Bool.or_false]
        | false => rw [cond_false, ck1 (by omega), Option.bind_some, natS]; simp only [cond_true, cond_false, Bool.not_true, Bool.not_false, Bool.not_not, Bool.true_and, Bool.false_and, Bool.and_true, Bool.and_false, Bool.true_or, Bool.false_or, Bool.or_true, Bool.or_false]
    · rw [m_impl_WritesOk_l1, dnlt, cond_false, m_impl_WritesOk_j2]
  rw [main]
  congr 1
  cases h : wOk l with
  | false => unfold wOk at h; rw [h]; rfl
  | true =>
    have := adj_len h
    unfold wOk at h
    rw [h, decide_eq_true (by omega)]; rfl
theorem E_spec_WritesOk {l : List Wr} (hl : l.length ≤ 1000000) (hr : ∀ v ∈ l, rSm v.Row) : m_spec_WritesOk l = some (wOk l) := by
  have main : m_spec_WritesOk l = some (l.all wb && adjB wbad l && true) := by
    unfold m_spec_WritesOk
    have head : ∀ n (k : Nat) x (c : Bool) (hc : (bif decide ((k : Int) > 0) then ((ckI ((k : Int) - 1)).bind fun x21 => (at? l x21).bind fun x22 => m_spec_WritesOk_j1 (m_spec_WritesOk_l1 n) l (k : Int) (decide (x22.Key ≥ x.Key))) else (m_spec_WritesOk_j1 (m_spec_WritesOk_l1 n) l (k : Int) false)) = m_spec_WritesOk_j1 (m_spec_WritesOk_l1 n) l (k : Int) c), l[k]? = some x → m_spec_WritesOk_l1 (n + 1) l (k : Int) = m_spec_WritesOk_j1 (m_spec_WritesOk_l1 n) l (k : Int) (!(wb x) || c) := by
      intro n k x c hc hx
      have hlt := lt_of_at hx
      rw [m_spec_WritesOk_l1, dlt hlt, cond_true, at_of hx, Option.bind_some, ltE, E_l1In, Option.bind_some]
      show (bif !(keyB x.Key) then _ else _) = _
      unfold wb
      cases keyB x.Key with
      | false => rw [Bool.not_false, cond_true, Bool.false_and, Bool.not_false, Bool.true_or]
      | true =>
        rw [Bool.not_true, cond_false, E_spec_RowOk (hr x (List.mem_of_getElem? hx)), Option.bind_some, Bool.true_and]
        cases rowOk x.Row with
        | false => rw [Bool.not_false, cond_true, Bool.false_and, Bool.not_false, Bool.true_or]
        | true =>
          rw [Bool.not_true, cond_false, Bool.true_and, Bool.not_not]
          cases x.Gone with
          | true =>
            rw [cond_true, Bool.true_and]
            by_cases h : (x.Row.length : Int) > 0
            · rw [decide_eq_true h, cond_true, Bool.true_or]
            · rw [decide_eq_false h, cond_false, Bool.false_or]; exact hc
          | false => rw [cond_false, Bool.false_and, Bool.false_or]; exact hc
    refine scanPrev (p := wb) (bad := wbad) l (fun n k => m_spec_WritesOk_l1 n l k) (fun n x hx => ?_) (fun n k x y hx hy hp => ?_) (fun n => ?_) _ fuel0
    · show m_spec_WritesOk_l1 (n + 1) l ((0 : Nat) : Int) = _
      rw [head n 0 x false (by rw [dgt00, cond_false]) hx]
      unfold m_spec_WritesOk_j1
      cases wb x with
      | false => simp only [cond_true, cond_false, Bool.not_true, Bool.not_false, Bool.not_not, Bool.true_and, Bool.false_and, Bool.and_true, Bool.and_false, Bool.true_or, Bool.false_or, Bool.or_true, Bool.or_false]
      | true => simp only [cond_true, cond_false, Bool.not_true, Bool.not_false, Bool.not_not, Bool.true_and, Bool.false_and, Bool.and_true, Bool.and_false, Bool.true_or, Bool.false_or, Bool.or_true, Bool.or_false]; rw [ck1 (by omega), Option.bind_some, nat01]
    · have hlt := lt_of_at hx
      rw [head n (k + 1) x (wbad y x) (by rw [dgt0, cond_true, ckdd (by omega), Option.bind_some, at_of hy, Option.bind_some, wbad]) hx]
      unfold m_spec_WritesOk_j1
      cases wb x with
      | false => simp only [cond_true, cond_false, Bool.not_true, Bool.not_false, Bool.not_not, Bool.true_and, Bool.false_and, Bool.and_true, Bool.and_false, Bool.true_or, Bool.false_or, Bool.or_true, Bool.or_false]
      | true =>
        rw [Bool.not_true, Bool.false_or, Bool.true_and]
        cases wbad y x with
        | true => simp only [cond_true, cond_false, Bool.not_true, Bool.not_false, Bool.not_not, Bool.true_and, Bool.false_and, Bool.and_true, Bool.and_false, Bool.true_or, Bool.false_or, Bool.or_true, Bool.or_false]
        | false => rw [cond_false, ck1 (by omega), Option.bind_some, natS]; simp only [cond_true, cond_false, Bool.not_true, Bool.not_false, Bool.not_not, Bool.true_and, Bool.false_and, Bool.and_true, Bool.and_false, Bool.true_or, Bool.false_or, Bool.or_true, Bool.or_false]
    · rw [m_spec_WritesOk_l1, dnlt, cond_false, m_spec_WritesOk_j2]
  rw [main, Bool.and_true]; rfl
def keys5 : List Int := [0, 1, 2, 3, 4]
theorem keys5_at {k : Nat} {x : Int} (h : keys5[k]? = some x) : x = (k : Int) ∧ k < 5 := by
  have hlt := lt_of_at h
  have : k < 5 := hlt
  refine ⟨?_, this⟩
  unfold keys5 at h
  match k, this with
  | 0, _ => simp at h; omega
  | 1, _ => simp at h; omega
  | 2, _ => simp at h; omega
  | 3, _ => simp at h; omega
  | 4, _ => simp at h; omega
theorem E_versionsCopy {l : List Ver} (hl : l.length ≤ 1000000) (hr : ∀ v ∈ l, v.Row.length ≤ 1000000) : m_impl_versionsCopy l = some l := by
  unfold m_impl_versionsCopy
  have := scanM (f := fun v : Ver => v) (J := fun o => m_impl_versionsCopy_j1 o) l (fun n k o => m_impl_versionsCopy_l1 n l (l.length : Int) k o) (fun n k x o hx ho => by
    have hlt := lt_of_at hx
    rw [m_impl_versionsCopy_l1, dlt hlt, cond_true, at_of hx, Option.bind_some, ltE, E_clone (hr x (List.mem_of_getElem? hx)), Option.bind_some, ltE, app_of (by simp; omega), Option.bind_some, ck1 (by omega), Option.bind_some]) (fun n o ho => by
    rw [m_impl_versionsCopy_l1, dnlt, cond_false]) _ fuel0
  rw [this, List.map_id']
  unfold m_impl_versionsCopy_j1
  rw [L_slices_Clip_Limpl_Version_impl_Version_o, Option.bind_some]
theorem E_writesCopy {l : List Wr} (hl : l.length ≤ 1000000) (hr : ∀ v ∈ l, v.Row.length ≤ 1000000) : m_impl_writesCopy l = some l := by
  unfold m_impl_writesCopy
  have := scanM (f := fun v : Wr => v) (J := fun o => m_impl_writesCopy_j1 o) l (fun n k o => m_impl_writesCopy_l1 n l (l.length : Int) k o) (fun n k x o hx ho => by
    have hlt := lt_of_at hx
    rw [m_impl_writesCopy_l1, dlt hlt, cond_true, at_of hx, Option.bind_some, ltE, E_clone (hr x (List.mem_of_getElem? hx)), Option.bind_some, ltE, app_of (by simp; omega), Option.bind_some, ck1 (by omega), Option.bind_some]) (fun n o ho => by
    rw [m_impl_writesCopy_l1, dnlt, cond_false]) _ fuel0
  rw [this, List.map_id']
  unfold m_impl_writesCopy_j1
  rw [L_slices_Clip_Limpl_Write_impl_Write_o, Option.bind_some]
theorem E_l14Writes {l : List Wr} (hl : l.length ≤ 1000000) (hr : ∀ v ∈ l, v.Row.length ≤ 1000000) : m_spec_l14Writes l = some l := by
  unfold m_spec_l14Writes
  have := scanM (f := fun v : Wr => v) (J := fun o => m_spec_l14Writes_j1 o) l (fun n k o => m_spec_l14Writes_l1 n l k o) (fun n k x o hx ho => by
    have hlt := lt_of_at hx
    rw [m_spec_l14Writes_l1, dlt hlt, cond_true, at_of hx, Option.bind_some, ltE, E_l3Own (hr x (List.mem_of_getElem? hx)), Option.bind_some, ltE, app_of (by simp; omega), Option.bind_some, ck1 (by omega), Option.bind_some]) (fun n o ho => by
    rw [m_spec_l14Writes_l1, dnlt, cond_false]) _ fuel0
  rw [this, List.map_id']
  rfl
theorem E_sameWrites {a b : List Wr} (ha : a.length ≤ 1000000) (hr : ∀ v ∈ a, v.Row.length ≤ 1000000) : m_laws_sameWrites a b = some (decide (a = b)) := by
  unfold m_laws_sameWrites
  by_cases h : a.length = b.length
  · rw [lenEq h, cond_false]
    refine scanEq h (fun n k => m_laws_sameWrites_l1 n a b k) (fun n k x y hx hy => ?_) (fun n => by rw [m_laws_sameWrites_l1, dnlt, cond_false, m_laws_sameWrites_j2]) _ fuel0
    have hlt := lt_of_at hx
    have stop : m_laws_sameWrites_j1 (m_laws_sameWrites_l1 n) a b (k : Int) true = some false := by unfold m_laws_sameWrites_j1; rw [cond_true]
    have next : m_laws_sameWrites_j1 (m_laws_sameWrites_l1 n) a b (k : Int) false = m_laws_sameWrites_l1 n a b ((k : Int) + 1) := by unfold m_laws_sameWrites_j1; rw [cond_false, ck1 (by omega), Option.bind_some]
    rw [m_laws_sameWrites_l1, dlt hlt, cond_true, at_of hx, Option.bind_some, at_of hy, Option.bind_some]
    by_cases h1 : x.Key = y.Key
    · rw [neF h1, cond_false, Option.bind_some, Option.bind_some]
      by_cases h2 : x.Gone = y.Gone
      · rw [show (x.Gone != y.Gone) = false by simp [h2], cond_false, Option.bind_some, Option.bind_some, E_sameRow (hr x (List.mem_of_getElem? hx)), Option.bind_some]
        by_cases h4 : x.Row = y.Row
        · have : x = y := by cases x; cases y; simp_all
          rw [decide_eq_true h4, Bool.not_true, next, decide_eq_true this, cond_true]
        · rw [decide_eq_false h4, Bool.not_false, stop, decide_eq_false (fun e => h4 (by rw [e])), cond_false]
      · rw [show (x.Gone != y.Gone) = true by simp [h2], cond_true, stop, decide_eq_false (fun e => h2 (by rw [e])), cond_false]
    · rw [beqF' h1, cond_true, stop, decide_eq_false (fun e => h1 (by rw [e])), cond_false]
  · rw [(lenNe h).1, cond_true, (lenNe h).2]
def seenP (t : Int) (v : Ver) : Bool := decide (v.Born ≤ t) && (decide (v.Died = 0) || decide (v.Died > t))
def seenV (l : List Ver) (key t : Int) : Option Ver := l.find? fun v => decide (v.Key = key) && seenP t v
def ver0 : Ver := ⟨0, 0, 0, []⟩
def seenR (o : Option Ver) : Ver × Bool := match o with | some v => (v, true) | none => (ver0, false)
theorem scanFind {α R : Type} {p : α → Bool} {F : Option α → Option R} (xs : List α) (L : Nat → Int → Option R)
    (hs : ∀ n (k : Nat) x, xs[k]? = some x → L (n + 1) (k : Int) = bif p x then F (some x) else L n ((k : Int) + 1)) (he : ∀ n, L (n + 1) (xs.length : Int) = F none)
    (n : Nat) (hn : xs.length < n) : L n 0 = F (xs.find? p) := by
  have := scanC xs (fun n k (_ : Unit) => L n k) (fun x s k => bif p x then F (some x) else k s) (fun _ => F none) (fun n k x s hx => hs n k x hx) (fun n s => he n) n hn ()
  rw [this]
  have key : ∀ l : List α, foldC (S := Unit) (fun x s k => bif p x then F (some x) else k s) (fun _ => F none) l () = F (l.find? p) := by
    intro l
    induction l with
    | nil => rfl
    | cons x l ih =>
      rw [foldC, List.find?_cons]
      cases p x with
      | true => rw [cond_true]
      | false => rw [cond_false]; exact ih
  exact key xs
theorem E_seen {l : List Ver} (hl : l.length ≤ 1000000) (key t : Int) : m_impl_seen l key t = some (seenR (seenV l key t)) := by
  unfold m_impl_seen seenV
  refine scanFind (F := fun o => some (seenR o)) l (fun n k => m_impl_seen_l1 n key t l (l.length : Int) k ver0) (fun n k x hx => ?_) (fun n => ?_) _ fuel0
  · have hlt := lt_of_at hx
    have next : ∀ o9, m_impl_seen_j1 (m_impl_seen_l1 n) key t l (l.length : Int) (k : Int) false ver0 o9 = m_impl_seen_l1 n key t l (l.length : Int) ((k : Int) + 1) ver0 := fun o9 => by unfold m_impl_seen_j1; rw [cond_false, ck1 (by omega), Option.bind_some]
    have stop : ∀ o9, m_impl_seen_j1 (m_impl_seen_l1 n) key t l (l.length : Int) (k : Int) true ver0 o9 = some (o9, true) := fun o9 => by unfold m_impl_seen_j1; rw [cond_true, ltE]
    rw [m_impl_seen_l1, dlt hlt, cond_true, at_of hx, Option.bind_some, ltE]
    unfold seenP
    by_cases h1 : x.Key = key
    · rw [show (x.Key == key) = true by simp [h1], cond_true, decide_eq_true h1, Bool.true_and]
      by_cases h2 : x.Born ≤ t
      · rw [decide_eq_true h2, cond_true, Bool.true_and]
        by_cases h3 : x.Died = 0
        · rw [show (x.Died == 0) = true by simp [h3], cond_true, stop, decide_eq_true h3, Bool.true_or, cond_true, seenR]
        · rw [beqF h3, cond_false, decide_eq_false h3, Bool.false_or]
          by_cases h4 : x.Died > t
          · rw [decide_eq_true h4, stop, cond_true, seenR]
          · rw [decide_eq_false h4, next, cond_false]
      · rw [decide_eq_false h2, cond_false, next, Bool.false_and, cond_false]
    · rw [beqF h1, cond_false, next, decide_eq_false h1, Bool.false_and, cond_false]
  · rw [m_impl_seen_l1, dnlt, cond_false, m_impl_seen_j2, ltE]; rfl
theorem seenV_mem {l : List Ver} {key t : Int} {v : Ver} (h : seenV l key t = some v) : v ∈ l := List.mem_of_find?_eq_some h
def rowsAt (l : List Ver) (t : Int) : Rows := if verOk l then keys5.filterMap fun k => (seenV l k t).map (·.Row) else []
theorem E_RowsAt {l : List Ver} (hl : l.length ≤ 1000000) (hr : ∀ v ∈ l, rSm v.Row) (t : Int) : m_impl_RowsAt l t = some (rowsAt l t) := by
  unfold m_impl_RowsAt rowsAt
  rw [E_impl_VersionsOk hl hr, Option.bind_some]
  cases verOk l with
  | false => rfl
  | true =>
    rw [Bool.not_true, cond_false, if_pos rfl]
    have := scanMF (f := fun k => (seenV l k t).map (·.Row)) (J := fun o => m_impl_RowsAt_j2 o) keys5 (fun n k o => m_impl_RowsAt_l1 n l t k o) (fun n k x o hx ho => by
      obtain ⟨rfl, hk⟩ := keys5_at hx
      rw [m_impl_RowsAt_l1, decide_eq_true (by omega), cond_true, E_seen hl, Option.bind_some, ltE]
      unfold m_impl_RowsAt_j1
      cases h : seenV l (k : Int) t with
      | none => rw [show (seenR none).2 = false from rfl, cond_false, ck1 (by omega), Option.bind_some, Option.map_none, Option.toList_none, List.append_nil]
      | some v => rw [show (seenR (some v)).2 = true from rfl, cond_true, show (seenR (some v)).1.Row = v.Row from rfl, app_of (by simp; omega), Option.bind_some, ck1 (by omega), Option.bind_some, Option.map_some, Option.toList_some]) (fun n o ho => by
      show m_impl_RowsAt_l1 (n + 1) l t 5 o = _
      rw [m_impl_RowsAt_l1, decide_eq_false (by omega), cond_false]) (((5 : Int) - (0 : Int)).toNat + 1) (by decide)
    rw [this]
    unfold m_impl_RowsAt_j2
    rw [E_rowsCopy, Option.bind_some]
    · exact Nat.le_trans (List.length_filterMap_le _ _) (by decide)
    · intro r hr'
      obtain ⟨k, _, hk⟩ := List.mem_filterMap.1 hr'
      cases h : seenV l k t with
      | none => rw [h] at hk; cases hk
      | some v =>
        rw [h] at hk; simp at hk
        have := (hr v (seenV_mem h)).1
        rw [← hk]; omega
theorem rowsAt_sm {l : List Ver} (hr : ∀ v ∈ l, rSm v.Row) {t : Int} : (rowsAt l t).length ≤ 5 ∧ ∀ r ∈ rowsAt l t, r.length ≤ 1000 := by
  unfold rowsAt
  split
  · refine ⟨Nat.le_trans (List.length_filterMap_le _ _) (by decide), fun r hr' => ?_⟩
    obtain ⟨k, _, hk⟩ := List.mem_filterMap.1 hr'
    cases h : seenV l k t with
    | none => rw [h] at hk; cases hk
    | some v =>
      rw [h] at hk; simp at hk
      have := (hr v (seenV_mem h)).1
      rw [← hk]; omega
  · simp
def endV (k t : Int) (v : Ver) : Ver := if v.Key = k ∧ v.Died = 0 then { v with Died := t } else v
def newV (w : Wr) (t : Int) : Ver := ⟨w.Key, t, 0, w.Row⟩
def insW (w : Wr) (t : Int) : List Ver → List Ver
  | [] => [newV w t]
  | v :: l => if v.Key > w.Key then newV w t :: endV w.Key t v :: l.map (endV w.Key t) else endV w.Key t v :: insW w t l
def put1 (l : List Ver) (w : Wr) (t : Int) : List Ver := if w.Gone then l.map (endV w.Key t) else insW w t l
def putAll (l : List Ver) (ws : List Wr) (t : Int) : List Ver := ws.foldl (fun o w => put1 o w t) l
def step1 (o : List Ver) (w : Wr) (t : Int) : List Ver := if w.Gone then o.map (endV w.Key t) else o.map (endV w.Key t) ++ [newV w t]
def stepAll (l : List Ver) (ws : List Wr) (t : Int) : List Ver := ws.foldl (fun o w => step1 o w t) l
theorem endV_row (k t : Int) (v : Ver) : (endV k t v).Row = v.Row ∧ (endV k t v).Key = v.Key ∧ (endV k t v).Born = v.Born := by unfold endV; split <;> exact ⟨rfl, rfl, rfl⟩
theorem insW_perm (w : Wr) (t : Int) : ∀ l : List Ver, (insW w t l).Perm (l.map (endV w.Key t) ++ [newV w t])
  | [] => .refl _
  | v :: l => by
    rw [insW]
    split
    · exact (List.perm_append_comm (l₁ := [newV w t]) (l₂ := endV w.Key t v :: l.map (endV w.Key t)))
    · exact (insW_perm w t l).cons _
theorem put1_perm (l : List Ver) (w : Wr) (t : Int) : (put1 l w t).Perm (step1 l w t) := by
  unfold put1 step1; split
  · exact .refl _
  · exact insW_perm w t l
theorem step1_perm {a b : List Ver} (h : a.Perm b) (w : Wr) (t : Int) : (step1 a w t).Perm (step1 b w t) := by
  unfold step1; split
  · exact h.map _
  · exact (h.map _).append_right _
theorem putAll_perm (t : Int) : ∀ (ws : List Wr) (a b : List Ver), a.Perm b → (putAll a ws t).Perm (stepAll b ws t)
  | [], _, _, h => h
  | w :: ws, a, b, h => putAll_perm t ws _ _ ((put1_perm a w t).trans (step1_perm h w t))
theorem step1_len (l : List Ver) (w : Wr) (t : Int) : (step1 l w t).length ≤ l.length + 1 := by unfold step1; split <;> simp
theorem put1_len (l : List Ver) (w : Wr) (t : Int) : (put1 l w t).length ≤ l.length + 1 := by rw [(put1_perm l w t).length_eq]; exact step1_len l w t
theorem putAll_len (t : Int) : ∀ (ws : List Wr) (l : List Ver), (putAll l ws t).length ≤ l.length + ws.length
  | [], l => by simp [putAll]
  | w :: ws, l => by
    have := putAll_len t ws (put1 l w t)
    have h1 := put1_len l w t
    have e : putAll l (w :: ws) t = putAll (put1 l w t) ws t := rfl
    rw [e, List.length_cons]; omega
theorem step1_rows {l : List Ver} {w : Wr} {t : Int} {P : Row → Prop} (hl : ∀ v ∈ l, P v.Row) (hw : P w.Row) : ∀ v ∈ step1 l w t, P v.Row := by
  intro v hv
  unfold step1 at hv
  have key : ∀ v ∈ l.map (endV w.Key t), P v.Row := by
    intro v hv
    obtain ⟨u, hu, rfl⟩ := List.mem_map.1 hv
    rw [(endV_row _ _ _).1]; exact hl u hu
  split at hv
  · exact key v hv
  · rcases List.mem_append.1 hv with h | h
    · exact key v h
    · rw [List.mem_singleton.1 h]; exact hw
theorem put1_rows {l : List Ver} {w : Wr} {t : Int} {P : Row → Prop} (hl : ∀ v ∈ l, P v.Row) (hw : P w.Row) : ∀ v ∈ put1 l w t, P v.Row := fun v hv => step1_rows hl hw v ((put1_perm l w t).mem_iff.1 hv)
theorem putAll_rows {t : Int} {P : Row → Prop} : ∀ {ws : List Wr} {l : List Ver}, (∀ v ∈ l, P v.Row) → (∀ w ∈ ws, P w.Row) → ∀ v ∈ putAll l ws t, P v.Row
  | [], _, hl, _ => hl
  | w :: ws, l, hl, hw => putAll_rows (ws := ws) (l := put1 l w t) (put1_rows hl (hw w (by simp))) (fun u hu => hw u (by simp [hu]))
theorem imp_inner {k1 : Int → List Wr → Int → Int → List Ver → Option (List Ver)} {t len i : Int} {ws : List Wr} {w : Wr} {N : Nat} (hN : N ≤ 1000000) : ∀ (rest pre : List Ver) (n : Nat), pre.length + rest.length = N → rest.length < n → m_impl_written_l2 k1 n t ws len i (N : Int) (pre.length : Int) w (pre ++ rest) = m_impl_written_j3 k1 t ws len i w (pre ++ rest.map (endV w.Key t)) := by
  intro rest
  induction rest with
  | nil =>
    intro pre n hp hn
    obtain ⟨n, rfl⟩ : ∃ q, n = q + 1 := ⟨n - 1, by omega⟩
    have : pre.length = N := by simpa using hp
    rw [this, m_impl_written_l2, dnlt, cond_false]; rfl
  | cons v rest ih =>
    intro pre n hp hn
    obtain ⟨n, rfl⟩ : ∃ q, n = q + 1 := ⟨n - 1, by omega⟩
    have hx : (pre ++ v :: rest)[pre.length]? = some v := by simp
    have hlt : pre.length < N := by rw [← hp]; simp
    have go : ∀ u, u = endV w.Key t v → m_impl_written_j2 k1 (m_impl_written_l2 k1 n) t ws len i (N : Int) (pre.length : Int) w (pre ++ u :: rest) = m_impl_written_j3 k1 t ws len i w (pre ++ (v :: rest).map (endV w.Key t)) := by
      rintro u rfl
      unfold m_impl_written_j2
      rw [ck1 (by omega), Option.bind_some]
      have := ih (pre ++ [endV w.Key t v]) n (by simp at hp ⊢; omega) (by simp at hn; omega)
      rw [List.length_append, List.length_singleton] at this
      rw [natS, show pre ++ endV w.Key t v :: rest = pre ++ [endV w.Key t v] ++ rest by simp, this]; simp
    rw [m_impl_written_l2, dlt hlt, cond_true, at_of hx, Option.bind_some, Option.bind_some]
    unfold m_impl_written_j1
    by_cases h1 : v.Key = w.Key
    · rw [show (v.Key == w.Key) = true by simp [h1], cond_true, Option.bind_some, Option.bind_some]
      by_cases h2 : v.Died = 0
      · rw [show (v.Died == 0) = true by simp [h2], cond_true, at_of hx, Option.bind_some, Option.bind_some, ltE, Int.toNat_natCast]
        rw [show (pre ++ v :: rest).set pre.length { v with Died := t } = pre ++ { v with Died := t } :: rest by simp]
        exact go _ (by unfold endV; rw [if_pos ⟨h1, h2⟩])
      · rw [beqF h2, cond_false]
        exact go _ (by unfold endV; rw [if_neg (fun h => h2 h.2)])
    · rw [beqF h1, cond_false, cond_false]
      exact go _ (by unfold endV; rw [if_neg (fun h => h1 h.1)])
def qv (a b : Ver) : Int := orI [cmpI a.Key b.Key, cmpI a.Born b.Born]
theorem qv_lt {a b : Ver} : qv a b < 0 ↔ a.Key < b.Key ∨ (a.Key = b.Key ∧ a.Born < b.Born) := by
  unfold qv
  rw [orI_2]
  unfold lx cmpI
  split <;> split <;> (try split) <;> (try split) <;> omega
theorem E_written_1 (a b : Ver) : m_impl_written_1 a b = some (qv a b) := by
  unfold m_impl_written_1 qv
  rw [E_CompareI, Option.bind_some, E_CompareI, Option.bind_some, E_Or (by simp), Option.bind_some]
theorem E_impl_written {l : List Ver} {ws : List Wr} {t : Int} (hl : l.length ≤ 10000) (hr : ∀ v ∈ l, v.Row.length ≤ 1000000) (hw : ws.length ≤ 10000) (hrw : ∀ w ∈ ws, w.Row.length ≤ 1000000) :
    ∃ o, o.Perm (stepAll l ws t) ∧ OrdB (fun x r => decide (qv r x < 0)) o ∧ m_impl_written l ws t = some o := by
  have := scanF (f := fun o w => step1 o w t) (J := fun o => m_impl_written_j5 o) (fun k o => o.length ≤ l.length + k) ws (fun n k o => m_impl_written_l1 n t ws (ws.length : Int) k o) (fun n k x o hx ho => ⟨by
    have hlt := lt_of_at hx
    have hin := imp_inner (k1 := m_impl_written_l1 n) (t := t) (len := (ws.length : Int)) (i := (k : Int)) (ws := ws) (w := x) (N := o.length) (by omega) o [] (((o.length : Int) - 0).toNat + 1) (by simp) fuel0
    rw [m_impl_written_l1, dlt hlt, cond_true, at_of hx, Option.bind_some, ltE]
    refine Eq.trans hin ?_
    unfold m_impl_written_j3 m_impl_written_j4 step1
    rw [List.nil_append]
    cases x.Gone with
    | true => rw [Bool.not_true, cond_false, ck1 (by omega), Option.bind_some, if_pos rfl]
    | false => rw [Bool.not_false, cond_true, E_clone (hrw x (List.mem_of_getElem? hx)), Option.bind_some, app_of (by simp; omega), Option.bind_some, ck1 (by omega), Option.bind_some, if_neg (by simp)]; rfl, by have := step1_len o x t; omega⟩) (fun n o _ => by rw [m_impl_written_l1, dnlt, cond_false]) _ fuel0 l (by omega)
  have hlen : (stepAll l ws t).length ≤ l.length + ws.length := this.2
  obtain ⟨o, p1, p2, p3⟩ := L_any_slices_SortStableFunc_Limpl_Version_impl_Version (l := stepAll l ws t) (p := fun b0_ b1_ => m_impl_written_1 b0_ b1_) (q := qv) (by omega) (fun x _ y _ => E_written_1 x y)
    (fun x _ y _ z _ h1 h2 => by
      simp only [decide_eq_false_iff_not, qv_lt] at *
      omega)
    (fun x _ y _ h1 => by
      rw [qv_lt] at *
      omega)
  refine ⟨o, p1, p2, ?_⟩
  unfold m_impl_written
  rw [E_versionsCopy (by omega) hr, Option.bind_some, this.1]
  show m_impl_written_j5 (stepAll l ws t) = _
  unfold m_impl_written_j5
  rw [p3, Option.bind_some, lenQ_ok p1.length_eq, Option.bind_some, L_slices_Clip_Limpl_Version_impl_Version_o, Option.bind_some]
theorem vbad_iff {x y : Ver} : vbad x y = false ↔ x.Key < y.Key ∨ (x.Key = y.Key ∧ x.Died ≠ 0 ∧ x.Died ≤ y.Born) := by
  unfold vbad
  simp only [Bool.or_eq_false_iff, Bool.and_eq_false_iff, decide_eq_false_iff_not]
  omega
theorem adj_ordP {α : Type} {bad : α → α → Bool} {p : α → Prop} (ht : ∀ x y z, p x → p y → p z → bad x y = false → bad y z = false → bad x z = false) : ∀ {l : List α}, (∀ x ∈ l, p x) → Adj bad l → OrdB bad l
  | [], _, _ => List.Pairwise.nil
  | [x], _, _ => List.pairwise_singleton _ _
  | x :: y :: l, hp, h => by
    have h1 : OrdB bad (y :: l) := adj_ordP ht (fun z hz => hp z (by simp [hz])) fun i a b ha hb => h (i + 1) a b (by simpa using ha) (by simpa using hb)
    refine List.pairwise_cons.2 ⟨?_, h1⟩
    intro z hz
    have hxy := h 0 x y rfl rfl
    rcases List.mem_cons.1 hz with rfl | hz
    · exact hxy
    · exact ht x y z (hp _ (by simp)) (hp _ (by simp)) (hp _ (by simp [hz])) hxy ((List.pairwise_cons.1 h1).1 z hz)
structure VInv (o : List Ver) : Prop where
  vb : ∀ v ∈ o, vb v = true
  ord : OrdB vbad o
theorem verOk_inv {l : List Ver} : verOk l = true ↔ VInv l ∧ l.length ≤ 60 := by
  unfold verOk
  rw [Bool.and_eq_true, Bool.and_eq_true, adjB_iff, List.all_eq_true, decide_eq_true_eq]
  constructor
  · rintro ⟨⟨h1, h2⟩, h3⟩
    refine ⟨⟨h1, adj_ordP (p := fun v => Go.Proofs.Ytijihchddhikhaa.vb v = true) (fun x y z hx hy hz h4 h5 => ?_) h1 h2⟩, by omega⟩
    have n1 := vb_nums hx
    have n2 := vb_nums hy
    have n3 := vb_nums hz
    rw [vbad_iff] at *
    omega
  · rintro ⟨⟨h1, h2⟩, h3⟩
    exact ⟨⟨h1, h2.adj⟩, by omega⟩
def turnsB4 (o : List Ver) (w : Wr) (t : Int) : Prop := ∀ v ∈ o, v.Key = w.Key → v.Born < t ∧ v.Died ≤ t
theorem endV_bad {k t : Int} {x y : Ver} (h : vbad x y = false) : vbad (endV k t x) (endV k t y) = false := by
  obtain ⟨_, a1, a2⟩ := endV_row k t x
  obtain ⟨_, b1, b2⟩ := endV_row k t y
  rw [vbad_iff] at *
  rw [a1, b1, b2]
  rcases h with h | ⟨h1, h2, h3⟩
  · exact .inl h
  · refine .inr ⟨h1, ?_⟩
    have : endV k t x = x := by unfold endV; rw [if_neg (fun h => h2 h.2)]
    rw [this]; exact ⟨h2, h3⟩
theorem map_end_ord {k t : Int} {o : List Ver} (h : OrdB vbad o) : OrdB vbad (o.map (endV k t)) := by
  unfold OrdB at *
  rw [List.pairwise_map]
  exact h.imp fun h => endV_bad h
theorem insW_mem {w : Wr} {t : Int} {l : List Ver} {u : Ver} : u ∈ insW w t l ↔ (∃ v ∈ l, u = endV w.Key t v) ∨ u = newV w t := by
  rw [(insW_perm w t l).mem_iff, List.mem_append, List.mem_map, List.mem_singleton]
  constructor
  · rintro (⟨v, h1, h2⟩ | h)
    · exact .inl ⟨v, h1, h2.symm⟩
    · exact .inr h
  · rintro (⟨v, h1, h2⟩ | h)
    · exact .inl ⟨v, h1, h2.symm⟩
    · exact .inr h
theorem insW_ord {w : Wr} {t : Int} (ht : 1 ≤ t) : ∀ {o : List Ver}, OrdB vbad o → turnsB4 o w t → OrdB vbad (insW w t o)
  | [], _, _ => List.pairwise_singleton _ _
  | v :: l, h, hb => by
    obtain ⟨h1, h2⟩ := List.pairwise_cons.1 h
    have hm := map_end_ord (k := w.Key) (t := t) h
    rw [insW]
    by_cases hk : v.Key > w.Key
    · rw [if_pos hk]
      refine List.pairwise_cons.2 ⟨?_, hm⟩
      intro u hu
      have hu' : u ∈ (v :: l).map (endV w.Key t) := hu
      obtain ⟨x, hx, rfl⟩ := List.mem_map.1 hu'
      rw [vbad_iff, (endV_row w.Key t x).2.1]
      left
      show w.Key < x.Key
      rcases List.mem_cons.1 hx with rfl | hx
      · omega
      · have := vbad_iff.1 (h1 x hx); omega
    · rw [if_neg hk]
      refine List.pairwise_cons.2 ⟨?_, insW_ord ht h2 (fun u hu hk => hb u (by simp [hu]) hk)⟩
      intro u hu
      rcases insW_mem.1 hu with ⟨x, hx, rfl⟩ | rfl
      · exact endV_bad (h1 x hx)
      · rw [vbad_iff, (endV_row w.Key t v).2.1]
        rcases Int.lt_or_eq_of_le (show v.Key ≤ w.Key by omega) with h3 | h3
        · exact .inl h3
        · obtain ⟨b1, b2⟩ := hb v (by simp) h3
          refine .inr ⟨h3, ?_⟩
          unfold endV newV
          by_cases hd : v.Died = 0
          · rw [if_pos ⟨h3, hd⟩]; exact ⟨show t ≠ 0 by omega, show t ≤ t by omega⟩
          · rw [if_neg (fun h => hd h.2)]; exact ⟨hd, b2⟩
theorem endV_vb {k t : Int} {v : Ver} (h : vb v = true) (hb : v.Key = k → v.Born < t ∧ v.Died ≤ t) (ht : 1 ≤ t ∧ t ≤ 40) : vb (endV k t v) = true := by
  unfold endV
  split
  · rename_i hc
    have hn := vb_nums h
    have := hb hc.1
    unfold vb keyB
    simp only [Bool.and_eq_true, Bool.or_eq_true, decide_eq_true_eq]
    exact ⟨⟨hn.1, hn.2.1⟩, ⟨hn.2.2.1, hn.2.2.2.1⟩, .inr ⟨by omega, ht.2⟩, hn.2.2.2.2.2⟩
  · exact h
theorem wb_nums {w : Wr} (h : wb w = true) : 0 ≤ w.Key ∧ w.Key ≤ 4 ∧ rowOk w.Row = true ∧ (w.Gone = true → w.Row = []) := by
  unfold wb keyB at h
  simp only [Bool.and_eq_true, decide_eq_true_eq, Bool.not_eq_true', Bool.and_eq_false_iff, decide_eq_false_iff_not] at h
  refine ⟨h.1.1, h.1.2, h.2.1, fun hg => ?_⟩
  rcases h.2.2 with h3 | h3
  · rw [hg] at h3; cases h3
  · exact List.length_eq_zero_iff.1 (by omega)
theorem put1_inv {o : List Ver} {w : Wr} {t : Int} (h : VInv o) (hw : wb w = true) (ht : 1 ≤ t ∧ t ≤ 40) (hb : turnsB4 o w t) : VInv (put1 o w t) := by
  have hwn := wb_nums hw
  constructor
  · intro u hu
    have hu := (put1_perm o w t).mem_iff.1 hu
    unfold step1 at hu
    have key : ∀ u ∈ o.map (endV w.Key t), vb u = true := by
      intro u hu
      obtain ⟨v, hv, rfl⟩ := List.mem_map.1 hu
      exact endV_vb (h.vb v hv) (hb v hv) ht
    split at hu
    · exact key u hu
    · rcases List.mem_append.1 hu with hu | hu
      · exact key u hu
      · rw [List.mem_singleton.1 hu]
        unfold vb keyB newV
        simp only [Bool.and_eq_true, Bool.or_eq_true, decide_eq_true_eq]
        exact ⟨⟨hwn.1, hwn.2.1⟩, ht, .inl trivial, hwn.2.2.1⟩
  · unfold put1
    split
    · exact map_end_ord h.ord
    · exact insW_ord ht.1 h.ord hb
theorem put1_turns {o : List Ver} {w w' : Wr} {t : Int} (hk : w.Key ≠ w'.Key) (hb : turnsB4 o w' t) : turnsB4 (put1 o w t) w' t := by
  intro u hu hk'
  have hu := (put1_perm o w t).mem_iff.1 hu
  unfold step1 at hu
  have key : ∀ u ∈ o.map (endV w.Key t), u.Key = w'.Key → u.Born < t ∧ u.Died ≤ t := by
    intro u hu hk'
    obtain ⟨v, hv, rfl⟩ := List.mem_map.1 hu
    have hvk : v.Key = w'.Key := by rw [← hk', (endV_row _ _ _).2.1]
    have : endV w.Key t v = v := by unfold endV; rw [if_neg (fun h => hk (by rw [← hvk, h.1]))]
    rw [this]; exact hb v hv hvk
  split at hu
  · exact key u hu hk'
  · rcases List.mem_append.1 hu with hu | hu
    · exact key u hu hk'
    · rw [List.mem_singleton.1 hu] at hk'; exact absurd hk' hk
/-- What writes ask for. -/
structure WInv (o : List Ver) (ws : List Wr) (t : Int) : Prop where
  inv : VInv o
  wb : ∀ w ∈ ws, wb w = true
  keys : ws.Pairwise fun x y => x.Key < y.Key
  time : 1 ≤ t ∧ t ≤ 40
  turns : ∀ w ∈ ws, turnsB4 o w t
theorem WInv.next {o : List Ver} {w : Wr} {ws : List Wr} {t : Int} (h : WInv o (w :: ws) t) : WInv (put1 o w t) ws t where
  inv := put1_inv h.inv (h.wb w (by simp)) h.time (h.turns w (by simp))
  wb := fun u hu => h.wb u (by simp [hu])
  keys := (List.pairwise_cons.1 h.keys).2
  time := h.time
  turns := fun u hu => put1_turns (by have := (List.pairwise_cons.1 h.keys).1 u hu; omega) (h.turns u (by simp [hu]))
theorem putAll_inv {t : Int} : ∀ {ws : List Wr} {o : List Ver}, WInv o ws t → VInv (putAll o ws t)
  | [], _, h => h.inv
  | w :: ws, o, h => putAll_inv (ws := ws) h.next
theorem wOk_inv {ws : List Wr} : wOk ws = true ↔ (∀ w ∈ ws, wb w = true) ∧ ws.Pairwise fun x y => x.Key < y.Key := by
  unfold wOk
  rw [Bool.and_eq_true, adjB_iff, List.all_eq_true]
  have e : OrdB wbad ws ↔ ws.Pairwise fun x y => x.Key < y.Key := by
    unfold OrdB wbad
    constructor
    · intro h; exact h.imp fun h => by rw [decide_eq_false_iff_not] at h; omega
    · intro h; exact h.imp fun h => by rw [decide_eq_false_iff_not]; omega
  constructor
  · rintro ⟨h1, h2⟩
    exact ⟨h1, e.1 (h2.ord fun x y z h3 h4 => by unfold wbad at *; rw [decide_eq_false_iff_not] at *; omega)⟩
  · rintro ⟨h1, h2⟩
    exact ⟨h1, (e.2 h2).adj⟩
theorem VInv.qv {o : List Ver} (h : VInv o) : OrdB (fun x r => decide (qv r x < 0)) o ∧ ∀ x ∈ o, ∀ y ∈ o, decide (Go.Proofs.Ytijihchddhikhaa.qv y x < 0) = false → decide (Go.Proofs.Ytijihchddhikhaa.qv x y < 0) = false → x = y := by
  have hs : o.Pairwise fun x y => x.Key < y.Key ∨ (x.Key = y.Key ∧ x.Born < y.Born) := by
    have key : ∀ l : List Ver, (∀ v ∈ l, Go.Proofs.Ytijihchddhikhaa.vb v = true) → OrdB vbad l → l.Pairwise fun x y => x.Key < y.Key ∨ (x.Key = y.Key ∧ x.Born < y.Born) := by
      intro l
      induction l with
      | nil => intro _ _; exact List.Pairwise.nil
      | cons v l ih =>
        intro hv ho
        obtain ⟨h1, h2⟩ := List.pairwise_cons.1 ho
        refine List.pairwise_cons.2 ⟨fun u hu => ?_, ih (fun u hu => hv u (by simp [hu])) h2⟩
        have := vbad_iff.1 (h1 u hu)
        have hn := vb_nums (hv v (by simp))
        omega
    exact key o h.vb h.ord
  refine ⟨hs.imp fun h => by rw [decide_eq_false_iff_not, qv_lt]; omega, ?_⟩
  intro x hx y hy h1 h2
  rw [decide_eq_false_iff_not, qv_lt] at h1 h2
  obtain ⟨i, hi, rfl⟩ := List.getElem_of_mem hx
  obtain ⟨j, hj, rfl⟩ := List.getElem_of_mem hy
  rcases Nat.lt_trichotomy i j with h3 | h3 | h3
  · have := List.pairwise_iff_getElem.1 hs i j hi hj h3; omega
  · subst h3; rfl
  · have := List.pairwise_iff_getElem.1 hs j i hj hi h3; omega
theorem E_written_inv {l : List Ver} {ws : List Wr} {t : Int} (h : WInv l ws t) (hl : l.length ≤ 10000) (hr : ∀ v ∈ l, v.Row.length ≤ 1000000) (hw : ws.length ≤ 10000) (hrw : ∀ w ∈ ws, w.Row.length ≤ 1000000) : m_impl_written l ws t = some (putAll l ws t) := by
  obtain ⟨o, p1, p2, p3⟩ := E_impl_written (t := t) hl hr hw hrw
  obtain ⟨q1, q2⟩ := (putAll_inv h).qv
  have := ord_unique ((putAll_perm t ws l l (.refl _)).trans p1.symm) q1 p2 q2
  rw [p3, this]
def fk (k : Int) (l : List Ver) : List Ver := l.filter fun v => decide (v.Key = k)
theorem seenV_fk (l : List Ver) (k t : Int) : seenV l k t = (fk k l).find? (seenP t) := by
  unfold seenV fk
  induction l with
  | nil => rfl
  | cons v l ih =>
    rw [List.find?_cons, List.filter_cons]
    by_cases h : v.Key = k
    · rw [decide_eq_true h, Bool.true_and, if_pos rfl, List.find?_cons, ih]
    · rw [decide_eq_false h, Bool.false_and, if_neg (by simp)]; exact ih
theorem fk_map {k t : Int} {l : List Ver} : fk k (l.map (endV k t)) = (fk k l).map (endV k t) := by
  unfold fk
  induction l with
  | nil => rfl
  | cons v l ih =>
    rw [List.map_cons, List.filter_cons, List.filter_cons, (endV_row k t v).2.1, ih]
    split <;> rfl
theorem fk_map_ne {k k' t : Int} {l : List Ver} (h : k ≠ k') : fk k (l.map (endV k' t)) = fk k l := by
  unfold fk
  induction l with
  | nil => rfl
  | cons v l ih =>
    rw [List.map_cons, List.filter_cons, List.filter_cons, (endV_row k' t v).2.1, ih]
    by_cases hk : v.Key = k
    · have : endV k' t v = v := by unfold endV; rw [if_neg (fun e => h (by rw [← hk, e.1]))]
      rw [this]
    · rw [decide_eq_false hk, if_neg (by simp), if_neg (by simp)]
theorem fk_none {k : Int} {l : List Ver} (h : ∀ v ∈ l, v.Key ≠ k) : fk k l = [] := List.filter_eq_nil_iff.2 fun v hv => by simp [h v hv]
theorem fk_cons_ne {k : Int} {v : Ver} {l : List Ver} (h : v.Key ≠ k) : fk k (v :: l) = fk k l := by unfold fk; rw [List.filter_cons, if_neg (by simp [h])]
theorem fk_cons_eq {k : Int} {v : Ver} {l : List Ver} (h : v.Key = k) : fk k (v :: l) = v :: fk k l := by unfold fk; rw [List.filter_cons, if_pos (by simp [h])]
theorem fk_ins_ne {w : Wr} {t k : Int} (h : w.Key ≠ k) : ∀ l : List Ver, fk k (insW w t l) = fk k l
  | [] => by rw [insW]; exact fk_cons_ne h
  | v :: l => by
    rw [insW]
    have hm := fk_map_ne (t := t) (l := v :: l) (Ne.symm h)
    split
    · rw [fk_cons_ne (show (newV w t).Key ≠ k from h)]; exact hm
    · by_cases hk : v.Key = k
      · have : endV w.Key t v = v := by unfold endV; rw [if_neg (fun e => h (by rw [← e.1, hk]))]
        rw [this, fk_cons_eq hk, fk_cons_eq hk, fk_ins_ne h l]
      · rw [fk_cons_ne (by rw [(endV_row w.Key t v).2.1]; exact hk), fk_cons_ne hk, fk_ins_ne h l]
theorem fk_ins_eq {w : Wr} {t : Int} : ∀ {l : List Ver}, OrdB vbad l → fk w.Key (insW w t l) = (fk w.Key l).map (endV w.Key t) ++ [newV w t]
  | [], _ => by rw [insW, fk_cons_eq (show (newV w t).Key = w.Key from rfl)]; rfl
  | v :: l, h => by
    obtain ⟨h1, h2⟩ := List.pairwise_cons.1 h
    rw [insW]
    by_cases hk : v.Key > w.Key
    · have hne : ∀ u ∈ v :: l, u.Key ≠ w.Key := by
        intro u hu
        rcases List.mem_cons.1 hu with rfl | hu
        · omega
        · have := vbad_iff.1 (h1 u hu); omega
      rw [if_pos hk, fk_cons_eq (show (newV w t).Key = w.Key from rfl), fk_none hne]
      have : fk w.Key (endV w.Key t v :: l.map (endV w.Key t)) = [] := fk_none fun u hu => by
        have hu' : u ∈ (v :: l).map (endV w.Key t) := hu
        obtain ⟨x, hx, rfl⟩ := List.mem_map.1 hu'
        rw [(endV_row _ _ _).2.1]; exact hne x hx
      rw [this]; rfl
    · rw [if_neg hk]
      by_cases he : v.Key = w.Key
      · rw [fk_cons_eq (by rw [(endV_row w.Key t v).2.1]; exact he), fk_cons_eq he, fk_ins_eq h2]; rfl
      · rw [fk_cons_ne (by rw [(endV_row w.Key t v).2.1]; exact he), fk_cons_ne he, fk_ins_eq h2]
theorem fk_put1_ne {o : List Ver} {w : Wr} {t k : Int} (h : w.Key ≠ k) : fk k (put1 o w t) = fk k o := by
  unfold put1; split
  · exact fk_map_ne (Ne.symm h)
  · exact fk_ins_ne h o
theorem fk_put1_eq {o : List Ver} {w : Wr} {t : Int} (h : OrdB vbad o) : fk w.Key (put1 o w t) = (fk w.Key o).map (endV w.Key t) ++ (if w.Gone then [] else [newV w t]) := by
  unfold put1; split
  · rw [fk_map]; simp
  · exact fk_ins_eq h
theorem fk_putAll_ne {t k : Int} : ∀ {ws : List Wr} {o : List Ver}, (∀ w ∈ ws, w.Key ≠ k) → fk k (putAll o ws t) = fk k o
  | [], _, _ => rfl
  | w :: ws, o, h => (fk_putAll_ne (ws := ws) (o := put1 o w t) fun u hu => h u (by simp [hu])).trans (fk_put1_ne (h w (by simp)))
theorem fk_putAll_eq {t : Int} {w : Wr} : ∀ {ws : List Wr} {o : List Ver}, WInv o ws t → w ∈ ws → fk w.Key (putAll o ws t) = (fk w.Key o).map (endV w.Key t) ++ (if w.Gone then [] else [newV w t])
  | [], _, _, hm => by cases hm
  | u :: ws, o, h, hm => by
    have hks := (List.pairwise_cons.1 h.keys).1
    have e : putAll o (u :: ws) t = putAll (put1 o u t) ws t := rfl
    rw [e]
    rcases List.mem_cons.1 hm with rfl | hm
    · rw [fk_putAll_ne (fun x hx => by have := hks x hx; omega), fk_put1_eq h.inv.ord]
    · rw [fk_putAll_eq h.next hm, fk_put1_ne (by have := hks w hm; omega)]
theorem find_end {k t t' : Int} (h : t' < t) : ∀ l : List Ver, ((l.map (endV k t)).find? (seenP t')).map (·.Row) = (l.find? (seenP t')).map (·.Row)
  | [] => rfl
  | v :: l => by
    rw [List.map_cons, List.find?_cons, List.find?_cons]
    have hp : seenP t' (endV k t v) = seenP t' v := by
      unfold seenP endV
      split
      · rename_i hc
        rw [decide_eq_true hc.2, Bool.true_or]
        show (decide (v.Born ≤ t') && (decide (t = 0) || decide (t > t'))) = _
        rw [decide_eq_true h, Bool.or_true]
      · rfl
    rw [hp]
    cases seenP t' v with
    | true => simp [(endV_row k t v).1]
    | false => exact find_end h l
/-- At times ahead of the writes all is seen as it was. -/
theorem seen_before {o : List Ver} {ws : List Wr} {t t' : Int} (h : WInv o ws t) (ht : t' < t) (k : Int) : (seenV (putAll o ws t) k t').map (·.Row) = (seenV o k t').map (·.Row) := by
  rw [seenV_fk, seenV_fk]
  by_cases hw : ∃ w ∈ ws, w.Key = k
  · obtain ⟨w, hm, rfl⟩ := hw
    rw [fk_putAll_eq h hm, List.find?_append]
    have hn : (if w.Gone then ([] : List Ver) else [newV w t]).find? (seenP t') = none := by
      split
      · rfl
      · rw [List.find?_cons]
        have : seenP t' (newV w t) = false := by unfold seenP newV; rw [decide_eq_false (show ¬ t ≤ t' by omega), Bool.false_and]
        rw [this]; rfl
    rw [hn, Option.or_none, find_end ht]
  · rw [fk_putAll_ne fun w hm e => hw ⟨w, hm, e⟩]
theorem odd_0 (o : Rd) : m_Pspec_l20Rd_odd o 0 = some (false, o) := by
  unfold m_Pspec_l20Rd_odd m_Pspec_l20Rd_odd_j1
  rw [show decide ((0 : Int) > 0) = false from rfl, cond_false]
theorem T_l20Small {o : Rd} (ho : 0 ≤ o.p ∧ o.p ≤ 1000000000) : Tot (m_spec_l20Small o) fun r => (rowOk r.1 = true ∧ rDr r.1) ∧ o.p ≤ r.2.p ∧ r.2.p ≤ o.p + 1 := by
  unfold m_spec_l20Small
  refine Tot.bind (T_pick ho) fun x hx => Tot.ret ⟨⟨?_, by show [_].length ≤ 9; simp, fun v hv => ?_⟩, by show o.p ≤ x.2.p; omega, by show x.2.p ≤ o.p + 1; omega⟩
  · unfold rowOk vOk
    simp
    omega
  · have hv : v ∈ [(⟨1, x.1, ⟨#[]⟩⟩ : V)] := hv
    rw [List.mem_singleton.1 hv]
    exact ⟨Nat.zero_le _, by show -10000 ≤ x.1; omega, by show x.1 ≤ 10000; omega, by show (-10 : Int) ≤ 1; omega, by show (1 : Int) ≤ 10; omega⟩
theorem T_l20Any {o : Rd} {n : Int} (ho : 0 ≤ o.p ∧ o.p ≤ 1000000000 - 2000) (hn : -1000000 ≤ n ∧ n ≤ 1000000) : Tot (m_spec_l20Any o n) fun r => rDr r.1 ∧ o.p ≤ r.2.p ∧ r.2.p ≤ o.p + 100 := by
  unfold m_spec_l20Any
  refine Tot.bind (T_l20Columns (by omega) (by omega)) fun c hc => Tot.bind (T_l20Fit (by omega) hn (by omega)) fun r hr => Tot.ret ⟨hr.1, by show o.p ≤ r.2.p; omega, by show r.2.p ≤ o.p + 100; omega⟩
def wsDr (ws : List Wr) : Prop := ws.length ≤ 6 ∧ ∀ w ∈ ws, rDr w.Row
theorem T_l20Writes {o : Rd} {n : Int} (ho : 0 ≤ o.p ∧ o.p ≤ 1000000000 - 10000) (hn : -1000000 ≤ n ∧ n ≤ 1000000) : Tot (m_spec_l20Writes o n) fun r => (wsDr r.1 ∧ (n = 0 → wOk r.1 = true)) ∧ o.p ≤ r.2.p ∧ r.2.p ≤ o.p + 200 := by
  unfold m_spec_l20Writes
  refine Tot.up 5 (fun f t (s : Rd × List Wr) => m_spec_l20Writes_l1 f n t s.1 s.2) (fun t s => o.p ≤ s.1.p ∧ s.1.p ≤ o.p + 3 * t ∧ (s.2.length : Int) ≤ t ∧ (∀ w ∈ s.2, wb w = true ∧ w.Key < t ∧ rDr w.Row) ∧ s.2.Pairwise fun x y => x.Key < y.Key) (fun f s h => ?_) (fun f t s h0 ht h ih => ?_) _ 0 (o, []) (by omega) (by omega) (by decide) ⟨by show o.p ≤ o.p; omega, by show o.p ≤ o.p + 3 * 0; omega, by simp, by simp, List.Pairwise.nil⟩
  · obtain ⟨g1, g2, g3, g4, g5⟩ := h
    rw [m_spec_l20Writes_l1, decide_eq_false (by omega), cond_false]
    unfold m_spec_l20Writes_j3 m_spec_l20Writes_j4
    have ws : wsDr s.2 := ⟨by omega, fun w hw => (g4 w hw).2.2⟩
    have add : ∀ w : Wr, rDr w.Row → wsDr (s.2 ++ [w]) := fun w hw => ⟨by simp; omega, fun u hu => by
      rcases List.mem_append.1 hu with hu | hu
      · exact (g4 u hu).2.2
      · rw [List.mem_singleton.1 hu]; exact hw⟩
    rcases Int.lt_or_eq_of_le (show s.1.p ≤ o.p + 15 by omega) with hp | hp <;>
    · by_cases hn0 : n = 0
      · subst hn0
        rw [odd_0, Option.bind_some, cond_false]
        exact Tot.ret ⟨⟨ws, fun _ => wOk_inv.2 ⟨fun w hw => (g4 w hw).1, g5⟩⟩, by show o.p ≤ s.1.p; omega, by show s.1.p ≤ o.p + 200; omega⟩
      · refine Tot.bind (T_odd (by omega) hn) fun q hq => Tot.bif (fun _ => ?_) (fun _ => Tot.ret ⟨⟨ws, fun h => absurd h hn0⟩, by show o.p ≤ q.2.p; omega, by show q.2.p ≤ o.p + 200; omega⟩)
        refine Tot.bind (T_pick (by omega)) fun x hx => Tot.bif (fun _ => ?_) (fun _ => Tot.bif (fun _ => ?_) (fun _ => ?_))
        · exact Tot.bind (T_pick (by omega)) fun y hy => Tot.ck (by omega) (by omega) (Tot.app (by simp; omega) (Tot.ret ⟨⟨add _ ⟨by show ([] : Row).length ≤ 9; simp, by intro v hv; cases hv⟩, fun h => absurd h hn0⟩, by show o.p ≤ y.2.p; omega, by show y.2.p ≤ o.p + 200; omega⟩))
        · exact Tot.bind (T_l20Small (by omega)) fun y hy => Tot.app (by simp; omega) (Tot.ret ⟨⟨add _ hy.1.2, fun h => absurd h hn0⟩, by show o.p ≤ y.2.p; omega, by show y.2.p ≤ o.p + 200; omega⟩)
        · exact Tot.bind (T_l20Any (by omega) (by omega)) fun y hy => Tot.app (by simp; omega) (Tot.ret ⟨⟨add _ hy.1, fun h => absurd h hn0⟩, by show o.p ≤ y.2.p; omega, by show y.2.p ≤ o.p + 200; omega⟩)
  · obtain ⟨g1, g2, g3, g4, g5⟩ := h
    rw [m_spec_l20Writes_l1, decide_eq_true ht, cond_true]
    have put : ∀ (r : Rd) (w : Wr), s.1.p ≤ r.p → r.p ≤ s.1.p + 3 → w.Key = t → wb w = true → rDr w.Row → Tot (m_spec_l20Writes_j1 (m_spec_l20Writes_l1 f) n t r w s.2) fun r => (wsDr r.1 ∧ (n = 0 → wOk r.1 = true)) ∧ o.p ≤ r.2.p ∧ r.2.p ≤ o.p + 200 := by
      intro r w h1 h2 h3 h4 h5
      unfold m_spec_l20Writes_j1 m_spec_l20Writes_j2
      refine Tot.app (by simp; omega) (Tot.ck (by omega) (by omega) (ih (r, s.2 ++ [w]) ⟨by show o.p ≤ r.p; omega, by show r.p ≤ o.p + 3 * (t + 1); omega, by simp; omega, fun u hu => ?_, ?_⟩))
      · rcases List.mem_append.1 hu with hu | hu
        · obtain ⟨a, b, c⟩ := g4 u hu; exact ⟨a, by omega, c⟩
        · rw [List.mem_singleton.1 hu]; exact ⟨h4, by omega, h5⟩
      · refine List.pairwise_append.2 ⟨g5, List.pairwise_singleton _ _, fun x hx y hy => ?_⟩
        rw [List.mem_singleton.1 hy]; have := (g4 x hx).2.1; omega
    refine Tot.bind (T_pick (by omega)) fun x hx => Tot.bif (fun _ => Tot.lt ?_) (fun _ => ?_)
    · refine Tot.bind (T_pick (by omega)) fun y hy => Tot.bif (fun _ => Tot.lt ?_) (fun _ => ?_)
      · refine put y.2 _ (by omega) (by omega) rfl ?_ ⟨by show ([] : Row).length ≤ 9; simp, by intro v hv; cases hv⟩
        unfold wb keyB
        simp [rowOk]; omega
      · refine Tot.bind (T_l20Small (by omega)) fun z hz => Tot.lt ?_
        refine put z.2 _ (by omega) (by omega) rfl ?_ hz.1.2
        unfold wb keyB
        simp [hz.1.1]; omega
    · unfold m_spec_l20Writes_j2
      exact Tot.ck (by omega) (by omega) (ih (x.2, s.2) ⟨by show o.p ≤ x.2.p; omega, by show x.2.p ≤ o.p + 3 * (t + 1); omega, by show (s.2.length : Int) ≤ t + 1; omega, fun u hu => by obtain ⟨a, b, c⟩ := g4 u hu; exact ⟨a, by omega, c⟩, g5⟩)
theorem wsDr_sm {l : List Wr} (h : wsDr l) : l.length ≤ 6 ∧ ∀ v ∈ l, rSm v.Row := ⟨h.1, fun v hv => rDr_sm (h.2 v hv)⟩
theorem runUp {R : Type} (L : Nat → Int → Option R) (m : Nat) (F : Option R) (hs : ∀ n (k : Nat), k < m → L (n + 1) (k : Int) = L n ((k + 1 : Nat) : Int)) (he : ∀ n, L (n + 1) (m : Int) = F) (n : Nat) (hn : m < n) : L n 0 = F := by
  have key : ∀ (d k n : Nat), k + d = m → d < n → L n (k : Int) = F := by
    intro d
    induction d with
    | zero =>
      intro k n hk hn
      obtain ⟨n, rfl⟩ : ∃ q, n = q + 1 := ⟨n - 1, by omega⟩
      obtain rfl : k = m := by omega
      exact he n
    | succ d ih =>
      intro k n hk hn
      obtain ⟨n, rfl⟩ : ∃ q, n = q + 1 := ⟨n - 1, by omega⟩
      rw [hs n k (by omega)]
      exact ih (k + 1) n (by omega) (by omega)
  exact key m 0 n (by omega) hn
theorem rows_eq {a b : List Ver} {t : Int} (ha : verOk a = true) (hb : verOk b = true) (h : ∀ k, (seenV a k t).map (·.Row) = (seenV b k t).map (·.Row)) : rowsAt a t = rowsAt b t := by
  unfold rowsAt
  rw [if_pos ha, if_pos hb]
  congr 1
  funext k
  exact h k
abbrev En := S_impl_Entry
def eb (e : En) : Bool := (decide (1 ≤ e.Time) && decide (e.Time ≤ 40)) && wOk e.Writes
def ebad (x y : En) : Bool := decide (x.Time ≥ y.Time)
def logOk (l : List En) : Bool := l.all eb && adjB ebad l && decide ((l.length : Int) ≤ 12)
def wsSm (ws : List Wr) : Prop := ws.length ≤ 1000 ∧ ∀ w ∈ ws, rSm w.Row
def enSm (l : List En) : Prop := l.length ≤ 10000 ∧ ∀ e ∈ l, wsSm e.Writes
theorem E_impl_LogOk {l : List En} (h : enSm l) : m_impl_LogOk l = some (logOk l) := by
  unfold m_impl_LogOk logOk
  obtain ⟨hl, hr⟩ := h
  have stop : ∀ n (k : Int), m_impl_LogOk_j1 (m_impl_LogOk_l1 n) l l (l.length : Int) k true = some false := fun n k => by unfold m_impl_LogOk_j1; rw [cond_true]
  have next : ∀ n (k : Nat), k < l.length → m_impl_LogOk_j1 (m_impl_LogOk_l1 n) l l (l.length : Int) (k : Int) false = m_impl_LogOk_l1 n l l (l.length : Int) ((k + 1 : Nat) : Int) := fun n k hk => by unfold m_impl_LogOk_j1; rw [cond_false, ck1 (by omega), Option.bind_some, natS]
  refine scanPrev (p := eb) (bad := ebad) l (fun n k => m_impl_LogOk_l1 n l l (l.length : Int) k) (fun n x hx => ?_) (fun n k x y hx hy hp => ?_) (fun n => ?_) _ fuel0
  · have hlt := lt_of_at hx
    have hw := hr x (List.mem_of_getElem? hx)
    show m_impl_LogOk_l1 (n + 1) l l (l.length : Int) ((0 : Nat) : Int) = _
    rw [m_impl_LogOk_l1, dlt hlt, cond_true, at_of hx, Option.bind_some, ltE, E_between, Option.bind_some]
    unfold eb
    cases (decide (1 ≤ x.Time) && decide (x.Time ≤ 40)) with
    | false => rw [Bool.not_false, cond_true, stop, Bool.false_and, cond_false]
    | true =>
      rw [Bool.not_true, cond_false, dgt00, cond_false, E_impl_WritesOk (by have := hw.1; omega) hw.2, Option.bind_some, Bool.true_and]
      cases wOk x.Writes with
      | false => rw [Bool.not_false, stop, cond_false]
      | true => rw [Bool.not_true, next n 0 hlt, cond_true]; rfl
  · have hlt := lt_of_at hx
    have hw := hr x (List.mem_of_getElem? hx)
    rw [m_impl_LogOk_l1, dlt hlt, cond_true, at_of hx, Option.bind_some, ltE, E_between, Option.bind_some]
    unfold eb ebad
    cases (decide (1 ≤ x.Time) && decide (x.Time ≤ 40)) with
    | false => rw [Bool.not_false, cond_true, stop, Bool.false_and, Bool.false_and, cond_false]
    | true =>
      rw [Bool.not_true, cond_false, dgt0, cond_true, ckdd (by omega), Option.bind_some, at_of hy, Option.bind_some, Bool.true_and]
      by_cases hb : y.Time ≥ x.Time
      · rw [decide_eq_true hb, cond_true, stop, Bool.not_true, Bool.and_false, cond_false]
      · rw [decide_eq_false hb, cond_false, E_impl_WritesOk (by have := hw.1; omega) hw.2, Option.bind_some, Bool.not_false, Bool.and_true]
        cases wOk x.Writes with
        | false => rw [Bool.not_false, stop, cond_false]
        | true => rw [Bool.not_true, next n (k + 1) hlt, cond_true]
  · rw [m_impl_LogOk_l1, dnlt, cond_false, m_impl_LogOk_j2]
theorem E_spec_LogOk {l : List En} (h : enSm l) : m_spec_LogOk l = some (logOk l) := by
  unfold m_spec_LogOk logOk
  obtain ⟨hl, hr⟩ := h
  have stop : ∀ n (k : Int), m_spec_LogOk_j1 (m_spec_LogOk_l1 n) l k true = some false := fun n k => by unfold m_spec_LogOk_j1; rw [cond_true]
  have next : ∀ n (k : Nat), k < l.length → m_spec_LogOk_j1 (m_spec_LogOk_l1 n) l (k : Int) false = m_spec_LogOk_l1 n l ((k + 1 : Nat) : Int) := fun n k hk => by unfold m_spec_LogOk_j1; rw [cond_false, ck1 (by omega), Option.bind_some, natS]
  refine scanPrev (p := eb) (bad := ebad) l (fun n k => m_spec_LogOk_l1 n l k) (fun n x hx => ?_) (fun n k x y hx hy hp => ?_) (fun n => ?_) _ fuel0
  · have hlt := lt_of_at hx
    have hw := hr x (List.mem_of_getElem? hx)
    show m_spec_LogOk_l1 (n + 1) l ((0 : Nat) : Int) = _
    rw [m_spec_LogOk_l1, dlt hlt, cond_true, at_of hx, Option.bind_some, E_l1In, Option.bind_some]
    unfold eb
    cases (decide (1 ≤ x.Time) && decide (x.Time ≤ 40)) with
    | false => rw [Bool.not_false, cond_true, stop, Bool.false_and, cond_false]
    | true =>
      rw [Bool.not_true, cond_false, Option.bind_some, E_spec_WritesOk (by have := hw.1; omega) hw.2, Option.bind_some, Bool.true_and]
      cases wOk x.Writes with
      | false => rw [Bool.not_false, cond_true, stop, cond_false]
      | true => rw [Bool.not_true, cond_false, dgt00, cond_false, next n 0 hlt, cond_true]; rfl
  · have hlt := lt_of_at hx
    have hw := hr x (List.mem_of_getElem? hx)
    rw [m_spec_LogOk_l1, dlt hlt, cond_true, at_of hx, Option.bind_some, E_l1In, Option.bind_some]
    unfold eb ebad
    cases (decide (1 ≤ x.Time) && decide (x.Time ≤ 40)) with
    | false => rw [Bool.not_false, cond_true, stop, Bool.false_and, Bool.false_and, cond_false]
    | true =>
      rw [Bool.not_true, cond_false, Option.bind_some, E_spec_WritesOk (by have := hw.1; omega) hw.2, Option.bind_some, Bool.true_and]
      cases wOk x.Writes with
      | false => rw [Bool.not_false, cond_true, stop, Bool.false_and, cond_false]
      | true =>
        rw [Bool.not_true, cond_false, dgt0, cond_true, ckdd (by omega), Option.bind_some, at_of hy, Option.bind_some, Option.bind_some, Bool.true_and]
        by_cases hb : y.Time ≥ x.Time
        · rw [decide_eq_true hb, stop, Bool.not_true, cond_false]
        · rw [decide_eq_false hb, next n (k + 1) hlt, Bool.not_false, cond_true]
  · rw [m_spec_LogOk_l1, dnlt, cond_false, m_spec_LogOk_j2]
theorem E_logCopy {l : List En} (h : enSm l) : m_impl_logCopy l = some l := by
  unfold m_impl_logCopy
  obtain ⟨hl, hr⟩ := h
  have := scanM (f := fun v : En => v) (J := fun o => m_impl_logCopy_j1 o) l (fun n k o => m_impl_logCopy_l1 n l (l.length : Int) k o) (fun n k x o hx ho => by
    have hlt := lt_of_at hx
    have hw := hr x (List.mem_of_getElem? hx)
    rw [m_impl_logCopy_l1, dlt hlt, cond_true, at_of hx, Option.bind_some, ltE, E_writesCopy (by have := hw.1; omega) (fun v hv => by have := (hw.2 v hv).1; omega), Option.bind_some, app_of (by simp; omega), Option.bind_some, ck1 (by omega), Option.bind_some]) (fun n o ho => by
    rw [m_impl_logCopy_l1, dnlt, cond_false]) _ fuel0
  rw [this, List.map_id']
  unfold m_impl_logCopy_j1
  rw [L_slices_Clip_Limpl_Entry_impl_Entry_o, Option.bind_some]
theorem E_l18Copy {l : List En} (h : enSm l) : m_spec_l18Copy l = some l := by
  unfold m_spec_l18Copy
  obtain ⟨hl, hr⟩ := h
  have := scanM (f := fun v : En => v) (J := fun o => m_spec_l18Copy_j1 o) l (fun n k o => m_spec_l18Copy_l1 n l k o) (fun n k x o hx ho => by
    have hlt := lt_of_at hx
    have hw := hr x (List.mem_of_getElem? hx)
    rw [m_spec_l18Copy_l1, dlt hlt, cond_true, at_of hx, Option.bind_some, Option.bind_some, E_l14Writes (by have := hw.1; omega) (fun v hv => by have := (hw.2 v hv).1; omega), Option.bind_some, app_of (by simp; omega), Option.bind_some, ck1 (by omega), Option.bind_some]) (fun n o ho => by
    rw [m_spec_l18Copy_l1, dnlt, cond_false]) _ fuel0
  rw [this, List.map_id']
  rfl
theorem E_sameLog {a b : List En} (h : enSm a) : m_laws_sameLog a b = some (decide (a = b)) := by
  unfold m_laws_sameLog
  obtain ⟨hl, hr⟩ := h
  by_cases h : a.length = b.length
  · rw [lenEq h, cond_false]
    refine scanEq h (fun n k => m_laws_sameLog_l1 n a b k) (fun n k x y hx hy => ?_) (fun n => by rw [m_laws_sameLog_l1, dnlt, cond_false, m_laws_sameLog_j2]) _ fuel0
    have hlt := lt_of_at hx
    have hw := hr x (List.mem_of_getElem? hx)
    have stop : m_laws_sameLog_j1 (m_laws_sameLog_l1 n) a b (k : Int) true = some false := by unfold m_laws_sameLog_j1; rw [cond_true]
    have next : m_laws_sameLog_j1 (m_laws_sameLog_l1 n) a b (k : Int) false = m_laws_sameLog_l1 n a b ((k : Int) + 1) := by unfold m_laws_sameLog_j1; rw [cond_false, ck1 (by omega), Option.bind_some]
    rw [m_laws_sameLog_l1, dlt hlt, cond_true, at_of hx, Option.bind_some, at_of hy, Option.bind_some]
    by_cases h1 : x.Time = y.Time
    · rw [neF h1, cond_false, Option.bind_some, Option.bind_some, E_sameWrites (by have := hw.1; omega) (fun v hv => by have := (hw.2 v hv).1; omega), Option.bind_some]
      by_cases h4 : x.Writes = y.Writes
      · have : x = y := by cases x; cases y; simp_all
        rw [decide_eq_true h4, Bool.not_true, next, decide_eq_true this, cond_true]
      · rw [decide_eq_false h4, Bool.not_false, stop, decide_eq_false (fun e => h4 (by rw [e])), cond_false]
    · rw [beqF' h1, cond_true, stop, decide_eq_false (fun e => h1 (by rw [e])), cond_false]
  · rw [(lenNe h).1, cond_true, (lenNe h).2]
def runL (o : List Ver) (l : List En) : List Ver := l.foldl (fun o e => putAll o e.Writes e.Time) o
theorem putAll_times {T : Int} (hT : 0 ≤ T) : ∀ (ws : List Wr) (l : List Ver), (∀ v ∈ l, v.Born ≤ T ∧ v.Died ≤ T) → ∀ v ∈ putAll l ws T, v.Born ≤ T ∧ v.Died ≤ T := by
  intro ws
  induction ws with
  | nil => intro l h; exact h
  | cons u ws ihw =>
    intro l h
    refine ihw (put1 l u T) fun v hv => ?_
    have hv := (put1_perm l u T).mem_iff.1 hv
    unfold step1 at hv
    have k2 : ∀ v ∈ l.map (endV u.Key T), v.Born ≤ T ∧ v.Died ≤ T := by
      intro v hv
      obtain ⟨z, hz, rfl⟩ := List.mem_map.1 hv
      unfold endV
      split
      · exact ⟨(h z hz).1, show T ≤ T by omega⟩
      · exact h z hz
    split at hv
    · exact k2 v hv
    · rcases List.mem_append.1 hv with hv | hv
      · exact k2 v hv
      · rw [List.mem_singleton.1 hv]; exact ⟨show T ≤ T by omega, hT⟩
structure RI (o : List Ver) (T : Int) : Prop where
  inv : VInv o
  times : ∀ v ∈ o, v.Born ≤ T ∧ v.Died ≤ T
  rows : ∀ v ∈ o, rSm v.Row
theorem RI.w {o : List Ver} {T : Int} {e : En} (h : RI o T) (he : eb e = true) (ht : T < e.Time) : WInv o e.Writes e.Time := by
  unfold eb at he
  simp only [Bool.and_eq_true, decide_eq_true_eq] at he
  obtain ⟨w1, w2⟩ := wOk_inv.1 he.2
  exact ⟨h.inv, w1, w2, he.1, fun w _ v hv _ => by have := h.times v hv; omega⟩
theorem RI.step {o : List Ver} {T : Int} {e : En} (h : RI o T) (he : eb e = true) (ht : T < e.Time) (hw : wsSm e.Writes) : RI (putAll o e.Writes e.Time) e.Time :=
  ⟨putAll_inv (h.w he ht), putAll_times (by have := (h.w he ht).time; omega) _ _ fun v hv => by have := h.times v hv; omega, putAll_rows h.rows hw.2⟩
/-- Entries that follow a time, and each other. -/
structure Seq (T : Int) (l : List En) : Prop where
  ok : ∀ e ∈ l, eb e = true ∧ wsSm e.Writes ∧ T < e.Time
  asc : l.Pairwise fun x y => x.Time < y.Time
theorem Seq.tail {T : Int} {e : En} {l : List En} (h : Seq T (e :: l)) : Seq e.Time l := ⟨fun x hx => ⟨(h.ok x (by simp [hx])).1, (h.ok x (by simp [hx])).2.1, (List.pairwise_cons.1 h.asc).1 x hx⟩, (List.pairwise_cons.1 h.asc).2⟩
theorem eb_len {e : En} (h : eb e = true) : e.Writes.length ≤ 5 := by
  unfold eb at h
  simp only [Bool.and_eq_true] at h
  exact adj_len h.2
theorem run_inv : ∀ {l : List En} {o : List Ver} {T : Int}, RI o T → Seq T l → (∃ T', RI (runL o l) T') ∧ (runL o l).length ≤ o.length + 5 * l.length
  | [], o, T, h, _ => ⟨⟨T, h⟩, by simp [runL]⟩
  | e :: l, o, T, h, hs => by
    obtain ⟨h1, h2, h3⟩ := hs.ok e (by simp)
    obtain ⟨g1, g2⟩ := run_inv (h.step h1 h3 h2) hs.tail
    have := putAll_len e.Time e.Writes o
    have := eb_len h1
    refine ⟨g1, ?_⟩
    have e1 : runL o (e :: l) = runL (putAll o e.Writes e.Time) l := rfl
    rw [e1, List.length_cons]; omega
theorem run_seen {t : Int} (k : Int) : ∀ {l : List En} {o : List Ver} {T : Int}, RI o T → Seq T l → (∀ e ∈ l, t < e.Time) → (seenV (runL o l) k t).map (·.Row) = (seenV o k t).map (·.Row)
  | [], _, _, _, _, _ => rfl
  | e :: l, o, T, h, hs, ht => by
    obtain ⟨h1, h2, h3⟩ := hs.ok e (by simp)
    have e1 : runL o (e :: l) = runL (putAll o e.Writes e.Time) l := rfl
    rw [e1, run_seen k (h.step h1 h3 h2) hs.tail (fun x hx => ht x (by simp [hx])), seen_before (h.w h1 h3) (ht e (by simp)) k]
theorem RI.nil : RI [] 0 := ⟨⟨by simp, List.Pairwise.nil⟩, by simp, by simp⟩
theorem logOk_seq {l : List En} (h : logOk l = true) (hs : enSm l) : Seq 0 l ∧ l.length ≤ 12 := by
  unfold logOk at h
  rw [Bool.and_eq_true, Bool.and_eq_true, adjB_iff, List.all_eq_true, decide_eq_true_eq] at h
  obtain ⟨⟨h1, h2⟩, h3⟩ := h
  refine ⟨⟨fun e he => ⟨h1 e he, hs.2 e he, ?_⟩, ?_⟩, by omega⟩
  · have := h1 e he
    unfold eb at this
    simp only [Bool.and_eq_true, decide_eq_true_eq] at this
    omega
  · have := h2.ord (fun x y z a b => by unfold ebad at *; rw [decide_eq_false_iff_not] at *; omega)
    exact this.imp fun h => by unfold ebad at h; rw [decide_eq_false_iff_not] at h; omega
theorem seq_logOk {l : List En} (h : Seq 0 l) (hl : l.length ≤ 12) : logOk l = true := by
  unfold logOk
  rw [Bool.and_eq_true, Bool.and_eq_true, adjB_iff, List.all_eq_true, decide_eq_true_eq]
  refine ⟨⟨fun e he => (h.ok e he).1, OrdB.adj (h.asc.imp fun h => by unfold ebad; rw [decide_eq_false_iff_not]; omega)⟩, by omega⟩
theorem Seq.take {T : Int} {l : List En} (h : Seq T l) (n : Nat) : Seq T (l.take n) := ⟨fun e he => h.ok e (List.mem_of_mem_take he), List.Pairwise.sublist (List.take_sublist _ _) h.asc⟩
def logRun (l : List En) : List Ver := if logOk l then runL [] l else []
theorem E_impl_LogRun {l : List En} (h : enSm l) : m_impl_LogRun l = some (logRun l) := by
  unfold m_impl_LogRun logRun
  rw [E_impl_LogOk h, Option.bind_some]
  cases hok : logOk l with
  | false => rfl
  | true =>
    rw [Bool.not_true, cond_false, if_pos rfl]
    obtain ⟨hs, hl⟩ := logOk_seq hok h
    unfold m_impl_logRun
    have key : ∀ (rest pre : List En) (o : List Ver) (T : Int) (n : Nat), l = pre ++ rest → rest.length < n → RI o T → Seq T rest → o.length ≤ 5 * pre.length → m_impl_logRun_l1 n o l (l.length : Int) (pre.length : Int) = some (runL o rest) := by
      intro rest
      induction rest with
      | nil =>
        intro pre o T n hp hn hI _ ho
        obtain ⟨n, rfl⟩ : ∃ q, n = q + 1 := ⟨n - 1, by omega⟩
        have : pre.length = l.length := by rw [hp]; simp
        rw [this] at ho ⊢
        rw [m_impl_logRun_l1, dnlt, cond_false]
        unfold m_impl_logRun_j1
        rw [E_versionsCopy (by omega) (fun v hv => by have := (hI.rows v hv).1; omega), Option.bind_some]; rfl
      | cons e rest ih =>
        intro pre o T n hp hn hI hq ho
        obtain ⟨n, rfl⟩ : ∃ q, n = q + 1 := ⟨n - 1, by omega⟩
        obtain ⟨h1, h2, h3⟩ := hq.ok e (by simp)
        have hx : l[pre.length]? = some e := by rw [hp]; simp
        have hlt := lt_of_at hx
        have h5 := eb_len h1
        have hpl := putAll_len e.Time e.Writes o
        rw [m_impl_logRun_l1, dlt hlt, cond_true, at_of hx, Option.bind_some, ltE, E_written_inv (hI.w h1 h3) (by omega) (fun v hv => by have := (hI.rows v hv).1; omega) (by omega) (fun v hv => by have := (h2.2 v hv).1; omega), Option.bind_some, ck1 (by omega), Option.bind_some]
        have := ih (pre ++ [e]) (putAll o e.Writes e.Time) e.Time n (by rw [hp]; simp) (by simp at hn; omega) (hI.step h1 h3 h2) hq.tail (by simp; omega)
        rw [List.length_append, List.length_singleton] at this
        rw [natS, this]; rfl
    have := key l [] [] 0 (((l.length : Int) - 0).toNat + 1) rfl fuel0 RI.nil hs (by simp)
    have e0 : (([] : List En).length : Int) = 0 := rfl
    rw [e0] at this
    rw [this, Option.bind_some]
theorem logRun_ok {l : List En} (h : enSm l) : verOk (logRun l) = true ∧ (logRun l).length ≤ 60 ∧ ∀ v ∈ logRun l, rSm v.Row := by
  unfold logRun
  cases hok : logOk l with
  | false => exact ⟨rfl, by simp, by simp⟩
  | true =>
    obtain ⟨hs, hl⟩ := logOk_seq hok h
    obtain ⟨⟨T, hI⟩, hn⟩ := run_inv RI.nil hs
    simp only [List.length_nil] at hn
    rw [if_pos rfl]
    exact ⟨verOk_inv.2 ⟨hI.inv, by omega⟩, by omega, hI.rows⟩
/-- A beginning of a log has the rows up to what follows. -/
theorem prefix_rows {a b : List En} {t : Int} (h : logOk (a ++ b) = true) (hs : enSm (a ++ b)) (ht : ∀ e ∈ b, t < e.Time) : logOk a = true ∧ rowsAt (logRun a) t = rowsAt (logRun (a ++ b)) t := by
  obtain ⟨hq, hl⟩ := logOk_seq h hs
  rw [List.length_append] at hl
  have hqa : Seq 0 a := by have := hq.take a.length; rwa [List.take_left] at this
  have hsa : enSm a := ⟨by have := hs.1; simp at this; omega, fun e he => hs.2 e (by simp [he])⟩
  have hoa := seq_logOk hqa (by omega)
  refine ⟨hoa, rows_eq (logRun_ok hsa).1 (logRun_ok hs).1 fun k => ?_⟩
  unfold logRun
  rw [if_pos hoa, if_pos h]
  have e : runL [] (a ++ b) = runL (runL [] a) b := by unfold runL; rw [List.foldl_append]
  rw [e]
  -- the state behind a
  have key : ∀ (a b : List En) (o : List Ver) (T : Int), RI o T → Seq T (a ++ b) → ∃ T', RI (runL o a) T' ∧ Seq T' b := by
    intro a
    induction a with
    | nil => intro b o T h1 h2; exact ⟨T, h1, h2⟩
    | cons x a ih =>
      intro b o T h1 h2
      obtain ⟨g1, g2, g3⟩ := h2.ok x (by simp)
      exact ih b _ x.Time (h1.step g1 g3 g2) h2.tail
  obtain ⟨T', hI, hq'⟩ := key a b [] 0 RI.nil hq
  exact (run_seen k hI hq' ht).symm
def lgDr (l : List En) : Prop := l.length ≤ 12 ∧ ∀ e ∈ l, wsDr e.Writes
theorem lgDr_sm {l : List En} (h : lgDr l) : enSm l := ⟨by have := h.1; omega, fun e he => by
  obtain ⟨a, b⟩ := wsDr_sm (h.2 e he); exact ⟨by omega, b⟩⟩
theorem T_l20Log {o : Rd} {n : Int} (ho : 0 ≤ o.p ∧ o.p ≤ 1000000000 - 100000) (hn : -1000000 ≤ n ∧ n ≤ 1000000) : Tot (m_spec_l20Log o n) fun r => lgDr r.1 ∧ o.p ≤ r.2.p ∧ r.2.p ≤ o.p + 3000 := by
  unfold m_spec_l20Log
  refine Tot.bind (T_pick (by omega)) fun x0 hx0 => ?_
  refine Tot.down (fun f t (s : Int × Rd × List En) => m_spec_l20Log_l1 f n s.1 t s.2.1 s.2.2) (fun t s => t ≤ 6 ∧ o.p ≤ s.2.1.p ∧ s.2.1.p ≤ o.p + 1 + 202 * (6 - t) ∧ 0 ≤ s.1 ∧ s.1 ≤ 3 * (6 - t) ∧ (s.2.2.length : Int) ≤ 6 - t ∧ ∀ e ∈ s.2.2, wsDr e.Writes) (fun f s h => ?_) (fun f t s ht h ih => ?_) _ x0.1 (0, x0.2, []) (by omega) (by omega) ⟨by omega, by show o.p ≤ x0.2.p; omega, by show x0.2.p ≤ o.p + 1 + 202 * (6 - x0.1); omega, by show (0 : Int) ≤ 0; omega, by show (0 : Int) ≤ 3 * (6 - x0.1); omega, by simp; omega, by simp⟩
  · obtain ⟨g0, g1, g2, g3, g4, g5, g6⟩ := h
    have hs : lgDr s.2.2 := ⟨by omega, g6⟩
    rw [m_spec_l20Log_l1, show decide ((0 : Int) > 0) = false from rfl, cond_false]
    have out : ∀ (r : Rd) (l : List En), o.p ≤ r.p → r.p ≤ o.p + 3000 → lgDr l → Tot (m_spec_l20Log_j3 r l) fun r => lgDr r.1 ∧ o.p ≤ r.2.p ∧ r.2.p ≤ o.p + 3000 := by
      intro r l h1 h2 h3
      unfold m_spec_l20Log_j3
      exact Tot.ret ⟨h3, h1, h2⟩
    have set : ∀ (k : Nat) (u : En), wsDr u.Writes → lgDr (s.2.2.set k u) := fun k u hu => ⟨by rw [List.length_set]; exact hs.1, fun y hy => by
      rcases List.mem_or_eq_of_mem_set hy with hy | rfl
      · exact g6 y hy
      · exact hu⟩
    unfold m_spec_l20Log_j1 m_spec_l20Log_j2
    refine Tot.bif (fun hpos => ?_) (fun _ => by rw [cond_false]; exact out _ _ (by omega) (by omega) hs)
    have hpos' : (s.2.2.length : Int) > 0 := of_decide_eq_true hpos
    refine Tot.bind (T_odd (by omega) hn) fun q hq => Tot.bif (fun _ => ?_) (fun _ => out _ _ (by omega) (by omega) hs)
    refine Tot.bind (T_pick (by omega)) fun a ha => Tot.bind (T_pick (by omega)) fun b hb => Tot.bif (fun _ => ?_) (fun _ => Tot.bif (fun _ => ?_) (fun _ => ?_))
    · exact Tot.bind (T_pick (by omega)) fun c hc => Tot.ck (by omega) (by omega) (Tot.at (by omega) (by omega) fun y hy => Tot.at (by omega) (by omega) fun z hz => Tot.lt (out _ _ (by omega) (by omega) (set _ _ (g6 z hz))))
    · exact Tot.bind (T_l20Writes (by omega) (by omega)) fun c hc => Tot.at (by omega) (by omega) fun y hy => Tot.at (by omega) (by omega) fun z hz => Tot.lt (out _ _ (by omega) (by omega) (set _ _ hc.1.1))
    · exact Tot.app (by omega) (out _ _ (by omega) (by omega) ⟨by simp; omega, fun e he => by
        rcases List.mem_append.1 he with he | he <;> exact g6 e he⟩)
  · obtain ⟨g0, g1, g2, g3, g4, g5, g6⟩ := h
    rw [m_spec_l20Log_l1, decide_eq_true ht, cond_true]
    refine Tot.ck (by omega) (by omega) (Tot.bind (T_pick (by omega)) fun x hx => Tot.ck (by omega) (by omega) (Tot.bind (T_l20Writes (by omega) (by omega)) fun w hw => Tot.app (by simp; omega) (Tot.ck (by omega) (by omega) (ih (s.1 + 1 + x.1, w.2, s.2.2 ++ [⟨s.1 + 1 + x.1, w.1⟩]) ⟨by omega, by show o.p ≤ w.2.p; omega, by show w.2.p ≤ _; omega, by show 0 ≤ s.1 + 1 + x.1; omega, by show s.1 + 1 + x.1 ≤ _; omega, by simp; omega, fun e he => ?_⟩))))
    rcases List.mem_append.1 he with he | he
    · exact g6 e he
    · rw [List.mem_singleton.1 he]; exact hw.1.1
theorem take_sm {log : List En} (h : enSm log) (n : Nat) : enSm (log.take n) := ⟨by have := h.1; simp; omega, fun e he => h.2 e (List.mem_of_mem_take he)⟩
theorem E_impl_LogCut {log : List En} {t : Int} (h : enSm log) : m_impl_LogCut log t = some (if logOk log then log.filter (fun e => decide (e.Time ≤ t)) else []) := by
  unfold m_impl_LogCut
  rw [E_impl_LogOk h, Option.bind_some]
  have hl := h.1
  cases hok : logOk log with
  | false => rfl
  | true =>
    rw [Bool.not_true, cond_false, if_pos rfl]
    unfold m_impl_logCut
    have e : (log.filter fun e => !decide (e.Time > t)) = log.filter (fun e => decide (e.Time ≤ t)) := by
      congr 1; funext e
      by_cases h : e.Time ≤ t
      · rw [decide_eq_true h, decide_eq_false (by omega)]; rfl
      · rw [decide_eq_false h, decide_eq_true (by omega)]; rfl
    rw [L_slices_Clone_Limpl_Entry_impl_Entry (by omega), Option.bind_some, L_slices_DeleteFunc_Limpl_Entry_impl_Entry (q := fun e => decide (e.Time > t)) (by omega) (fun v _ => by unfold m_impl_logCut_1; rfl), Option.bind_some, e, E_logCopy ⟨Nat.le_trans (List.length_filter_le _ _) h.1, fun x hx => h.2 x (List.mem_filter.1 hx).1⟩, Option.bind_some, Option.bind_some]
theorem E_spec_LogCut {log : List En} {t : Int} (h : enSm log) : m_spec_LogCut log t = some (if logOk log then log.filter (fun e => decide (e.Time ≤ t)) else []) := by
  unfold m_spec_LogCut
  have hv := E_spec_LogOk h
  have hl := h.1
  cases hok : logOk log with
  | false =>
    rw [hok] at hv
    rw [if_neg (by simp), show (1000000000 : Nat) = 999999999 + 1 from rfl, m_spec_LogCut_l1]
    have fin : m_spec_LogCut_j3 [] = some [] := by unfold m_spec_LogCut_j3; rw [E_l18Copy ⟨by simp, by simp⟩, Option.bind_some]
    unfold m_spec_LogCut_j1
    cases hc : decide ((0 : Int) < (log.length : Int)) with
    | true => rw [cond_true, hv, Option.bind_some, cond_false, fin]
    | false => rw [cond_false, cond_false, fin]
  | true =>
    rw [hok] at hv
    rw [if_pos rfl]
    have := scanMF (f := fun e : En => if e.Time ≤ t then some e else none) (J := fun o => m_spec_LogCut_j3 o) log (fun n k o => m_spec_LogCut_l1 n log t k o) (fun n k x o hx ho => by
      have hlt := lt_of_at hx
      rw [m_spec_LogCut_l1, dlt hlt, cond_true, hv, Option.bind_some]
      unfold m_spec_LogCut_j1 m_spec_LogCut_j2
      rw [cond_true, at_of hx, Option.bind_some]
      by_cases h1 : x.Time ≤ t
      · rw [decide_eq_true h1, cond_true, Option.bind_some, app_of (by simp; omega), Option.bind_some, ck1 (by omega), Option.bind_some, if_pos h1]; rfl
      · rw [decide_eq_false h1, cond_false, ck1 (by omega), Option.bind_some, if_neg h1]; simp) (fun n o _ => by
        rw [m_spec_LogCut_l1, dnlt, cond_false]
        unfold m_spec_LogCut_j1
        rw [cond_false]) 1000000000 (by omega)
    rw [this]
    have e : log.filterMap (fun e : En => if e.Time ≤ t then some e else none) = log.filter (fun e => decide (e.Time ≤ t)) := by
      clear this
      generalize log = l
      induction l with
      | nil => rfl
      | cons x l ih =>
        rw [List.filterMap_cons, List.filter_cons]
        by_cases hx : x.Time ≤ t
        · rw [if_pos hx, if_pos (by simpa using hx)]; simp only [ih]
        · rw [if_neg hx, if_neg (by simpa using hx)]; simp only [ih]
    unfold m_spec_LogCut_j3
    rw [e, E_l18Copy ⟨Nat.le_trans (List.length_filter_le _ _) h.1, fun x hx => h.2 x (List.mem_filter.1 hx).1⟩, Option.bind_some]
theorem cut_prefix {t : Int} : ∀ {log : List En}, log.Pairwise (fun x y => x.Time < y.Time) → ∃ n, n ≤ log.length ∧ log.filter (fun e => decide (e.Time ≤ t)) = log.take n ∧ ∀ e ∈ log.drop n, t < e.Time
  | [], _ => ⟨0, by simp, rfl, by simp⟩
  | x :: log, h => by
    obtain ⟨h1, h2⟩ := List.pairwise_cons.1 h
    by_cases hx : x.Time ≤ t
    · obtain ⟨n, g1, g2, g3⟩ := cut_prefix (t := t) h2
      exact ⟨n + 1, by simp; omega, by rw [List.filter_cons, if_pos (by simpa using hx), g2]; rfl, g3⟩
    · refine ⟨0, by simp, ?_, ?_⟩
      · rw [List.take_zero, List.filter_eq_nil_iff]
        intro e he
        rcases List.mem_cons.1 he with rfl | he
        · simpa using hx
        · have := h1 e he; simp; omega
      · intro e he
        rcases List.mem_cons.1 he with rfl | he
        · omega
        · have := h1 e he; omega
theorem pure_FnLogCut (l : List UInt8) : m_laws_FnLogCut l = some true := by
  unfold m_laws_FnLogCut
  cases hlen : decide ((l.length : Int) > 1048576)
  · rw [cond_false]
    obtain ⟨⟨log, time⟩, hd, hg, ht0, ht1⟩ : Tot (m_spec_DrawLogCut l) fun r => lgDr r.1 ∧ 0 ≤ r.2 ∧ r.2 ≤ 15 := by
      unfold m_spec_DrawLogCut
      exact Tot.bind T_l20Open fun o ho => Tot.bind (T_l20Log (by omega) (by omega)) fun g hg => Tot.bind (T_pick (by omega)) fun x hx => Tot.ret ⟨hg.1, hx.1, by show x.1 ≤ 15; omega⟩
    replace hg : lgDr log := hg
    replace ht0 : 0 ≤ time := ht0
    replace ht1 : time ≤ 15 := ht1
    have hs := lgDr_sm hg
    rw [hd, Option.bind_some]
    show ((m_impl_LogCut log time).bind fun x9 => (m_spec_LogCut log time).bind fun x12 => _) = _
    rw [E_impl_LogCut hs, Option.bind_some, E_spec_LogCut hs, Option.bind_some]
    cases hok : logOk log with
    | false =>
      rw [if_neg (by simp), E_sameLog ⟨by simp, by simp⟩, Option.bind_some, decide_eq_true rfl, Bool.not_true, cond_false]
      show ((m_impl_LogOk log).bind _) = _
      rw [E_impl_LogOk hs, Option.bind_some, hok, Bool.not_false, cond_true]
      show (bif ((((([] : List En).length : Nat) : Int)) == 0) then _ else _) = _
      rw [show ((((([] : List En).length : Nat) : Int)) == 0) = true from rfl, cond_true, E_alive]; rfl
    | true =>
      obtain ⟨hq, hl12⟩ := logOk_seq hok hs
      obtain ⟨n, hle, he, hrest⟩ := cut_prefix (t := time) hq.asc
      rw [if_pos rfl, he, E_sameLog (take_sm hs n), Option.bind_some, decide_eq_true rfl, Bool.not_true, cond_false]
      show ((m_impl_LogOk log).bind _) = _
      rw [E_impl_LogOk hs, Option.bind_some, hok, Bool.not_true, cond_false]
      show m_laws_FnLogCut_l1 ((time - 0).toNat + 2) log time (log.take n) 0 = _
      obtain ⟨o1, o2, o3⟩ := logRun_ok hs
      obtain ⟨p1, p2, p3⟩ := logRun_ok (take_sm hs n)
      have hsplit : log.take n ++ log.drop n = log := List.take_append_drop _ _
      refine runUp (fun f k => m_laws_FnLogCut_l1 f log time (log.take n) k) (time + 1).toNat _ (fun f k hk => ?_) (fun f => ?_) _ (by omega)
      · have hs1 := rowsAt_sm (t := (k : Int)) p3
        have rows : rowsAt (logRun (log.take n)) (k : Int) = rowsAt (logRun log) (k : Int) := by
          have := (prefix_rows (a := log.take n) (b := log.drop n) (t := (k : Int)) (by rw [hsplit]; exact hok) (by rw [hsplit]; exact hs) (fun e he => by have := hrest e he; omega)).2
          rw [hsplit] at this
          exact this
        show m_laws_FnLogCut_l1 (f + 1) log time (log.take n) (k : Int) = _
        rw [m_laws_FnLogCut_l1, decide_eq_true (by omega), cond_true, E_impl_LogRun (take_sm hs n), Option.bind_some, E_RowsAt (by omega) p3, Option.bind_some, E_impl_LogRun hs, Option.bind_some, E_RowsAt (by omega) o3, Option.bind_some, E_sameRows (by omega) (fun r hr => by have := hs1.2 r hr; omega), Option.bind_some, decide_eq_true rows, Bool.not_true, cond_false, ck1 (by omega), Option.bind_some, natS]
      · show m_laws_FnLogCut_l1 (f + 1) log time (log.take n) (((time + 1).toNat : Nat) : Int) = _
        rw [m_laws_FnLogCut_l1, decide_eq_false (by omega), cond_false]
        unfold m_laws_FnLogCut_j2 m_laws_FnLogCut_j3
        have tl : (log.take n).length = n := by simp; omega
        have hcut : cut? log 0 ((log.take n).length : Int) = some (log.take n) := by
          have := cut_of (l := log) (lo := 0) (hi := n) (by omega) hle
          rw [show ((0 : Nat) : Int) = 0 from rfl] at this
          rw [tl, this]; simp
        rw [hcut, Option.bind_some, app_of (by simp; omega), Option.bind_some, List.nil_append, E_sameLog (take_sm hs n), Option.bind_some, decide_eq_true rfl, cond_true, E_alive]; rfl
  · rfl
end Go.Proofs.Ytijihchddhikhaa
