/- What the mirrors come to, in plain Lean: the law itself at the end. -/
import Derived.Test.YtbaldobhhpigbaaXW5
import Derived.Test.YtbaldobhhpigbaaLd
set_option linter.unusedVariables false
set_option linter.unusedSimpArgs false
set_option linter.unnecessarySimpa false
namespace Go.Proofs.Ytbaldobhhpigbaa
open Go.Proofs Go.Lift
abbrev V := S_impl_Value
abbrev Row := List V
abbrev Rows := List Row
def cmpI (a b : Int) : Int := if a < b then -1 else if b < a then 1 else 0
def cmpS (a b : ByteArray) : Int := if sLt a b then -1 else if sLt a b || sEq a b then 0 else 1
def orI (l : List Int) : Int := (l.find? (· != 0)).getD 0
def lower (l : List UInt8) : Bool := l.all fun b => decide (97 ≤ b.toNat) && decide (b.toNat ≤ 122)
def vOk (v : V) : Bool :=
  if v.Kind = 0 then decide (v = ⟨0, 0, ⟨#[]⟩⟩)
  else if v.Kind = 1 then decide (v.S = ⟨#[]⟩) && (decide (-9999 ≤ v.N) && decide (v.N ≤ 9999))
  else if v.Kind = 2 then decide (v.N = 0) && decide (v.S.size ≤ 6) && lower v.S.data.toList
  else if v.Kind = 3 then decide (v.S = ⟨#[]⟩) && (decide (0 ≤ v.N) && decide (v.N ≤ 1))
  else false
def vOrd (v w : V) : Int := orI [cmpI v.Kind w.Kind, cmpI v.N w.N, cmpS v.S w.S]
def rowMany (rs : Rows) (r : Row) : Nat := rs.countP fun x => decide (x = r)
def rowOk (l : Row) : Bool := decide (l.length ≤ 4) && l.all vOk
def vSm (v : V) : Prop := v.S.size ≤ 1100000
def rSm (l : Row) : Prop := l.length ≤ 1100000 ∧ ∀ v ∈ l, vSm v
def rsSm (l : Rows) : Prop := l.length ≤ 400000000 ∧ ∀ r ∈ l, rSm r
def vvOrd (a b : V) : Int := if vOk a && vOk b then vOrd a b else 0
theorem E_Equal {a b : Row} (ha : a.length ≤ 900000000) : m_slices_Equal_Limpl_Value_impl_Value a b = some (decide (a = b)) := by
  unfold m_slices_Equal_Limpl_Value_impl_Value
  by_cases h : a.length = b.length
  · have hc : ((a.length : Int) != (b.length : Int)) = false := by simp [h]
    rw [hc, cond_false, ← all2_eq h]; refine scan2 a b h (fun n k => m_slices_Equal_Limpl_Value_impl_Value_l1 n a b (a.length : Int) k) (fun n k x y hx hy => ?_) (fun n => ?_) _ (by omega)
    · have := lt_of_at hx
      simp only [m_slices_Equal_Limpl_Value_impl_Value_l1, dlt this, at_of hx, at_of hy, ck1 (show k < 1000000000000 by omega), Option.bind_some, cond_true]; cases decide (x = y) <;> rfl
    · simp only [m_slices_Equal_Limpl_Value_impl_Value_l1, dnlt]; rfl
  · have hc : ((a.length : Int) != (b.length : Int)) = true := by simp; omega
    rw [hc, cond_true]; have : a ≠ b := fun e => h (by rw [e]); simp [this]
theorem E_l3Same {a b : Row} (ha : a.length ≤ 900000000) : m_spec_l3Same a b = some (decide (a = b)) := by
  unfold m_spec_l3Same
  by_cases h : a.length = b.length
  · have hc : ((a.length : Int) != (b.length : Int)) = false := by simp [h]
    rw [hc, cond_false, ← all2_eq h]; refine scan2 a b h (fun n k => m_spec_l3Same_l1 n a b k) (fun n k x y hx hy => ?_) (fun n => ?_) _ (by omega)
    · have := lt_of_at hx
      simp only [m_spec_l3Same_l1, dlt this, at_of hx, at_of hy, ck1 (show k < 1000000000000 by omega), Option.bind_some, cond_true]; cases decide (x = y) <;> rfl
    · simp only [m_spec_l3Same_l1, dnlt]; rfl
  · have hc : ((a.length : Int) != (b.length : Int)) = true := by simp; omega
    rw [hc, cond_true]; have : a ≠ b := fun e => h (by rw [e]); simp [this]
theorem E_spec_RowMany {rs : Rows} {r : Row} (h : rs.length ≤ 900000000) (hr : ∀ x ∈ rs, x.length ≤ 900000000) : m_spec_RowMany rs r = some (rowMany rs r : Int) := by
  unfold m_spec_RowMany rowMany; refine scanN (p := fun x => decide (x = r)) (J := fun s => some s) rs (fun n k s => m_spec_RowMany_l1 n rs r s k) (fun n k x s hx h0 h1 => ?_) (fun n s => ?_) _ (by omega)
  · have := lt_of_at hx
    rw [m_spec_RowMany_l1, dlt this, cond_true, at_of hx, Option.bind_some, E_l3Same (hr x (List.mem_of_getElem? hx)), Option.bind_some]; simp only [m_spec_RowMany_j1]; rw [ckI_of (by omega) (by omega), ck1 (show k < 1000000000000 by omega)]; cases decide (x = r) <;> rfl
  · simp only [m_spec_RowMany_l1, dnlt]; rfl
theorem E_IndexFunc_V {l : Row} {p : V → Option Bool} {q : V → Bool} (hl : l.length ≤ 900000000) (hp : ∀ v ∈ l, p v = some (q v)) : m_slices_ContainsFunc_Limpl_Value_impl_Value l p = some (l.any q) := by
  unfold m_slices_ContainsFunc_Limpl_Value_impl_Value m_slices_IndexFunc_Limpl_Value_impl_Value
  have key : ∀ (ys : Row) (k n : Nat), l.drop k = ys → k ≤ l.length → ys.length < n → ∃ i : Int, m_slices_IndexFunc_Limpl_Value_impl_Value_l1 p n l (l.length : Int) (k : Int) = some i ∧ decide (i ≥ 0) = ys.any q := by
    intro ys
    induction ys with
    | nil =>
      intro k n hd hk hn
      have : k = l.length := by
        have := congrArg List.length hd; simp at this; omega
      subst this; obtain ⟨m, rfl⟩ : ∃ m, n = m + 1 := ⟨n - 1, by simp at hn; omega⟩; exact ⟨-1, by simp only [m_slices_IndexFunc_Limpl_Value_impl_Value_l1, dnlt]; rfl, rfl⟩
    | cons y ys ih =>
      intro k n hd hk hn
      have hlt : k < l.length := by
        have := congrArg List.length hd; simp at this; omega
      have hc := List.drop_eq_getElem_cons hlt; rw [hd] at hc; simp only [List.cons.injEq] at hc; have hx : l[k]? = some y := by rw [List.getElem?_eq_getElem hlt, hc.1]
      obtain ⟨m, rfl⟩ : ∃ m, n = m + 1 := ⟨n - 1, by simp at hn; omega⟩; simp only [m_slices_IndexFunc_Limpl_Value_impl_Value_l1, dlt hlt, at_of hx, hp y (List.mem_of_getElem? hx), ck1 (show k < 1000000000000 by omega), Option.bind_some, cond_true]; cases hq : q y
      · obtain ⟨i, h1, h2⟩ := ih (k + 1) m hc.2.symm (by omega) (by simp at hn; omega)
        exact ⟨i, by simpa using h1, by rw [h2]; simp [hq]⟩
      · exact ⟨(k : Int), rfl, by simp [hq]⟩
  obtain ⟨i, h1, h2⟩ := key l 0 _ rfl (by omega) (show l.length < (((l.length : Int) - 0).toNat + 1) by omega); rw [show ((0 : Nat) : Int) = 0 from rfl] at h1; rw [h1]; simp only [Option.bind_some, h2]
theorem E_between (a b c : Int) : m_impl_between a b c = some (decide (b ≤ a) && decide (a ≤ c)) := by
  unfold m_impl_between m_impl_between_j1
  by_cases h : a ≥ b <;> simp [h]
theorem E_l1In (a b c : Int) : m_spec_l1In a b c = some (decide (b ≤ a) && decide (a ≤ c)) := by
  unfold m_spec_l1In m_spec_l1In_j1
  by_cases h : a ≥ b <;> simp [h]
theorem lower_any (l : List UInt8) : lower l = !(l.any fun b => !(decide (97 ≤ (b.toNat : Int)) && decide ((b.toNat : Int) ≤ 122))) := by
  unfold lower; rw [List.all_eq_not_any_not]
  congr 2
  funext b
  congr 1
  have h1 : decide (97 ≤ b.toNat) = decide (97 ≤ (b.toNat : Int)) := by rw [decide_eq_decide]; omega
  have h2 : decide (b.toNat ≤ 122) = decide ((b.toNat : Int) ≤ 122) := by rw [decide_eq_decide]; omega
  rw [h1, h2]
theorem E_letters {s : ByteArray} (h : s.size ≤ 900000000) : m_impl_letters s = some (lower s.data.toList) := by
  unfold m_impl_letters sBytes?; rw [if_pos (by omega)]; simp only [Option.bind_some]; have hl : s.data.toList.length ≤ 900000000 := h
  have := scanA (p := fun b : UInt8 => !(decide (97 ≤ (b.toNat : Int)) && decide ((b.toNat : Int) ≤ 122))) (r0 := false) (r1 := true) s.data.toList (fun n k => m_impl_letters_l1 n s.data.toList (s.data.toList.length : Int) k) (fun n k x hx => by
    have := lt_of_at hx; simp only [m_impl_letters_l1, dlt this, at_of hx, E_between, ck1 (show k < 1000000000000 by omega), Option.bind_some, cond_true]) (fun n => by simp only [m_impl_letters_l1, dnlt]; rfl) _ fuel0
  rw [this, lower_any]; cases s.data.toList.any fun b => !(decide (97 ≤ (b.toNat : Int)) && decide ((b.toNat : Int) ≤ 122)) <;> rfl
theorem sAt_of {s : ByteArray} {k : Nat} {x : UInt8} (h : s.data.toList[k]? = some x) : sAt? s (k : Int) = some x := by
  unfold sAt?; rw [if_pos (by omega)]; obtain ⟨h1, h2⟩ := List.getElem?_eq_some_iff.1 h; have hs : k < s.size := by have := h1; rwa [Array.length_toList] at this
  have : s[k]? = some (s[k]'hs) := by simp [hs]
  rw [Int.toNat_natCast, this]
  congr 1
theorem E_l1Text {s : ByteArray} (h : s.size ≤ 900000000) : m_spec_l1Text s = some (lower s.data.toList && decide (s.size ≤ 6)) := by
  unfold m_spec_l1Text; have hl : s.data.toList.length = s.size := rfl; rw [← hl]
  have := scanA (p := fun b : UInt8 => !(decide (97 ≤ (b.toNat : Int)) && decide ((b.toNat : Int) ≤ 122))) (r0 := false) (r1 := decide ((s.size : Int) ≤ 6)) s.data.toList (fun n k => m_spec_l1Text_l1 n s k) (fun n k x hx => by
    have := lt_of_at hx; have hd : decide ((k : Int) < (s.size : Int)) = true := by rw [← hl]; exact dlt this
    simp only [m_spec_l1Text_l1, m_spec_l1Text_j1, hd, sAt_of hx, ck1 (show k < 1000000000000 by omega), Option.bind_some, cond_true]; have e1 : ((97 : UInt8).toNat : Int) = 97 := rfl; have e2 : ((122 : UInt8).toNat : Int) = 122 := rfl; rw [e1, e2]
    by_cases h1 : (x.toNat : Int) < 97
    · have : ¬ (97 ≤ (x.toNat : Int)) := by omega
      simp [h1, this]
    · have h1' : 97 ≤ (x.toNat : Int) := by omega
      by_cases h2 : (x.toNat : Int) > 122
      · have : ¬ ((x.toNat : Int) ≤ 122) := by omega
        simp [h1, h2, this]
      · have : (x.toNat : Int) ≤ 122 := by omega
        simp [h1, h2, this, h1']) (fun n => by simp only [m_spec_l1Text_l1, hl, dnlt]; rfl) _ fuel0
  rw [this, lower_any]; have e : decide ((s.size : Int) ≤ 6) = decide (s.size ≤ 6) := by rw [decide_eq_decide]; omega
  rw [e]; cases s.data.toList.any fun b => !(decide (97 ≤ (b.toNat : Int)) && decide ((b.toNat : Int) ≤ 122)) <;> simp
theorem E_Value_ok {v : V} (h : v.S.size ≤ 900000000) : m_impl_Value_ok v = some (vOk v) := by
  unfold m_impl_Value_ok m_impl_Value_ok_j1 m_impl_Value_ok_j2 m_impl_Value_ok_j3 vOk; simp only [E_between, E_letters h, Option.bind_some, sEq_eq]
  by_cases h0 : v.Kind = 0
  · simp [h0]
  · by_cases h1 : v.Kind = 1
    · by_cases hs : v.S = ⟨#[]⟩ <;> simp [beqF h0, h0, h1, hs]
    · by_cases h2 : v.Kind = 2
      · by_cases hn : v.N = 0
        · by_cases hs : v.S.size ≤ 6
          · have : (v.S.size : Int) ≤ 6 := by omega
            simp [beqF h0, beqF h1, h0, h1, h2, hn, hs, this]
          · have : ¬ (v.S.size : Int) ≤ 6 := by omega
            simp [beqF h0, beqF h1, h0, h1, h2, hn, hs, this]
        · simp [beqF h0, beqF h1, h0, h1, h2, beqF hn, hn]
      · by_cases h3 : v.Kind = 3
        · by_cases hs : v.S = ⟨#[]⟩ <;> simp [beqF h0, beqF h1, beqF h2, h0, h1, h2, h3, hs]
        · simp [beqF h0, beqF h1, beqF h2, beqF h3, h0, h1, h2, h3]
theorem E_spec_ValueOk {v : V} (h : v.S.size ≤ 900000000) : m_spec_ValueOk v = some (vOk v) := by
  unfold m_spec_ValueOk m_spec_ValueOk_j1 m_spec_ValueOk_j2 m_spec_ValueOk_j3 m_spec_ValueOk_j4 vOk; simp only [E_l1In, E_l1Text h, Option.bind_some, sEq_eq]; obtain ⟨k, n, s⟩ := v; simp only [S_impl_Value.mk.injEq]
  by_cases h0 : k = 0
  · by_cases hn : n = 0
    · simp [h0, hn]
    · simp [h0, hn, beqF hn]
  · by_cases h1 : k = 1
    · by_cases hs : s = ⟨#[]⟩ <;> by_cases ha : -9999 ≤ n <;> by_cases hb : n ≤ 9999 <;> simp [beqF h0, h0, h1, hs, ha, hb]
    · by_cases h2 : k = 2
      · by_cases hn : n = 0
        · simp [beqF h0, beqF h1, h0, h1, h2, hn, Bool.and_comm]
        · simp [beqF h0, beqF h1, h0, h1, h2, beqF hn, hn]
      · by_cases h3 : k = 3
        · by_cases hs : s = ⟨#[]⟩ <;> by_cases ha : 0 ≤ n <;> by_cases hb : n ≤ 1 <;> simp [beqF h0, beqF h1, beqF h2, h0, h1, h2, h3, hs, ha, hb]
        · simp [beqF h0, beqF h1, beqF h2, beqF h3, h0, h1, h2, h3]
theorem E_impl_RowOk {l : Row} (h : rSm l) : m_impl_RowOk l = some (rowOk l) := by
  unfold m_impl_RowOk m_impl_RowOk_j1 rowOk; obtain ⟨h1, h2⟩ := h; rw [E_IndexFunc_V (q := fun v => !(vOk v)) (by omega) (fun v hv => by unfold m_impl_RowOk_1; rw [E_Value_ok (by have := h2 v hv; unfold vSm at this; omega)]; rfl)]; simp only [Option.bind_some]; rw [List.all_eq_not_any_not]
  by_cases h : l.length ≤ 4
  · have : (l.length : Int) ≤ 4 := by omega
    simp [h, this]
  · have : ¬ (l.length : Int) ≤ 4 := by omega
    simp [h, this]
theorem E_spec_RowOk {l : Row} (h : rSm l) : m_spec_RowOk l = some (rowOk l) := by
  unfold m_spec_RowOk rowOk; obtain ⟨h1, h2⟩ := h
  have := scanA (p := fun v => !(vOk v)) (r0 := false) (r1 := decide ((l.length : Int) ≤ 4)) l (fun n k => m_spec_RowOk_l1 n l k) (fun n k x hx => by
    have := lt_of_at hx; have hsm := h2 x (List.mem_of_getElem? hx); unfold vSm at hsm; simp only [m_spec_RowOk_l1, dlt this, at_of hx, E_spec_ValueOk (show x.S.size ≤ 900000000 by omega), ck1 (show k < 1000000000000 by omega), Option.bind_some, cond_true]) (fun n => by simp only [m_spec_RowOk_l1, dnlt]; rfl) _ fuel0
  rw [this, List.all_eq_not_any_not]; have e : decide ((l.length : Int) ≤ 4) = decide (l.length ≤ 4) := by rw [decide_eq_decide]; omega
  rw [e]; cases l.any fun v => !(vOk v) <;> simp
theorem E_CompareI (a b : Int) : m_cmp_Compare_int a b = some (cmpI a b) := by
  unfold m_cmp_Compare_int m_cmp_isNaN_int cmpI; have e : ∀ x : Int, (x != x) = false := fun x => by simp
  simp only [e, Option.bind_some, cond_false]
  by_cases h : a < b
  · simp [h]
  · by_cases h2 : a > b
    · simp [h, h2]
    · simp [h, h2]
theorem E_CompareS (a b : ByteArray) : m_cmp_Compare_string a b = some (cmpS a b) := by
  unfold m_cmp_Compare_string m_cmp_isNaN_string cmpS; have e : ∀ x : ByteArray, (!(sEq x x)) = false := fun x => by simp [sEq_eq]
  simp only [e, Option.bind_some, cond_false]; cases h1 : sLt a b <;> cases h2 : sEq a b <;> simp
theorem E_l1Cmp (a b : ByteArray) : m_spec_l1Cmp a b = some (cmpS a b) := by
  unfold m_spec_l1Cmp cmpS; cases h1 : sLt a b <;> cases h2 : sEq a b <;> simp
theorem E_Or {l : List Int} (h : l.length ≤ 900000000) : m_cmp_Or_int l = some (orI l) := by
  unfold m_cmp_Or_int
  rw [scanC l (fun n k (_ : Unit) => m_cmp_Or_int_l1 n 0 l (l.length : Int) k) (fun x s k => bif (x != 0) then some x else k s) (fun _ => some 0) (fun n k x s hx => by
    have := lt_of_at hx; rw [m_cmp_Or_int_l1, dlt this, cond_true, at_of hx, Option.bind_some, ck1 (show k < 1000000000000 by omega), Option.bind_some]) (fun n s => by rw [m_cmp_Or_int_l1, dnlt]; rfl) _ fuel0 ()]
  clear h; unfold orI
  induction l with
  | nil => rfl
  | cons x l ih =>
    simp only [foldC, List.find?_cons]; cases hx : (x != 0)
    · simpa using ih
    · rfl
theorem E_order (v w : V) : m_impl_Value_order v w = some (vOrd v w) := by
  unfold m_impl_Value_order vOrd; rw [E_CompareI, Option.bind_some, E_CompareI, Option.bind_some, E_CompareS, Option.bind_some, E_Or (by simp)]; rfl
def lessI (a b : Int) : Int := if a < b then 1 else 0
theorem E_Less (a b : Int) : m_spec_l1Less a b = some (lessI a b) := by
  unfold m_spec_l1Less lessI
  by_cases h : a < b <;> simp [h]
theorem less_b (a b : Int) : 0 ≤ lessI a b ∧ lessI a b ≤ 1 := by unfold lessI; split <;> omega
theorem orI_1 {x : Int} {l : List Int} (h : x ≠ 0) : orI (x :: l) = x := by simp [orI, h]
theorem orI_0 {l : List Int} : orI (0 :: l) = orI l := by simp [orI]
theorem cmpI_0 {a b : Int} : cmpI a b = 0 ↔ a = b := by unfold cmpI; split <;> (try split) <;> omega
theorem less_cmp {a b : Int} (h : a ≠ b) : 2 * lessI b a - 1 = cmpI a b := by unfold lessI cmpI; split <;> split <;> (try split) <;> omega
theorem E_ValueOrder {a b : V} (ha : vSm a) (hb : vSm b) : m_spec_ValueOrder a b = some (vvOrd a b) := by
  unfold m_spec_ValueOrder m_spec_ValueOrder_j1 vvOrd vOrd; unfold vSm at ha hb; rw [E_spec_ValueOk (by omega), Option.bind_some, E_spec_ValueOk (by omega), Option.bind_some]; cases vOk a
  · rfl
  cases vOk b
  · rfl
  simp only [Bool.not_true, cond_false, Bool.and_self, if_true, E_Less, E_l1Cmp, Option.bind_some]
  by_cases h1 : a.Kind = b.Kind
  · have : (a.Kind != b.Kind) = false := by simp [h1]
    rw [this, cond_false, cmpI_0.2 h1, orI_0]
    by_cases h2 : a.N = b.N
    · have : (a.N != b.N) = false := by simp [h2]
      rw [this, cond_false, cmpI_0.2 h2, orI_0]
      by_cases h3 : cmpS a.S b.S = 0
      · rw [h3, orI_0]; rfl
      · rw [orI_1 h3]
    · rw [beqF' h2, cond_true, orI_1 (by rw [ne_eq, cmpI_0]; exact h2), ← less_cmp h2]
      have := less_b b.N a.N; rw [ckI_of (by omega) (by omega), Option.bind_some, ckI_of (by omega) (by omega), Option.bind_some]
  · rw [beqF' h1, cond_true, orI_1 (by rw [ne_eq, cmpI_0]; exact h1), ← less_cmp h1]
    have := less_b b.Kind a.Kind; rw [ckI_of (by omega) (by omega), Option.bind_some, ckI_of (by omega) (by omega), Option.bind_some]
theorem E_clone {l : Row} (h : l.length ≤ 900000000) : m_impl_clone_impl_Value l = some l := by
  unfold m_impl_clone_impl_Value appN?; cases l with
  | nil => rfl
  | cons x l =>
    have e : (((x :: l).length : Int) == 0) = false := by simp; omega
    rw [e, cond_false, if_pos ⟨by simp, by omega⟩, Option.bind_some]; rfl
theorem foldl_snoc {α : Type} : ∀ (l a : List α), l.foldl (fun s x => s ++ [x]) a = a ++ l
  | [], a => by simp
  | x :: l, a => by rw [List.foldl_cons, foldl_snoc l]; simp
theorem E_rowsCopy {l : Rows} (h : l.length ≤ 900000000) (hr : ∀ r ∈ l, r.length ≤ 900000000) : m_impl_rowsCopy l = some l := by
  unfold m_impl_rowsCopy
  have := (scanF (f := fun (s : Rows) x => s ++ [x]) (J := fun s => some s) (fun k s => s.length = k) l (fun n k s => m_impl_rowsCopy_l1 n l (l.length : Int) k s) (fun n k x s hx hI => by
    have := lt_of_at hx; rw [m_impl_rowsCopy_l1, dlt this, cond_true, at_of hx, Option.bind_some, E_clone (hr x (List.mem_of_getElem? hx)), Option.bind_some, app_of (by simp; omega), Option.bind_some, ck1 (show k < 1000000000000 by omega), Option.bind_some]
    exact ⟨rfl, by simp [hI]⟩) (fun n s _ => by
      rw [m_impl_rowsCopy_l1, dnlt, cond_false]; unfold m_impl_rowsCopy_j1; rfl) _ fuel0 [] rfl).1
  rw [this, foldl_snoc]; rfl
theorem E_l3Own {l : Row} (h : l.length ≤ 900000000) : m_spec_l3Own l = some l := by
  unfold m_spec_l3Own; rw [app_of (by simp; omega)]; rfl
abbrev Rd := S_spec_l20Rd
def Rd.ok (o : Rd) : Prop := 0 ≤ o.p ∧ o.p ≤ 1000000000
structure TO {α : Type} (p : α → α → Int) : Prop where
  eq0 : ∀ a b, p a b = 0 ↔ a = b
  anti : ∀ a b, p a b < 0 ↔ 0 < p b a
  trans : ∀ a b c, p a b < 0 → p b c < 0 → p a c < 0
theorem TO.le_trans {α : Type} {p : α → α → Int} (h : TO p) {a b c : α} (h1 : p a b ≤ 0) (h2 : p b c ≤ 0) : p a c ≤ 0 := by
  rcases Int.lt_or_eq_of_le h1 with h1 | h1
  · rcases Int.lt_or_eq_of_le h2 with h2 | h2
    · exact Int.le_of_lt (h.trans _ _ _ h1 h2)
    · rw [← (h.eq0 _ _).1 h2]; omega
  · rw [(h.eq0 _ _).1 h1]; exact h2
theorem TO.total {α : Type} {p : α → α → Int} (h : TO p) (a b : α) : 0 < p a b ↔ p b a < 0 := (h.anti b a).symm
theorem rowMany_count (rs : Rows) (r : Row) : rowMany rs r = rs.count r := by
  unfold rowMany List.count
  congr 1
  funext x
  rw [Bool.eq_iff_iff]; simp
theorem L_slices_IndexFunc_Limpl_Column_impl_Column {l : List S_impl_Column} {p : S_impl_Column → Option Bool} {q : S_impl_Column → Bool} (hl : l.length ≤ 900000000) (hp : ∀ v ∈ l, p v = some (q v)) : m_slices_IndexFunc_Limpl_Column_impl_Column l p = some (idxI q l) := by
  unfold m_slices_IndexFunc_Limpl_Column_impl_Column
  exact scanI (q := q) (g := fun i => some i) l (fun n k => m_slices_IndexFunc_Limpl_Column_impl_Column_l1 p n l (l.length : Int) k) (fun n k x hx => by
    have := lt_of_at hx; rw [m_slices_IndexFunc_Limpl_Column_impl_Column_l1, dlt this, cond_true]; simp only [at_of hx, Option.bind_some, hp x (List.mem_of_getElem? hx), ck1 (show k < 1000000000000 by omega)]) (fun n => by rw [m_slices_IndexFunc_Limpl_Column_impl_Column_l1, dnlt]; rfl) _ fuel0
theorem L_slices_ContainsFunc_Limpl_Column_impl_Column {l : List S_impl_Column} {p : S_impl_Column → Option Bool} {q : S_impl_Column → Bool} (hl : l.length ≤ 900000000) (hp : ∀ v ∈ l, p v = some (q v)) : m_slices_ContainsFunc_Limpl_Column_impl_Column l p = some (l.any q) := by
  unfold m_slices_ContainsFunc_Limpl_Column_impl_Column; rw [L_slices_IndexFunc_Limpl_Column_impl_Column hl hp, Option.bind_some, (idxI_ge q l).2.2]
theorem L_slices_IndexFunc_Lint_int {l : List Int} {p : Int → Option Bool} {q : Int → Bool} (hl : l.length ≤ 900000000) (hp : ∀ v ∈ l, p v = some (q v)) : m_slices_IndexFunc_Lint_int l p = some (idxI q l) := by
  unfold m_slices_IndexFunc_Lint_int
  exact scanI (q := q) (g := fun i => some i) l (fun n k => m_slices_IndexFunc_Lint_int_l1 p n l (l.length : Int) k) (fun n k x hx => by
    have := lt_of_at hx; rw [m_slices_IndexFunc_Lint_int_l1, dlt this, cond_true]; simp only [at_of hx, Option.bind_some, hp x (List.mem_of_getElem? hx), ck1 (show k < 1000000000000 by omega)]) (fun n => by rw [m_slices_IndexFunc_Lint_int_l1, dnlt]; rfl) _ fuel0
theorem L_slices_ContainsFunc_Lint_int {l : List Int} {p : Int → Option Bool} {q : Int → Bool} (hl : l.length ≤ 900000000) (hp : ∀ v ∈ l, p v = some (q v)) : m_slices_ContainsFunc_Lint_int l p = some (l.any q) := by
  unfold m_slices_ContainsFunc_Lint_int; rw [L_slices_IndexFunc_Lint_int hl hp, Option.bind_some, (idxI_ge q l).2.2]
theorem L_slices_IndexFunc_LLimpl_Value_Limpl_Value {l : List (List S_impl_Value)} {p : (List S_impl_Value) → Option Bool} {q : (List S_impl_Value) → Bool} (hl : l.length ≤ 900000000) (hp : ∀ v ∈ l, p v = some (q v)) : m_slices_IndexFunc_LLimpl_Value_Limpl_Value l p = some (idxI q l) := by
  unfold m_slices_IndexFunc_LLimpl_Value_Limpl_Value
  exact scanI (q := q) (g := fun i => some i) l (fun n k => m_slices_IndexFunc_LLimpl_Value_Limpl_Value_l1 p n l (l.length : Int) k) (fun n k x hx => by
    have := lt_of_at hx; rw [m_slices_IndexFunc_LLimpl_Value_Limpl_Value_l1, dlt this, cond_true]; simp only [at_of hx, Option.bind_some, hp x (List.mem_of_getElem? hx), ck1 (show k < 1000000000000 by omega)]) (fun n => by rw [m_slices_IndexFunc_LLimpl_Value_Limpl_Value_l1, dnlt]; rfl) _ fuel0
theorem L_slices_ContainsFunc_LLimpl_Value_Limpl_Value {l : List (List S_impl_Value)} {p : (List S_impl_Value) → Option Bool} {q : (List S_impl_Value) → Bool} (hl : l.length ≤ 900000000) (hp : ∀ v ∈ l, p v = some (q v)) : m_slices_ContainsFunc_LLimpl_Value_Limpl_Value l p = some (l.any q) := by
  unfold m_slices_ContainsFunc_LLimpl_Value_Limpl_Value; rw [L_slices_IndexFunc_LLimpl_Value_Limpl_Value hl hp, Option.bind_some, (idxI_ge q l).2.2]
theorem L_slices_IndexFunc_Limpl_group_impl_group {l : List S_impl_group} {p : S_impl_group → Option Bool} {q : S_impl_group → Bool} (hl : l.length ≤ 900000000) (hp : ∀ v ∈ l, p v = some (q v)) : m_slices_IndexFunc_Limpl_group_impl_group l p = some (idxI q l) := by
  unfold m_slices_IndexFunc_Limpl_group_impl_group
  exact scanI (q := q) (g := fun i => some i) l (fun n k => m_slices_IndexFunc_Limpl_group_impl_group_l1 p n l (l.length : Int) k) (fun n k x hx => by
    have := lt_of_at hx; rw [m_slices_IndexFunc_Limpl_group_impl_group_l1, dlt this, cond_true]; simp only [at_of hx, Option.bind_some, hp x (List.mem_of_getElem? hx), ck1 (show k < 1000000000000 by omega)]) (fun n => by rw [m_slices_IndexFunc_Limpl_group_impl_group_l1, dnlt]; rfl) _ fuel0
theorem ltE {α β : Type} {x : α} {f : α → β} : lt x f = f x := rfl
theorem bneD {a b : Int} : (a != b) = !decide (a = b) := by by_cases h : a = b <;> simp [h]
theorem bneB {a b : Bool} : (a != b) = !decide (a = b) := by cases a <;> cases b <;> rfl
def wt_Llaws_Column (l : (List S_laws_Column)) : Nat := l.length
theorem wt_Llaws_Column_len {l : (List S_laws_Column)} : l.length ≤ wt_Llaws_Column l := by unfold wt_Llaws_Column; omega
theorem sz_Llaws_Column {a : (List S_laws_Column)} {left : Int} (hB : (B_list B_laws_Column) a) (h0 : 0 ≤ left) (h1 : left ≤ 1048576) : m_laws_szColumnS a left = some (szR left (wt_Llaws_Column a)) := by
  unfold m_laws_szColumnS wt_Llaws_Column; rw [ckSz' h0 h1 hB.1]; exact szE h0
def wt_laws_Value (v : S_laws_Value) : Nat := v.S.size
theorem sz_laws_Value {a : S_laws_Value} {left : Int} (hB : B_laws_Value a) (h0 : 0 ≤ left) (h1 : left ≤ 1048576) : m_laws_szValue a left = some (szR left (wt_laws_Value a)) := by
  unfold m_laws_szValue wt_laws_Value; unfold B_laws_Value at hB; rw [ckSz' h0 h1 hB.2.2]; exact szE h0
def wt_Llaws_Value (l : (List S_laws_Value)) : Nat := l.length + (l.map fun x => wt_laws_Value x).sum
theorem wt_Llaws_Value_len {l : (List S_laws_Value)} : l.length ≤ wt_Llaws_Value l := by unfold wt_Llaws_Value; omega
theorem wt_Llaws_Value_mem {l : (List S_laws_Value)} {x : S_laws_Value} (h : x ∈ l) : wt_laws_Value x ≤ wt_Llaws_Value l := by have := sum_mem (wt := fun x : S_laws_Value => wt_laws_Value x) h; unfold wt_Llaws_Value; omega
theorem sz_Llaws_Value {a : (List S_laws_Value)} {left : Int} (hB : (B_list B_laws_Value) a) (h0 : 0 ≤ left) (h1 : left ≤ 1048576) : m_laws_szValueS a left = some (szR left (wt_Llaws_Value a)) := by
  unfold m_laws_szValueS wt_Llaws_Value; rw [ckSz' h0 h1 hB.1]; refine szC (k := fun z => m_laws_szValueS_l1 (((a.length : Int) - (0 : Int)).toNat + 1) a z 0) h0 (fun e => ?_); refine szLoop0 (fun x => wt_laws_Value x) a (fun f z k => m_laws_szValueS_l1 f a z k) (fun f k z x hx hk h2 h3 => ?_) (fun f z => by rw [m_laws_szValueS_l1, dnlt]; rfl) (by omega) _ (szR_0 e) (szR_le h1); rw [m_laws_szValueS_l1, dlt (lt_of_at hx), cond_true, at_of hx, Option.bind_some, sz_laws_Value (hB.2 x (List.mem_of_getElem? hx)) h2 h3, Option.bind_some]; rw [ck1 (by omega)]; rfl
def wt_LLlaws_Value (l : (List (List S_laws_Value))) : Nat := l.length + (l.map fun x => wt_Llaws_Value x).sum
theorem wt_LLlaws_Value_len {l : (List (List S_laws_Value))} : l.length ≤ wt_LLlaws_Value l := by unfold wt_LLlaws_Value; omega
theorem wt_LLlaws_Value_mem {l : (List (List S_laws_Value))} {x : (List S_laws_Value)} (h : x ∈ l) : wt_Llaws_Value x ≤ wt_LLlaws_Value l := by have := sum_mem (wt := fun x : (List S_laws_Value) => wt_Llaws_Value x) h; unfold wt_LLlaws_Value; omega
theorem sz_LLlaws_Value {a : (List (List S_laws_Value))} {left : Int} (hB : (B_list (B_list B_laws_Value)) a) (h0 : 0 ≤ left) (h1 : left ≤ 1048576) : m_laws_szValueSS a left = some (szR left (wt_LLlaws_Value a)) := by
  unfold m_laws_szValueSS wt_LLlaws_Value; rw [ckSz' h0 h1 hB.1]; refine szC (k := fun z => m_laws_szValueSS_l1 (((a.length : Int) - (0 : Int)).toNat + 1) a z 0) h0 (fun e => ?_); refine szLoop0 (fun x => wt_Llaws_Value x) a (fun f z k => m_laws_szValueSS_l1 f a z k) (fun f k z x hx hk h2 h3 => ?_) (fun f z => by rw [m_laws_szValueSS_l1, dnlt]; rfl) (by omega) _ (szR_0 e) (szR_le h1); rw [m_laws_szValueSS_l1, dlt (lt_of_at hx), cond_true, at_of hx, Option.bind_some, sz_Llaws_Value (hB.2 x (List.mem_of_getElem? hx)) h2 h3, Option.bind_some]; rw [ck1 (by omega)]; rfl
def cv_laws_Column (v : S_laws_Column) : S_impl_Column := ⟨v.Kind, v.Empty⟩
theorem to_laws_Column {a : S_laws_Column} : m_laws_toColumn a = some (cv_laws_Column a) := by
  unfold m_laws_toColumn cv_laws_Column
  all_goals rfl
def cv_Llaws_Column (l : (List S_laws_Column)) : (List S_impl_Column) := l.map cv_laws_Column
theorem to_Llaws_Column {a : (List S_laws_Column)} (h : wt_Llaws_Column a ≤ 100000000000) : m_laws_toColumnS a = some (cv_Llaws_Column a) := by
  have hl : a.length ≤ 100000000000 := by have := wt_Llaws_Column_len (l := a); omega
  unfold m_laws_toColumnS cv_Llaws_Column; refine toLoop0 cv_laws_Column a _ (fun f k o => m_laws_toColumnS_l1 f a k o) (fun f k o x hx hk ho => ?_) (fun f o => by rw [m_laws_toColumnS_l1, dnlt]; rfl) (by omega); have hy := at_some (l := o) (k := k) (by have := lt_of_at hx; omega); rw [m_laws_toColumnS_l1, dlt (lt_of_at hx), cond_true, at_of hx, Option.bind_some, to_laws_Column, Option.bind_some, hy, Option.bind_some, Option.bind_some]
  try rw [ltE]
  rw [ck1 (by omega), Option.bind_some, Int.toNat_natCast]; rfl
def wt_Limpl_Column (l : (List S_impl_Column)) : Nat := l.length
theorem wt_Limpl_Column_len {l : (List S_impl_Column)} : l.length ≤ wt_Limpl_Column l := by unfold wt_Limpl_Column; omega
theorem wc_Llaws_Column {l : (List S_laws_Column)} : wt_Limpl_Column (cv_Llaws_Column l) = wt_Llaws_Column l := by
  unfold wt_Limpl_Column cv_Llaws_Column wt_Llaws_Column; rw [List.length_map]
def cv_laws_Value (v : S_laws_Value) : S_impl_Value := ⟨v.Kind, v.N, v.S⟩
theorem to_laws_Value {a : S_laws_Value} (h : wt_laws_Value a ≤ 100000000000) : m_laws_toValue a = some (cv_laws_Value a) := by
  unfold wt_laws_Value at h; unfold m_laws_toValue cv_laws_Value
  all_goals rfl
def wt_impl_Value (v : S_impl_Value) : Nat := v.S.size
theorem wc_laws_Value {v : S_laws_Value} : wt_impl_Value (cv_laws_Value v) = wt_laws_Value v := rfl
def cv_Llaws_Value (l : (List S_laws_Value)) : (List S_impl_Value) := l.map cv_laws_Value
theorem to_Llaws_Value {a : (List S_laws_Value)} (h : wt_Llaws_Value a ≤ 100000000000) : m_laws_toValueS a = some (cv_Llaws_Value a) := by
  have hl : a.length ≤ 100000000000 := by have := wt_Llaws_Value_len (l := a); omega
  unfold m_laws_toValueS cv_Llaws_Value; refine toLoop0 cv_laws_Value a _ (fun f k o => m_laws_toValueS_l1 f a k o) (fun f k o x hx hk ho => ?_) (fun f o => by rw [m_laws_toValueS_l1, dnlt]; rfl) (by omega); have hy := at_some (l := o) (k := k) (by have := lt_of_at hx; omega); rw [m_laws_toValueS_l1, dlt (lt_of_at hx), cond_true, at_of hx, Option.bind_some, to_laws_Value (by have := wt_Llaws_Value_mem (List.mem_of_getElem? hx); omega), Option.bind_some, hy, Option.bind_some, Option.bind_some]
  try rw [ltE]
  rw [ck1 (by omega), Option.bind_some, Int.toNat_natCast]; rfl
def wt_Limpl_Value (l : (List S_impl_Value)) : Nat := l.length + (l.map fun x => wt_impl_Value x).sum
theorem wt_Limpl_Value_len {l : (List S_impl_Value)} : l.length ≤ wt_Limpl_Value l := by unfold wt_Limpl_Value; omega
theorem wt_Limpl_Value_mem {l : (List S_impl_Value)} {x : S_impl_Value} (h : x ∈ l) : wt_impl_Value x ≤ wt_Limpl_Value l := by have := sum_mem (wt := fun x : S_impl_Value => wt_impl_Value x) h; unfold wt_Limpl_Value; omega
theorem wc_Llaws_Value {l : (List S_laws_Value)} : wt_Limpl_Value (cv_Llaws_Value l) = wt_Llaws_Value l := by
  unfold wt_Limpl_Value cv_Llaws_Value wt_Llaws_Value; rw [List.length_map, List.map_map]
  first | done | (congr 2; exact List.map_congr_left fun x _ => wc_laws_Value) | rfl
def cv_LLlaws_Value (l : (List (List S_laws_Value))) : (List (List S_impl_Value)) := l.map cv_Llaws_Value
theorem to_LLlaws_Value {a : (List (List S_laws_Value))} (h : wt_LLlaws_Value a ≤ 100000000000) : m_laws_toValueSS a = some (cv_LLlaws_Value a) := by
  have hl : a.length ≤ 100000000000 := by have := wt_LLlaws_Value_len (l := a); omega
  unfold m_laws_toValueSS cv_LLlaws_Value; refine toLoop0 cv_Llaws_Value a _ (fun f k o => m_laws_toValueSS_l1 f a k o) (fun f k o x hx hk ho => ?_) (fun f o => by rw [m_laws_toValueSS_l1, dnlt]; rfl) (by omega); have hy := at_some (l := o) (k := k) (by have := lt_of_at hx; omega); rw [m_laws_toValueSS_l1, dlt (lt_of_at hx), cond_true, at_of hx, Option.bind_some, to_Llaws_Value (by have := wt_LLlaws_Value_mem (List.mem_of_getElem? hx); omega), Option.bind_some, hy, Option.bind_some, Option.bind_some]
  try rw [ltE]
  rw [ck1 (by omega), Option.bind_some, Int.toNat_natCast]; rfl
def wt_LLimpl_Value (l : (List (List S_impl_Value))) : Nat := l.length + (l.map fun x => wt_Limpl_Value x).sum
theorem wt_LLimpl_Value_len {l : (List (List S_impl_Value))} : l.length ≤ wt_LLimpl_Value l := by unfold wt_LLimpl_Value; omega
theorem wt_LLimpl_Value_mem {l : (List (List S_impl_Value))} {x : (List S_impl_Value)} (h : x ∈ l) : wt_Limpl_Value x ≤ wt_LLimpl_Value l := by have := sum_mem (wt := fun x : (List S_impl_Value) => wt_Limpl_Value x) h; unfold wt_LLimpl_Value; omega
theorem wc_LLlaws_Value {l : (List (List S_laws_Value))} : wt_LLimpl_Value (cv_LLlaws_Value l) = wt_LLlaws_Value l := by
  unfold wt_LLimpl_Value cv_LLlaws_Value wt_LLlaws_Value; rw [List.length_map, List.map_map]
  first | done | (congr 2; exact List.map_congr_left fun x _ => wc_Llaws_Value) | rfl
def wt_Lint (l : (List Int)) : Nat := l.length
theorem wt_Lint_len {l : (List Int)} : l.length ≤ wt_Lint l := by unfold wt_Lint; omega
def cv_Lint (l : (List Int)) : (List Int) := l
theorem to_Lint {a : (List Int)} (h : wt_Lint a ≤ 100000000000) : m_laws_toIntS a = some (cv_Lint a) := by
  have hl : a.length ≤ 100000000000 := by have := wt_Lint_len (l := a); omega
  unfold m_laws_toIntS cv_Lint
  conv => rhs; rw [← List.map_id a]
  refine toLoop0 id a _ (fun f k o => m_laws_toIntS_l1 f a k o) (fun f k o x hx hk ho => ?_) (fun f o => by rw [m_laws_toIntS_l1, dnlt]; rfl) (by omega); have hy := at_some (l := o) (k := k) (by have := lt_of_at hx; omega); rw [m_laws_toIntS_l1, dlt (lt_of_at hx), cond_true, at_of hx, Option.bind_some, hy, Option.bind_some, Option.bind_some]
  try rw [ltE]
  rw [ck1 (by omega), Option.bind_some, Int.toNat_natCast]; rfl
theorem eq_impl_Value {a b : S_impl_Value} (h : wt_impl_Value a ≤ 100000000000) : m_laws_eqValue a b = some (decide (a = b)) := by
  unfold wt_impl_Value at h; unfold m_laws_eqValue; rw [bneD]
  by_cases g0 : a.Kind = b.Kind
  case neg => rw [decide_eq_false g0, Bool.not_false, cond_true, decide_eq_false (fun e => g0 (by rw [e]))]
  rw [decide_eq_true g0, Bool.not_true, cond_false]; rw [bneD]
  by_cases g1 : a.N = b.N
  case neg => rw [decide_eq_false g1, Bool.not_false, cond_true, decide_eq_false (fun e => g1 (by rw [e]))]
  rw [decide_eq_true g1, Bool.not_true, cond_false]; rw [sEq_eq]
  by_cases g2 : a.S = b.S
  case neg => rw [decide_eq_false g2, Bool.not_false, cond_true, decide_eq_false (fun e => g2 (by rw [e]))]
  rw [decide_eq_true g2, Bool.not_true, cond_false]; rw [decide_eq_true (show a = b by cases a; cases b; simp only at g0 g1 g2; subst g0 g1 g2; rfl)]
theorem eq_Limpl_Value {a b : (List S_impl_Value)} (h : wt_Limpl_Value a ≤ 100000000000) : m_laws_eqValueS a b = some (decide (a = b)) := by
  have hl : a.length ≤ 100000000000 := by have := wt_Limpl_Value_len (l := a); omega
  unfold m_laws_eqValueS; refine eqLoop a b (fun f k => m_laws_eqValueS_l1 f a b k) (fun f k x y hx hy hk => ?_) (fun f => by rw [m_laws_eqValueS_l1, dnlt]; rfl) (by omega); rw [m_laws_eqValueS_l1, dlt (lt_of_at hx), cond_true, at_of hx, Option.bind_some, at_of hy, Option.bind_some, eq_impl_Value (by have := wt_Limpl_Value_mem (List.mem_of_getElem? hx); omega), Option.bind_some, ck1 (by omega), Option.bind_some]; rfl
theorem eq_LLimpl_Value {a b : (List (List S_impl_Value))} (h : wt_LLimpl_Value a ≤ 100000000000) : m_laws_eqValueSS a b = some (decide (a = b)) := by
  have hl : a.length ≤ 100000000000 := by have := wt_LLimpl_Value_len (l := a); omega
  unfold m_laws_eqValueSS; refine eqLoop a b (fun f k => m_laws_eqValueSS_l1 f a b k) (fun f k x y hx hy hk => ?_) (fun f => by rw [m_laws_eqValueSS_l1, dnlt]; rfl) (by omega); rw [m_laws_eqValueSS_l1, dlt (lt_of_at hx), cond_true, at_of hx, Option.bind_some, at_of hy, Option.bind_some, eq_Limpl_Value (by have := wt_LLimpl_Value_mem (List.mem_of_getElem? hx); omega), Option.bind_some, ck1 (by omega), Option.bind_some]; rfl
theorem eq_impl_Column {a b : S_impl_Column} : m_laws_eqColumn a b = some (decide (a = b)) := by
  unfold m_laws_eqColumn; rw [bneD]
  by_cases g0 : a.Kind = b.Kind
  case neg => rw [decide_eq_false g0, Bool.not_false, cond_true, decide_eq_false (fun e => g0 (by rw [e]))]
  rw [decide_eq_true g0, Bool.not_true, cond_false]; rw [bneB]
  by_cases g1 : a.Empty = b.Empty
  case neg => rw [decide_eq_false g1, Bool.not_false, cond_true, decide_eq_false (fun e => g1 (by rw [e]))]
  rw [decide_eq_true g1, Bool.not_true, cond_false]; rw [decide_eq_true (show a = b by cases a; cases b; simp only at g0 g1; subst g0 g1; rfl)]
theorem eq_Limpl_Column {a b : (List S_impl_Column)} (h : wt_Limpl_Column a ≤ 100000000000) : m_laws_eqColumnS a b = some (decide (a = b)) := by
  have hl : a.length ≤ 100000000000 := by have := wt_Limpl_Column_len (l := a); omega
  unfold m_laws_eqColumnS; refine eqLoop a b (fun f k => m_laws_eqColumnS_l1 f a b k) (fun f k x y hx hy hk => ?_) (fun f => by rw [m_laws_eqColumnS_l1, dnlt]; rfl) (by omega); rw [m_laws_eqColumnS_l1, dlt (lt_of_at hx), cond_true, at_of hx, Option.bind_some, at_of hy, Option.bind_some, eq_impl_Column, Option.bind_some, ck1 (by omega), Option.bind_some]; rfl
theorem eq_Lint {a b : (List Int)} (h : wt_Lint a ≤ 100000000000) : m_laws_eqIntS a b = some (decide (a = b)) := by
  have hl : a.length ≤ 100000000000 := by have := wt_Lint_len (l := a); omega
  unfold m_laws_eqIntS; refine eqLoop a b (fun f k => m_laws_eqIntS_l1 f a b k) (fun f k x y hx hy hk => ?_) (fun f => by rw [m_laws_eqIntS_l1, dnlt]; rfl) (by omega); rw [m_laws_eqIntS_l1, dlt (lt_of_at hx), cond_true, at_of hx, Option.bind_some, at_of hy, Option.bind_some, bneD, ck1 (by omega), Option.bind_some]; rfl
abbrev Col := S_impl_Column
def colOk (c : Col) : Bool := decide (1 ≤ c.Kind) && decide (c.Kind ≤ 3)
def colsOk (cs : List Col) : Bool := decide (cs.length ≤ 4) && cs.all colOk
def vFit (v : V) (c : Col) : Bool := decide (v.Kind = c.Kind) || (decide (v.Kind = 0) && c.Empty)
def rowFits (cs : List Col) (r : Row) : Bool := colsOk cs && (rowOk r && (decide (r.length = cs.length) && all2 vFit r cs))
def rowsOk (cs : List Col) (rs : Rows) : Bool := colsOk cs && rs.all (rowFits cs)
theorem lenD (n m : Nat) : decide ((n : Int) ≤ (m : Int)) = decide (n ≤ m) := by rw [decide_eq_decide]; omega
theorem E_impl_ColumnsOk {cs : List Col} (h : cs.length ≤ 900000000) : m_impl_ColumnsOk cs = some (colsOk cs) := by
  unfold m_impl_ColumnsOk m_impl_ColumnsOk_j1 colsOk
  rw [L_slices_ContainsFunc_Limpl_Column_impl_Column (q := fun c => !(colOk c)) h (fun c _ => by unfold m_impl_ColumnsOk_1; rw [E_between]; rfl), Option.bind_some,
    show (4 : Int) = ((4 : Nat) : Int) from rfl, lenD, List.all_eq_not_any_not]
  cases decide (cs.length ≤ 4) <;> rfl
theorem E_spec_ColumnsOk {cs : List Col} (h : cs.length ≤ 900000000) : m_spec_ColumnsOk cs = some (colsOk cs) := by
  unfold m_spec_ColumnsOk colsOk
  rw [scanA (p := fun c => !(colOk c)) (r0 := false) (r1 := decide ((cs.length : Int) ≤ 4)) cs (fun n k => m_spec_ColumnsOk_l1 n cs k) (fun n k x hx => by
    have := lt_of_at hx; rw [m_spec_ColumnsOk_l1, dlt this, cond_true]; simp only [at_of hx, E_l1In, Option.bind_some, ck1 (show k < 1000000000000 by omega)]; rfl) (fun n => by rw [m_spec_ColumnsOk_l1, dnlt]; rfl) _ fuel0, List.all_eq_not_any_not, show (4 : Int) = ((4 : Nat) : Int) from rfl, lenD]
  cases cs.any fun c => !(colOk c) <;> simp
theorem E_impl_RowFits {cs : List Col} {r : Row} (h : cs.length ≤ 900000000) (hr : rSm r) : m_impl_RowFits cs r = some (rowFits cs r) := by
  unfold m_impl_RowFits rowFits; rw [E_impl_ColumnsOk h, Option.bind_some]; cases colsOk cs
  · rfl
  rw [Bool.not_true, cond_false, E_impl_RowOk hr, Option.bind_some]; cases rowOk r
  · rfl
  rw [Bool.not_true, cond_false]; unfold m_impl_RowFits_j1; rw [neN]
  by_cases hl : r.length = cs.length
  · rw [decide_eq_true hl, Bool.not_true, cond_false]
    simp only [Bool.true_and]
    exact scan2 (q := vFit) r cs hl (fun n k => m_impl_RowFits_l1 n cs r (r.length : Int) k) (fun n k x y hx hy => by
      have := lt_of_at hx; have hrl := hr.1; rw [m_impl_RowFits_l1, dlt this, cond_true]; simp only [at_of hx, at_of hy, Option.bind_some, Go.Lift.lt]; unfold m_impl_RowFits_j2; rw [ck1 (show k < 1000000000000 by omega), Option.bind_some]; unfold vFit; rw [neB, neB]; cases decide (x.Kind = y.Kind) <;> cases decide (x.Kind = 0) <;> cases y.Empty <;> rfl) (fun n => by rw [m_impl_RowFits_l1, dnlt]; rfl) _ fuel0
  · rw [decide_eq_false hl]; rfl
theorem E_spec_RowFits {cs : List Col} {r : Row} (h : cs.length ≤ 900000000) (hr : rSm r) : m_spec_RowFits cs r = some (rowFits cs r) := by
  unfold m_spec_RowFits rowFits; rw [E_spec_ColumnsOk h, Option.bind_some]; cases colsOk cs
  · rfl
  rw [Bool.not_true, cond_false, E_spec_RowOk hr, Option.bind_some]; cases rowOk r
  · rfl
  rw [Bool.not_true, cond_false]; unfold m_spec_RowFits_j1; rw [neN]
  by_cases hl : r.length = cs.length
  · rw [decide_eq_true hl, Bool.not_true, cond_false]
    simp only [Bool.true_and]
    exact scan2 (q := vFit) r cs hl (fun n k => m_spec_RowFits_l1 n cs r k) (fun n k x y hx hy => by
      have := lt_of_at hx; have hrl := hr.1; rw [m_spec_RowFits_l1, dlt this, cond_true]; simp only [at_of hx, at_of hy, Option.bind_some]; unfold m_spec_RowFits_j2; rw [ck1 (show k < 1000000000000 by omega), Option.bind_some]; unfold vFit; rw [neB, neB]; cases decide (x.Kind = y.Kind) <;> cases decide (x.Kind = 0) <;> cases y.Empty <;> rfl) (fun n => by rw [m_spec_RowFits_l1, dnlt]; rfl) _ fuel0
  · rw [decide_eq_false hl]; rfl
theorem E_impl_RowsOk {cs : List Col} {rs : Rows} (h : cs.length ≤ 900000000) (hr : rsSm rs) : m_impl_RowsOk cs rs = some (rowsOk cs rs) := by
  unfold m_impl_RowsOk m_impl_RowsOk_j1 rowsOk; obtain ⟨h1, h2⟩ := hr; rw [E_impl_ColumnsOk h, Option.bind_some, L_slices_ContainsFunc_LLimpl_Value_Limpl_Value (q := fun r => !(rowFits cs r)) (by omega) (fun r hr => by unfold m_impl_RowsOk_1; rw [E_impl_RowFits h (h2 r hr)]; rfl), Option.bind_some, List.all_eq_not_any_not]; cases colsOk cs <;> rfl
theorem E_spec_RowsOk {cs : List Col} {rs : Rows} (h : cs.length ≤ 900000000) (hr : rsSm rs) : m_spec_RowsOk cs rs = some (rowsOk cs rs) := by
  unfold m_spec_RowsOk rowsOk; obtain ⟨h1, h2⟩ := hr
  rw [scanA (p := fun r => !(rowFits cs r)) (r0 := false) (r1 := colsOk cs) rs (fun n k => m_spec_RowsOk_l1 n cs rs k) (fun n k x hx => by
    have := lt_of_at hx; rw [m_spec_RowsOk_l1, dlt this, cond_true]; simp only [at_of hx, E_spec_RowFits h (h2 x (List.mem_of_getElem? hx)), Option.bind_some, ck1 (show k < 1000000000000 by omega)]) (fun n => by
    rw [m_spec_RowsOk_l1, dnlt, cond_false]; unfold m_spec_RowsOk_j1; rw [E_spec_ColumnsOk h]; rfl) _ fuel0, List.all_eq_not_any_not]
  cases rs.any fun r => !(rowFits cs r) <;> cases colsOk cs <;> rfl
theorem rowsOk_fits {cs : List Col} {rs : Rows} (h : rowsOk cs rs = true) {r : Row} (hr : r ∈ rs) : rowOk r = true ∧ r.length = cs.length := by
  unfold rowsOk at h; rw [Bool.and_eq_true, List.all_eq_true] at h; have := h.2 r hr; unfold rowFits at this; simp only [Bool.and_eq_true, decide_eq_true_eq] at this; exact ⟨this.2.1, this.2.2.1⟩
def v0 : V := ⟨0, 0, ⟨#[]⟩⟩
theorem getD_mem {r : Row} {i : Nat} (h : i < r.length) : r.getD i v0 ∈ r := by rw [List.getD_eq_getElem?_getD, List.getElem?_eq_getElem h]; exact List.getElem_mem _
theorem vOk_getD {r : Row} {i : Nat} (hr : rowOk r = true) (h : i < r.length) : vOk (r.getD i v0) = true := by
  unfold rowOk at hr; rw [Bool.and_eq_true, List.all_eq_true] at hr; exact hr.2 _ (getD_mem h)
def total (left : List Rows) : Nat := left.flatten.length
def onceR (rs : Rows) : Rows := rs.foldl (fun out r => if r ∈ out then out else out ++ [r]) []
theorem vOk_1 {v : V} (h : vOk v = true) (k : v.Kind = 1) : -9999 ≤ v.N ∧ v.N ≤ 9999 ∧ v.S = ⟨#[]⟩ := by
  unfold vOk at h; rw [if_neg (by omega), if_pos k] at h; simp at h; exact ⟨h.2.1, h.2.2, h.1⟩
theorem vOk_2 {v : V} (h : vOk v = true) (k : v.Kind = 2) : v.N = 0 ∧ v.S.size ≤ 6 := by
  unfold vOk at h; rw [if_neg (by omega), if_neg (by omega), if_pos k] at h; simp at h; exact ⟨h.1.1, h.1.2⟩
theorem vOk_3 {v : V} (h : vOk v = true) (k : v.Kind = 3) : 0 ≤ v.N ∧ v.N ≤ 1 ∧ v.S = ⟨#[]⟩ := by
  unfold vOk at h; rw [if_neg (by omega), if_neg (by omega), if_neg (by omega), if_pos k] at h; simp at h; exact ⟨h.2.1, h.2.2, h.1⟩
theorem vOk_k {v : V} (h : vOk v = true) : v.Kind = 0 ∨ v.Kind = 1 ∨ v.Kind = 2 ∨ v.Kind = 3 := by
  unfold vOk at h
  by_cases h0 : v.Kind = 0
  · exact .inl h0
  · by_cases h1 : v.Kind = 1
    · exact .inr (.inl h1)
    · by_cases h2 : v.Kind = 2
      · exact .inr (.inr (.inl h2))
      · by_cases h3 : v.Kind = 3
        · exact .inr (.inr (.inr h3))
        · rw [if_neg h0, if_neg h1, if_neg h2, if_neg h3] at h; cases h
theorem vOk_sm {v : V} (h : vOk v = true) : vSm v := by
  unfold vSm; rcases vOk_k h with k | k | k | k
  · unfold vOk at h; rw [if_pos k] at h; have := of_decide_eq_true h; rw [this]; decide
  · rw [(vOk_1 h k).2.2]; decide
  · have := (vOk_2 h k).2; omega
  · rw [(vOk_3 h k).2.2]; decide
theorem vOk_num (n : Int) : vOk ⟨1, n, ⟨#[]⟩⟩ = (decide (-9999 ≤ n) && decide (n ≤ 9999)) := by
  unfold vOk; rw [if_neg (show ¬ (1 : Int) = 0 by decide), if_pos rfl, decide_eq_true (show (⟨#[]⟩ : ByteArray) = ⟨#[]⟩ from rfl), Bool.true_and]
theorem at_z {α : Type} {l : List α} {i : Int} {x : α} (h0 : 0 ≤ i) (h : l[i.toNat]? = some x) : at? l i = some x := by
  have := at_of h
  rwa [Int.toNat_of_nonneg h0] at this
def inR (n : Nat) (k : Int) : Bool := decide (0 ≤ k) && decide (k ≤ (n : Int) - 1)
theorem inR_of {n : Nat} {k : Int} (h : inR n k = true) : 0 ≤ k ∧ k.toNat < n := by
  unfold inR at h; rw [Bool.and_eq_true, decide_eq_true_eq, decide_eq_true_eq] at h; omega
def tyV (v : V) (k : Int) : Prop := vOk v = true ∧ (v.Kind = k ∨ v.Kind = 0)
inductive Typed : List V → List Int → Prop
  | nil : Typed [] []
  | cons {v : V} {k : Int} {vs : List V} {ks : List Int} : tyV v k → Typed vs ks → Typed (v :: vs) (k :: ks)
theorem Typed.len {vs : List V} {ks : List Int} (h : Typed vs ks) : vs.length = ks.length := by
  induction h with
  | nil => rfl
  | cons _ _ ih => simp [ih]
theorem Typed.ok {vs : List V} {ks : List Int} (h : Typed vs ks) : ∀ v ∈ vs, vOk v = true := by
  induction h with
  | nil => simp
  | cons h _ ih =>
    intro v hv; rcases List.mem_cons.1 hv with rfl | hv
    · exact h.1
    · exact ih v hv
theorem Typed.drop {vs : List V} {ks : List Int} (h : Typed vs ks) (n : Nat) : Typed (vs.drop n) (ks.drop n) := by
  induction h generalizing n with
  | nil => simp; exact .nil
  | cons h h2 ih =>
    cases n with
    | zero => exact .cons h h2
    | succ n => exact ih n
theorem vOk_v0 : vOk v0 = true := by decide
def col0 : Col := ⟨0, false⟩
def takeOk (n : Nat) (l : List Int) : Bool := l.all (inR n)
def colAt (cs : List Col) (n : Int) : Col := cs.getD n.toNat col0
theorem getD_in {α : Type} {l : List α} {n : Int} {d : α} (h : inR l.length n = true) : at? l n = some (l.getD n.toNat d) := by
  have h2 := inR_of h; exact at_z h2.1 (by rw [List.getD_eq_getElem?_getD, List.getElem?_eq_getElem h2.2]; rfl)
def rowAt (r : Row) (n : Int) : V := r.getD n.toNat v0
theorem rowOk_mk {r : Row} (h : r.length ≤ 4) (h2 : ∀ v ∈ r, vOk v = true) : rowOk r = true := by
  unfold rowOk; rw [decide_eq_true h, List.all_eq_true.2 h2]; rfl
theorem onceR_go : ∀ (rs out : Rows), (∀ x, x ∈ rs.foldl (fun out r => if r ∈ out then out else out ++ [r]) out ↔ x ∈ out ∨ x ∈ rs) ∧ (rs.foldl (fun out r => if r ∈ out then out else out ++ [r]) out).length ≤ out.length + rs.length
  | [], out => ⟨by simp, by simp⟩
  | r :: rs, out => by
    rw [List.foldl_cons]; obtain ⟨h1, h2⟩ := onceR_go rs (if r ∈ out then out else out ++ [r]); refine ⟨fun x => ?_, ?_⟩
    · rw [h1]
      split
      · rename_i h
        simp only [List.mem_cons]; constructor
        · rintro (h | h)
          · exact .inl h
          · exact .inr (.inr h)
        · rintro (h | rfl | h)
          · exact .inl h
          · exact .inl (by assumption)
          · exact .inr h
      · simp only [List.mem_append, List.mem_cons]; grind
    · refine Nat.le_trans h2 ?_
      split
      · simp only [List.length_cons]; omega
      · simp only [List.length_append, List.length_cons, List.length_nil]; omega
theorem onceR_mem {rs : Rows} {x : Row} : x ∈ onceR rs ↔ x ∈ rs := by
  have := (onceR_go rs []).1 x; simpa [onceR] using this
theorem onceR_len {rs : Rows} : (onceR rs).length ≤ rs.length := by
  have := (onceR_go rs []).2; simpa [onceR] using this
def markM {α : Type} (mk : Int → α → α) (w : α → Int) : Int → List α → List α
  | _, [] => []
  | c, x :: r => mk c x :: markM mk w (c + w x) r
def endM {α : Type} (w : α → Int) : Int → List α → Int
  | c, [] => c
  | c, x :: r => endM w (c + w x) r
theorem markM_len {α : Type} {mk : Int → α → α} {w : α → Int} : ∀ (c : Int) (l : List α), (markM mk w c l).length = l.length
  | _, [] => rfl
  | c, x :: l => by rw [markM, List.length_cons, List.length_cons, markM_len]
theorem endM_ge {α : Type} {w : α → Int} (hw : ∀ x, 0 ≤ w x) : ∀ (c : Int) (l : List α), c ≤ endM w c l
  | c, [] => Int.le_refl _
  | c, x :: l => by
    have := endM_ge hw (c + w x) l; have := hw x; rw [endM]; omega
theorem endM_sum {α : Type} {w : α → Int} {m : α → Nat} (hm : ∀ x, w x ≤ 3 * (m x : Int)) : ∀ (c : Int) (l : List α), endM w c l ≤ c + 3 * ((l.map m).sum : Int)
  | c, [] => by simp [endM]
  | c, x :: l => by
    have h1 := endM_sum hm (c + w x) l; have h2 := hm x; rw [endM, List.map_cons, List.sum_cons]
    push_cast
    omega
theorem markLoop {α : Type} {mk : Int → α → α} {w : α → Int} {B : Int} {ok : α → Prop} (hw : ∀ x, 0 ≤ w x) (L : Nat → Int → Int → List α → Option (Int × List α))
    (hs : ∀ (f : Nat) (d : List α) (x : α) (r : List α) (c : Int), d.length < 1000000000000 → 0 ≤ c → c + w x ≤ B → ok x → L (f + 1) c (d.length : Int) (d ++ x :: r) = L f (c + w x) ((d.length + 1 : Nat) : Int) (d ++ mk c x :: r))
    (he : ∀ (f : Nat) (c : Int) (o : List α), L (f + 1) c (o.length : Int) o = some (c, o)) :
    ∀ (r d : List α) (c : Int) (f : Nat), r.length < f → (∀ x ∈ r, ok x) → 0 ≤ c → endM w c r ≤ B → d.length + r.length ≤ 900000000000 → L f c (d.length : Int) (d ++ r) = some (endM w c r, d ++ markM mk w c r)
  | [], d, c, f, hf, _, _, _, _ => by
    obtain ⟨f, rfl⟩ : ∃ q, f = q + 1 := ⟨f - 1, by omega⟩; rw [List.append_nil, he]; simp [markM, endM]
  | x :: r, d, c, f, hf, hok, hc, hB, hl => by
    obtain ⟨f, rfl⟩ : ∃ q, f = q + 1 := ⟨f - 1, by omega⟩; rw [endM] at hB ⊢; have h1 := endM_ge hw (c + w x) r; have h2 := hw x; rw [List.length_cons] at hf hl; rw [hs f d x r c (by omega) hc (by omega) (hok x (by simp))]; have ih := markLoop hw L hs he r (d ++ [mk c x]) (c + w x) f (by omega) (fun y hy => hok y (by simp [hy])) (by omega) hB (by rw [List.length_append, List.length_singleton]; omega); rw [List.append_assoc, List.singleton_append, List.length_append, List.length_singleton] at ih; rw [ih, markM, List.append_assoc, List.singleton_append]
theorem heldLoop {α : Type} {mk : Int → α → α} {w : α → Int} {B : Int} {ok : α → Prop} (hw : ∀ x, 0 ≤ w x) (t0 : List α) (L : Nat → Int → Int → Option Int)
    (hs : ∀ (f k : Nat) (c : Int) (x : α), t0[k]? = some (mk c x) → k < 1000000000000 → 0 ≤ c → c + w x ≤ B → ok x → L (f + 1) c (k : Int) = L f (c + w x) ((k + 1 : Nat) : Int))
    (he : ∀ (f : Nat) (c : Int), L (f + 1) c (t0.length : Int) = some c) :
    ∀ (r d : List α) (c : Int) (f : Nat), t0 = d ++ markM mk w c r → r.length < f → (∀ x ∈ r, ok x) → 0 ≤ c → endM w c r ≤ B → d.length + r.length ≤ 900000000000 → L f c (d.length : Int) = some (endM w c r)
  | [], d, c, f, ht, hf, _, _, _, _ => by
    obtain ⟨f, rfl⟩ : ∃ q, f = q + 1 := ⟨f - 1, by omega⟩; rw [markM, List.append_nil] at ht; rw [← ht, he]; rfl
  | x :: r, d, c, f, ht, hf, hok, hc, hB, hl => by
    obtain ⟨f, rfl⟩ : ∃ q, f = q + 1 := ⟨f - 1, by omega⟩; rw [endM] at hB ⊢; have h1 := endM_ge hw (c + w x) r; have h2 := hw x; rw [List.length_cons] at hf hl; rw [markM] at ht; have hx : t0[d.length]? = some (mk c x) := by rw [ht]; simp
    rw [hs f d.length c x hx (by omega) hc (by omega) (hok x (by simp))]; have ih := heldLoop hw t0 L hs he r (d ++ [mk c x]) (c + w x) f (by rw [ht, List.append_assoc, List.singleton_append]) (by omega) (fun y hy => hok y (by simp [hy])) (by omega) hB (by rw [List.length_append, List.length_singleton]; omega); rw [List.length_append, List.length_singleton] at ih; exact ih
theorem T_markText {k : Int} (hk : k ≤ 1000000000000) : Tot (m_laws_markText k) fun _ => True := by
  unfold m_laws_markText; refine Tot.bif (fun _ => Tot.ret trivial) (fun h0 => ?_); have hk0 : 0 < k := by simpa using h0
  have key : ∀ (n : Nat) (t : Int) (a : ByteArray) (f : Nat), t ≤ n → 0 ≤ t → n < f → (a.size : Int) + t ≤ 2000000000000 → Tot (m_laws_markText_l1 f t a) fun _ => True := by
    intro n
    induction n with
    | zero =>
      intro t a f h1 h2 h3 h4; obtain ⟨f, rfl⟩ : ∃ q, f = q + 1 := ⟨f - 1, by omega⟩; rw [m_laws_markText_l1, decide_eq_false (by omega), cond_false]; unfold m_laws_markText_j1; exact Tot.cat (by rw [show ByteArray.size ⟨#[109]⟩ = 1 from rfl]; omega) (Tot.ret trivial)
    | succ n ih =>
      intro t a f h1 h2 h3 h4; obtain ⟨f, rfl⟩ : ∃ q, f = q + 1 := ⟨f - 1, by omega⟩; rw [m_laws_markText_l1]; refine Tot.bif (fun ht => ?_) (fun _ => ?_)
      · have ht' : 0 < t := by simpa using ht
        have e1 : t.tmod 10 = t % 10 := Int.tmod_eq_emod_of_nonneg (by omega); have e2 : t.tdiv 10 = t / 10 := Int.tdiv_eq_ediv_of_nonneg (by omega); refine Tot.rem (by omega) (Tot.ck (by omega) (by omega) (Tot.cat ?_ (Tot.quo (by omega) (by omega) (by omega) ?_)))
        · have : ∀ b : UInt8, (bStr [b]).size = 1 := fun b => rfl
          rw [this]; omega
        · refine ih _ _ f (by omega) (by omega) (by omega) ?_
          have : ∀ b : UInt8, (bStr [b]).size = 1 := fun b => rfl; rw [ByteArray.size_append, this]
          push_cast
          omega
      · unfold m_laws_markText_j1
        exact Tot.cat (by rw [show ByteArray.size ⟨#[109]⟩ = 1 from rfl]; omega) (Tot.ret trivial)
  exact key k.toNat k ⟨#[]⟩ _ (by omega) (by omega) (by omega) (by rw [show ByteArray.size ⟨#[]⟩ = 0 from rfl]; omega)
def mtx (k : Int) : ByteArray := (m_laws_markText k).getD ⟨#[]⟩
theorem E_markText {k : Int} (hk : k ≤ 1000000000000) : m_laws_markText k = some (mtx k) := by
  obtain ⟨t, ht, _⟩ := T_markText hk; unfold mtx; rw [ht]; rfl
def mkV (c : Int) (_ : V) : V := ⟨c, c + 1, mtx (c + 2)⟩
abbrev markV (c : Int) (l : Row) : Row := markM mkV (fun _ => 3) c l
theorem endVl (c : Int) : ∀ l : Row, endM (fun _ : V => 3) c l = c + 3 * l.length
  | [] => by simp [endM]
  | x :: l => by rw [endM, endVl (c + 3) l, List.length_cons]; push_cast; omega
theorem set_at {α : Type} {d r : List α} {x y : α} : (d ++ x :: r).set d.length y = d ++ y :: r := by rw [List.set_append_right _ _ (Nat.le_refl _)]; simp
theorem at_at {α : Type} {d r : List α} {x : α} : at? (d ++ x :: r) (d.length : Int) = some x := at_of (by simp)
theorem lt_at {α : Type} {d r : List α} {x : α} : decide ((d.length : Int) < ((d ++ x :: r).length : Int)) = true := decide_eq_true (by rw [List.length_append, List.length_cons]; omega)
theorem E_markV {l : Row} {k : Int} (hk : 0 ≤ k) (hB : k + 3 * l.length ≤ 1000000000000) : m_laws_markValueS l k = some (k + 3 * l.length, markV k l) := by
  unfold m_laws_markValueS
  have := markLoop (mk := mkV) (w := fun _ => 3) (B := 1000000000000) (ok := fun _ => True) (fun _ => by decide) (fun f c i o => m_laws_markValueS_l1 f c i o) (fun f d x r c hd hc hB _ => by
    rw [m_laws_markValueS_l1, lt_at, cond_true, at_at, Option.bind_some, Option.bind_some, ltE, ckI_of (by omega) (by omega), Option.bind_some, Int.toNat_natCast, set_at, at_at, Option.bind_some, Option.bind_some, ltE, ckI_of (by omega) (by omega), Option.bind_some, E_markText (by omega), Option.bind_some, set_at, at_at, Option.bind_some, Option.bind_some, ltE, ckI_of (by omega) (by omega), Option.bind_some, ckI_of (by omega) (by omega), Option.bind_some, set_at]; unfold mkV; rw [show c + 1 + 1 + 1 = c + 3 by omega, show c + 1 + 1 = c + 2 by omega, show ((d.length : Int) + 1) = ((d.length + 1 : Nat) : Int) by omega]) (fun f c o => by rw [m_laws_markValueS_l1, dnlt]; rfl) l [] k _ fuel0 (fun _ _ => trivial) hk (by rw [endVl]; exact hB) (by simp only [List.length_nil]; omega)
  rw [endVl] at this; exact this
theorem E_heldV {l : Row} {k : Int} (hk : 0 ≤ k) (hB : k + 3 * l.length ≤ 1000000000000) : m_laws_heldValueS (markV k l) k = some (k + 3 * l.length) := by
  unfold m_laws_heldValueS
  have := heldLoop (mk := mkV) (w := fun _ => 3) (B := 1000000000000) (ok := fun _ => True) (fun _ => by decide) (markV k l) (fun f c i => m_laws_heldValueS_l1 f (markV k l) c i) (fun f i c x hx hi hc hB _ => by
    rw [m_laws_heldValueS_l1, dlt (lt_of_at hx), cond_true, at_of hx, Option.bind_some]; unfold mkV; simp only [bne_self_eq_false, cond_false, Option.bind_some]; rw [ckI_of (by omega) (by omega), Option.bind_some]; simp only [bne_self_eq_false, cond_false, Option.bind_some]; rw [ckI_of (by omega) (by omega), Option.bind_some, E_markText (by omega), Option.bind_some, show c + 1 + 1 = c + 2 by omega]; rw [show sEq (mtx (c + 2)) (mtx (c + 2)) = true by rw [sEq_eq]; exact decide_eq_true rfl, Bool.not_true, cond_false, ckI_of (by omega) (by omega), Option.bind_some, ck1 (by omega), Option.bind_some, show c + 2 + 1 = c + 3 by omega]; rfl) (fun f c => by rw [m_laws_heldValueS_l1, dnlt]; rfl) l [] k (((markV k l).length : Int) - 0).toNat.succ rfl (by rw [markM_len]; omega) (fun _ _ => trivial) hk (by rw [endVl]; exact hB) (by simp only [List.length_nil]; omega)
  rw [endVl] at this; exact this
def wR (r : Row) : Int := 3 * r.length
def mkR (c : Int) (r : Row) : Row := markV c r
theorem E_markR {l : Rows} {k : Int} (hk : 0 ≤ k) (hB : endM wR k l ≤ 1000000000000) (hl : l.length ≤ 900000000000) : m_laws_markValueSS l k = some (endM wR k l, markM mkR wR k l) := by
  unfold m_laws_markValueSS
  exact markLoop (mk := mkR) (w := wR) (B := 1000000000000) (ok := fun _ => True) (fun x => by unfold wR; omega) (fun f c i o => m_laws_markValueSS_l1 f c i o) (fun f d x r c hd hc hB _ => by
    have hB' : c + 3 * (x.length : Int) ≤ 1000000000000 := hB; rw [m_laws_markValueSS_l1, lt_at, cond_true, at_at, Option.bind_some, Option.bind_some, E_markV hc hB', Option.bind_some, lenQ_ok (markM_len _ _), Option.bind_some, ltE, ckI_of (by omega) (by omega), Option.bind_some, Int.toNat_natCast, set_at]; rfl) (fun f c o => by rw [m_laws_markValueSS_l1, dnlt]; rfl) l [] k _ fuel0 (fun _ _ => trivial) hk hB (by simp only [List.length_nil]; omega)
theorem vokE_b {v : V} (h : vOk v = true) : v.S.size ≤ 6 ∧ -9999 ≤ v.N ∧ v.N ≤ 9999 := by
  have e0 : (⟨#[]⟩ : ByteArray).size = 0 := rfl; unfold vOk at h
  by_cases h0 : v.Kind = 0
  · rw [if_pos h0, decide_eq_true_eq] at h
    rw [h]; exact ⟨by show (0 : Nat) ≤ 6; omega, by show (-9999 : Int) ≤ 0; omega, by show (0 : Int) ≤ 9999; omega⟩
  rw [if_neg h0] at h
  by_cases h1 : v.Kind = 1
  · rw [if_pos h1, Bool.and_eq_true, Bool.and_eq_true, decide_eq_true_eq, decide_eq_true_eq, decide_eq_true_eq] at h
    refine ⟨by rw [h.1, e0]; omega, h.2.1, h.2.2⟩
  rw [if_neg h1] at h
  by_cases h2 : v.Kind = 2
  · rw [if_pos h2, Bool.and_eq_true, Bool.and_eq_true, decide_eq_true_eq, decide_eq_true_eq] at h
    exact ⟨h.1.2, by omega, by omega⟩
  rw [if_neg h2] at h
  by_cases h3 : v.Kind = 3
  · rw [if_pos h3, Bool.and_eq_true, Bool.and_eq_true, decide_eq_true_eq, decide_eq_true_eq, decide_eq_true_eq] at h
    exact ⟨by rw [h.1, e0]; omega, by omega, by omega⟩
  rw [if_neg h3] at h; cases h
theorem rowOkE_b {r : Row} (h : rowOk r = true) : r.length ≤ 4 ∧ ∀ v ∈ r, vOk v = true := by
  unfold rowOk at h; rw [Bool.and_eq_true, decide_eq_true_eq, List.all_eq_true] at h; exact h
theorem smE_Value {v : S_laws_Value} (h : wt_laws_Value v ≤ 1048576) : vSm (cv_laws_Value v) := by unfold wt_laws_Value at h; unfold vSm cv_laws_Value; simp only; omega
theorem smE_row {l : List S_laws_Value} (h : wt_Llaws_Value l ≤ 1048576) : rSm (cv_Llaws_Value l) := by
  refine ⟨?_, ?_⟩
  · have := wt_Llaws_Value_len (l := l); unfold cv_Llaws_Value; rw [List.length_map]; omega
  · intro v hv
    obtain ⟨x, hx, rfl⟩ := List.mem_map.1 hv; exact smE_Value (by have := wt_Llaws_Value_mem hx; omega)
theorem smE_rows {l : List (List S_laws_Value)} (h : wt_LLlaws_Value l ≤ 1048576) : rsSm (cv_LLlaws_Value l) := by
  refine ⟨?_, ?_⟩
  · have := wt_LLlaws_Value_len (l := l); unfold cv_LLlaws_Value; rw [List.length_map]; omega
  · intro v hv
    obtain ⟨x, hx, rfl⟩ := List.mem_map.1 hv; exact smE_row (by have := wt_LLlaws_Value_mem hx; omega)
theorem E_heldR {l : Rows} {k : Int} (hk : 0 ≤ k) (hB : endM wR k l ≤ 1000000000000) (hl : l.length ≤ 900000000000) : m_laws_heldValueSS (markM mkR wR k l) k = some (endM wR k l) := by
  unfold m_laws_heldValueSS
  exact heldLoop (mk := mkR) (w := wR) (B := 1000000000000) (ok := fun _ => True) (fun x => by unfold wR; omega) (markM mkR wR k l) (fun f c i => m_laws_heldValueSS_l1 f (markM mkR wR k l) c i) (fun f i c x hx hi hc hB _ => by
    have hB' : c + 3 * (x.length : Int) ≤ 1000000000000 := hB; rw [m_laws_heldValueSS_l1, dlt (lt_of_at hx), cond_true, at_of hx, Option.bind_some]; unfold mkR; rw [E_heldV hc hB', Option.bind_some, decide_eq_false (by omega), cond_false, ck1 (by omega), Option.bind_some]; rfl) (fun f c => by rw [m_laws_heldValueSS_l1, dnlt]; rfl) l [] k (((markM mkR wR k l).length : Int) - 0).toNat.succ rfl (by rw [markM_len]; omega) (fun _ _ => trivial) hk hB (by simp only [List.length_nil]; omega)
theorem sumL5 {α : Type} {f g : α → Nat} : ∀ {l : List α}, (∀ x ∈ l, f x ≤ g x) → (l.map f).sum ≤ (l.map g).sum
  | [], _ => Nat.le_refl _
  | x :: l, h => by
    rw [List.map_cons, List.sum_cons, List.map_cons, List.sum_cons]; have := sumL5 (f := f) (g := g) (l := l) fun y hy => h y (by simp [hy]); have := h x (by simp); omega
theorem sumB5 {α : Type} {f : α → Nat} {B : Nat} : ∀ {l : List α}, (∀ x ∈ l, f x ≤ B) → (l.map f).sum ≤ l.length * B
  | [], _ => Nat.zero_le _
  | x :: l, h => by
    rw [List.map_cons, List.sum_cons, List.length_cons, Nat.succ_mul]; have := sumB5 (f := f) (B := B) (l := l) fun y hy => h y (by simp [hy]); have := h x (by simp); omega
theorem endR_w (c : Int) (l : Rows) : endM wR c l ≤ c + 3 * (wt_LLimpl_Value l : Int) := by
  have h1 := endM_sum (w := wR) (m := fun r => r.length) (fun x => by unfold wR; omega) c l; have h2 : (l.map fun r : Row => r.length).sum ≤ (l.map fun x => wt_Limpl_Value x).sum := sumL5 fun x _ => wt_Limpl_Value_len; unfold wt_LLimpl_Value
  push_cast
  omega
theorem wt_row5 {r : Row} (h : rowOk r = true) : wt_Limpl_Value r ≤ 28 := by
  obtain ⟨h1, h2⟩ := rowOkE_b h; have h3 : (r.map fun v => wt_impl_Value v).sum ≤ r.length * 6 := sumB5 fun v hv => (vokE_b (h2 v hv)).1; unfold wt_Limpl_Value; omega
theorem wt_rows5 {l : Rows} (hl : l.length ≤ 200000000) (h : ∀ r ∈ l, rowOk r = true) : wt_LLimpl_Value l ≤ 10000000000 := by
  have h3 : (l.map fun t => wt_Limpl_Value t).sum ≤ l.length * 28 := sumB5 fun t ht => wt_row5 (h t ht); unfold wt_LLimpl_Value; omega
def mkC (c : Int) (_ : Col) : Col := ⟨c, ((c + 1).tmod 3 == (0 : Int))⟩
def wC (_ : Col) : Int := 2
theorem endC (c : Int) : ∀ l : List Col, endM wC c l = c + 2 * l.length
  | [] => by simp [endM]
  | x :: l => by rw [endM, endC (c + wC x) l, List.length_cons]; unfold wC; push_cast; omega
theorem E_markC {l : List Col} {k : Int} (hk : 0 ≤ k) (hB : k + 2 * l.length ≤ 1000000000000) : m_laws_markColumnS l k = some (k + 2 * l.length, markM mkC wC k l) := by
  unfold m_laws_markColumnS
  have := markLoop (mk := mkC) (w := wC) (B := 1000000000000) (ok := fun _ => True) (fun _ => by unfold wC; decide) (fun f c i o => m_laws_markColumnS_l1 f c i o) (fun f d x r c hd hc hB _ => by
    have hB' : c + 2 ≤ 1000000000000 := hB; rw [m_laws_markColumnS_l1, lt_at, cond_true, at_at, Option.bind_some, Option.bind_some, ltE, ckI_of (by omega) (by omega), Option.bind_some, remI, if_neg (by decide), Option.bind_some, Int.toNat_natCast, set_at, at_at, Option.bind_some, Option.bind_some, ltE, ckI_of (by omega) (by omega), Option.bind_some, ckI_of (by omega) (by omega), Option.bind_some, set_at]; unfold mkC wC; rw [show c + 1 + 1 = c + 2 by omega, show ((d.length : Int) + 1) = ((d.length + 1 : Nat) : Int) by omega]) (fun f c o => by rw [m_laws_markColumnS_l1, dnlt]; rfl) l [] k _ fuel0 (fun _ _ => trivial) hk (by rw [endC]; exact hB) (by simp only [List.length_nil]; omega)
  rw [endC] at this; exact this
def mkI (c : Int) (_ : Int) : Int := c
def wI (_ : Int) : Int := 1
theorem endI (c : Int) : ∀ l : List Int, endM wI c l = c + l.length
  | [] => by simp [endM]
  | x :: l => by rw [endM, endI (c + wI x) l, List.length_cons]; unfold wI; push_cast; omega
theorem E_markI {l : List Int} {k : Int} (hk : 0 ≤ k) (hB : k + l.length ≤ 1000000000000) (hl : l.length ≤ 900000000000) : m_laws_markIntS l k = some (k + l.length, markM mkI wI k l) := by
  unfold m_laws_markIntS
  have := markLoop (mk := mkI) (w := wI) (B := 1000000000000) (ok := fun _ => True) (fun _ => by unfold wI; decide) (fun f c i o => m_laws_markIntS_l1 f c i o) (fun f d x r c hd hc hB _ => by
    have hB' : c + 1 ≤ 1000000000000 := hB; rw [m_laws_markIntS_l1, lt_at, cond_true, at_at, Option.bind_some, Option.bind_some, ltE, ckI_of (by omega) (by omega), Option.bind_some, ckI_of (by omega) (by omega), Option.bind_some, Int.toNat_natCast, set_at]; unfold mkI wI; rw [show ((d.length : Int) + 1) = ((d.length + 1 : Nat) : Int) by omega]) (fun f c o => by rw [m_laws_markIntS_l1, dnlt]; rfl) l [] k _ fuel0 (fun _ _ => trivial) hk (by rw [endI]; exact hB) (by simp only [List.length_nil]; omega)
  rw [endI] at this; exact this
abbrev Kn := S_impl_Known
abbrev Gp := S_impl_group
def kn0 : Kn := ⟨0, 0, ⟨0, 0, ⟨#[]⟩⟩, ⟨0, 0, ⟨#[]⟩⟩⟩
def knSm (k : Kn) : Prop := vSm k.Least ∧ vSm k.Most
def knOk (k : Kn) : Bool :=
  if k.Many = 0 then decide (k = kn0)
  else (decide (1 ≤ k.Many) && decide (k.Many ≤ 100)) && ((decide (-9999 * k.Many ≤ k.Sum) && decide (k.Sum ≤ 9999 * k.Many)) && (vOk k.Least && (vOk k.Most && ((k.Least.Kind == k.Most.Kind) && ((k.Least.Kind != 0) && (decide (vOrd k.Least k.Most ≤ 0) && ((k.Least.Kind == 1) || (k.Sum == 0))))))))
theorem E_impl_KnownOk {k : Kn} (h : knSm k) : m_impl_KnownOk k = some (knOk k) := by
  unfold m_impl_KnownOk m_impl_KnownOk_j1 knOk
  by_cases h0 : k.Many = 0
  · rw [if_pos h0, show (k.Many == 0) = true by simp [h0], cond_true]; rfl
  · rw [if_neg h0, beqF h0, cond_false, E_between, Option.bind_some]
    have e1 := E_Value_ok (v := k.Least) (by have := h.1; unfold vSm at this; omega); have e2 := E_Value_ok (v := k.Most) (by have := h.2; unfold vSm at this; omega)
    by_cases h1 : 1 ≤ k.Many ∧ k.Many ≤ 100
    · rw [decide_eq_true h1.1, decide_eq_true h1.2, Bool.and_self, cond_true, ckI_of (by omega) (by omega), Option.bind_some, ckI_of (by omega) (by omega), Option.bind_some, E_between, Option.bind_some, e1, Option.bind_some, e2, Option.bind_some, E_order, Option.bind_some]
      generalize (decide (-9999 * k.Many ≤ k.Sum) && decide (k.Sum ≤ 9999 * k.Many)) = b1; generalize vOk k.Least = b2; generalize vOk k.Most = b3; generalize (k.Least.Kind == k.Most.Kind) = b4; generalize (k.Least.Kind != 0) = b5; generalize decide (vOrd k.Least k.Most ≤ 0) = b6; generalize (k.Least.Kind == 1) = b7; generalize (k.Sum == 0) = b8; cases b1 <;> cases b2 <;> cases b3 <;> cases b4 <;> cases b5 <;> cases b6 <;> cases b7 <;> rfl
    · have : (decide (1 ≤ k.Many) && decide (k.Many ≤ 100)) = false := by rw [Bool.and_eq_false_iff, decide_eq_false_iff_not, decide_eq_false_iff_not]; omega
      rw [this]; rfl
theorem E_spec_KnownOk {k : Kn} (h : knSm k) : m_spec_KnownOk k = some (knOk k) := by
  unfold m_spec_KnownOk m_spec_KnownOk_j1 m_spec_KnownOk_j2 knOk
  by_cases h0 : k.Many = 0
  · rw [if_pos h0, show (k.Many == 0) = true by simp [h0], cond_true]; rfl
  · rw [if_neg h0, beqF h0, cond_false, E_l1In, Option.bind_some]
    have e1 := E_spec_ValueOk (v := k.Least) (by have := h.1; unfold vSm at this; omega); have e2 := E_spec_ValueOk (v := k.Most) (by have := h.2; unfold vSm at this; omega)
    by_cases h1 : 1 ≤ k.Many ∧ k.Many ≤ 100
    · rw [decide_eq_true h1.1, decide_eq_true h1.2, Bool.and_self, Bool.not_true, cond_false, e1, Option.bind_some, e2, Option.bind_some]
      simp only [E_ValueOrder h.1 h.2, ckI_of (show (-9223372036854775808 : Int) ≤ -9999 * k.Many by omega) (by omega), ckI_of (show (-9223372036854775808 : Int) ≤ 9999 * k.Many by omega) (by omega), Option.bind_some, E_l1In]; unfold vvOrd; generalize (decide (-9999 * k.Many ≤ k.Sum) && decide (k.Sum ≤ 9999 * k.Many)) = b1; rw [bne, bne]; generalize (k.Least.Kind == k.Most.Kind) = b4; generalize (k.Least.Kind == 0) = b5; generalize (k.Least.Kind == 1) = b7; generalize (k.Sum == 0) = b8; cases vOk k.Least
      · cases b1 <;> rfl
      cases vOk k.Most
      · cases b1 <;> rfl
      simp only [Bool.and_self, eq_self_iff_true, if_true]; generalize decide (vOrd k.Least k.Most ≤ 0) = b6; cases b1 <;> cases b4 <;> cases b5 <;> cases b6 <;> cases b7 <;> rfl
    · have : (decide (1 ≤ k.Many) && decide (k.Many ≤ 100)) = false := by rw [Bool.and_eq_false_iff, decide_eq_false_iff_not, decide_eq_false_iff_not]; omega
      rw [this]; rfl
theorem knOk_b {k : Kn} (h : knOk k = true) : (0 ≤ k.Many ∧ k.Many ≤ 100) ∧ (-999900 ≤ k.Sum ∧ k.Sum ≤ 999900) ∧ vOk k.Least = true ∧ vOk k.Most = true := by
  unfold knOk at h
  split at h
  · rw [of_decide_eq_true h]; unfold kn0; exact ⟨by simp, by simp, by decide, by decide⟩
  · simp only [Bool.and_eq_true, decide_eq_true_eq] at h
    obtain ⟨h1, h2, h3, h4, _⟩ := h; exact ⟨by omega, by omega, h3, h4⟩
def kOf (v : V) : Kn := if vOk v = true ∧ v.Kind ≠ 0 then ⟨1, if v.Kind = 1 then v.N else 0, v, v⟩ else kn0
theorem kOf_sm {v : V} (h : vSm v) : knSm (kOf v) := by
  unfold kOf
  split
  · exact ⟨h, h⟩
  · exact ⟨by unfold vSm kn0; decide, by unfold vSm kn0; decide⟩
theorem E_impl_KnownOf {v : V} (h : vSm v) : m_impl_KnownOf v = some (kOf v) := by
  unfold m_impl_KnownOf m_impl_KnownOf_j1 m_impl_KnownOf_j2 kOf; rw [E_Value_ok (by unfold vSm at h; omega), Option.bind_some]; cases vOk v with
  | false => simp [Lift.lt]; rfl
  | true =>
    by_cases h0 : v.Kind = 0
    · simp [Lift.lt, h0]; rfl
    · by_cases h1 : v.Kind = 1
      · simp [Lift.lt, h0, h1]
      · simp [Lift.lt, h0, h1, beqF h0, beqF h1]
theorem E_spec_KnownOf {v : V} (h : vSm v) : m_spec_KnownOf v = some (kOf v) := by
  unfold m_spec_KnownOf m_spec_KnownOf_j1 m_spec_KnownOf_j2 kOf; rw [E_spec_ValueOk (by unfold vSm at h; omega), Option.bind_some]; cases vOk v with
  | false => simp [Lift.lt]; rfl
  | true =>
    by_cases h0 : v.Kind = 0
    · simp [Lift.lt, h0]; rfl
    · by_cases h1 : v.Kind = 1
      · simp [Lift.lt, h0, h1]
      · simp [Lift.lt, h0, h1, beqF h0, beqF h1]
def kB (a b : Kn) : Kn :=
  if (knOk a && knOk b) = false then kn0
  else if a.Many = 0 then b
  else if b.Many = 0 then a
  else if a.Least.Kind ≠ b.Least.Kind then kn0
  else if a.Many + b.Many > 100 then kn0
  else ⟨a.Many + b.Many, a.Sum + b.Sum, if vOrd b.Least a.Least < 0 then b.Least else a.Least, if vOrd b.Most a.Most > 0 then b.Most else a.Most⟩
theorem kn0_sm : knSm kn0 := ⟨by unfold vSm kn0; decide, by unfold vSm kn0; decide⟩
theorem kB_sm {a b : Kn} (ha : knSm a) (hb : knSm b) : knSm (kB a b) := by
  unfold kB
  split; · exact kn0_sm
  split; · exact hb
  split; · exact ha
  split; · exact kn0_sm
  split; · exact kn0_sm
  refine ⟨?_, ?_⟩
  · show vSm (if _ then _ else _)
    split
    · exact hb.1
    · exact ha.1
  · show vSm (if _ then _ else _)
    split
    · exact hb.2
    · exact ha.2
theorem E_Min2 (x y : V) : m_slices_MinFunc_Limpl_Value_impl_Value ([x, y] : List V) (fun b0_ b1_ => m_impl_Value_order b0_ b1_) = some (if vOrd y x < 0 then y else x) := by
  have hp : (fun b0_ b1_ => m_impl_Value_order b0_ b1_) = fun a b => some (vOrd a b) := by funext a b; exact E_order _ _
  rw [hp]
  have : m_slices_MinFunc_Limpl_Value_impl_Value ([x, y] : List V) (fun a b => some (vOrd a b)) = bif decide (vOrd y x < 0) then some y else some x := by
    by_cases h : vOrd y x < 0
    · rw [decide_eq_true h, cond_true]
      unfold m_slices_MinFunc_Limpl_Value_impl_Value; rw [show decide ((([x, y] : List V).length : Int) < 1) = false from rfl, cond_false, show at? ([x, y] : List V) (0 : Int) = some x from rfl, Option.bind_some, show ((([x, y] : List V).length : Int) - 1).toNat + 1 = 2 from rfl]; simp [m_slices_MinFunc_Limpl_Value_impl_Value_l1, m_slices_MinFunc_Limpl_Value_impl_Value_j1, m_slices_MinFunc_Limpl_Value_impl_Value_j2, at?, Lift.lt, h, ckI]
    · rw [decide_eq_false h, cond_false]
      unfold m_slices_MinFunc_Limpl_Value_impl_Value; rw [show decide ((([x, y] : List V).length : Int) < 1) = false from rfl, cond_false, show at? ([x, y] : List V) (0 : Int) = some x from rfl, Option.bind_some, show ((([x, y] : List V).length : Int) - 1).toNat + 1 = 2 from rfl]; simp [m_slices_MinFunc_Limpl_Value_impl_Value_l1, m_slices_MinFunc_Limpl_Value_impl_Value_j1, m_slices_MinFunc_Limpl_Value_impl_Value_j2, at?, Lift.lt, h, ckI]
  rw [this]
  by_cases h : vOrd y x < 0
  · rw [if_pos h, decide_eq_true h]; rfl
  · rw [if_neg h, decide_eq_false h]; rfl
theorem E_Max2 (x y : V) : m_slices_MaxFunc_Limpl_Value_impl_Value ([x, y] : List V) (fun b0_ b1_ => m_impl_Value_order b0_ b1_) = some (if vOrd y x > 0 then y else x) := by
  have hp : (fun b0_ b1_ => m_impl_Value_order b0_ b1_) = fun a b => some (vOrd a b) := by funext a b; exact E_order _ _
  rw [hp]; unfold m_slices_MaxFunc_Limpl_Value_impl_Value; rw [show decide ((([x, y] : List V).length : Int) < 1) = false from rfl, cond_false, show at? ([x, y] : List V) (0 : Int) = some x from rfl, Option.bind_some, show ((([x, y] : List V).length : Int) - 1).toNat + 1 = 2 from rfl]
  by_cases h : vOrd y x > 0
  · simp [m_slices_MaxFunc_Limpl_Value_impl_Value_l1, m_slices_MaxFunc_Limpl_Value_impl_Value_j1, m_slices_MaxFunc_Limpl_Value_impl_Value_j2, at?, Lift.lt, h, ckI]
  · simp [m_slices_MaxFunc_Limpl_Value_impl_Value_l1, m_slices_MaxFunc_Limpl_Value_impl_Value_j1, m_slices_MaxFunc_Limpl_Value_impl_Value_j2, at?, Lift.lt, h, ckI]
theorem E_impl_KnownBoth {a b : Kn} (ha : knSm a) (hb : knSm b) : m_impl_KnownBoth a b = some (kB a b) := by
  unfold m_impl_KnownBoth m_impl_KnownBoth_j1 m_impl_KnownBoth_j2 kB; rw [E_impl_KnownOk ha, Option.bind_some, E_impl_KnownOk hb, Option.bind_some]; cases h1 : knOk a with
  | false => rfl
  | true =>
    cases h2 : knOk b with
    | false => rfl
    | true =>
      obtain ⟨a1, a2, a3, a4⟩ := knOk_b h1; obtain ⟨b1, b2, b3, b4⟩ := knOk_b h2; rw [if_neg (by simp), Bool.not_true, cond_false, cond_false]
      by_cases h0 : a.Many = 0
      · rw [show (a.Many == 0) = true by simp [h0], cond_true, if_pos h0]; rfl
      rw [beqF h0, cond_false, if_neg h0]
      by_cases h3 : b.Many = 0
      · rw [show (b.Many == 0) = true by simp [h3], cond_true, if_pos h3]; rfl
      rw [beqF h3, cond_false, if_neg h3]
      by_cases h4 : a.Least.Kind = b.Least.Kind
      · rw [show (a.Least.Kind != b.Least.Kind) = false by simp [h4], cond_false, if_neg (by simpa using h4), ckI_of (by omega) (by omega), Option.bind_some]
        by_cases h5 : a.Many + b.Many > 100
        · rw [decide_eq_true h5, cond_true, if_pos h5]; rfl
        · rw [decide_eq_false h5, cond_false, if_neg h5, ckI_of (by omega) (by omega), Option.bind_some, E_Min2, Option.bind_some, E_Max2, Option.bind_some]; rfl
      · rw [beqF' h4, cond_true, if_pos h4]; rfl
theorem E_spec_KnownBoth {a b : Kn} (ha : knSm a) (hb : knSm b) : m_spec_KnownBoth a b = some (kB a b) := by
  unfold m_spec_KnownBoth m_spec_KnownBoth_j1 m_spec_KnownBoth_j2 m_spec_KnownBoth_j3 m_spec_KnownBoth_j4 kB; rw [E_spec_KnownOk ha, Option.bind_some, E_spec_KnownOk hb, Option.bind_some]; cases h1 : knOk a with
  | false => rfl
  | true =>
    cases h2 : knOk b with
    | false => rfl
    | true =>
      obtain ⟨a1, a2, a3, a4⟩ := knOk_b h1; obtain ⟨b1, b2, b3, b4⟩ := knOk_b h2; rw [if_neg (by simp), Bool.not_true, cond_false, cond_false]
      by_cases h0 : a.Many = 0
      · rw [show (a.Many == 0) = true by simp [h0], cond_true, if_pos h0]; rfl
      rw [beqF h0, cond_false, if_neg h0]
      by_cases h3 : b.Many = 0
      · rw [show (b.Many == 0) = true by simp [h3], cond_true, if_pos h3]; rfl
      rw [beqF h3, cond_false, if_neg h3]
      by_cases h4 : a.Least.Kind = b.Least.Kind
      · rw [show (a.Least.Kind != b.Least.Kind) = false by simp [h4], cond_false, if_neg (by simpa using h4), ckI_of (by omega) (by omega), Option.bind_some]
        by_cases h5 : a.Many + b.Many > 100
        · rw [decide_eq_true h5, cond_true, if_pos h5]; rfl
        · rw [decide_eq_false h5, cond_false, if_neg h5, ckI_of (by omega) (by omega), Option.bind_some]
          simp only [Lift.lt, E_ValueOrder hb.1 ha.1, E_ValueOrder hb.2 ha.2, Option.bind_some]; unfold vvOrd; rw [a3, a4, b3, b4, Bool.and_self, if_pos rfl, if_pos rfl]
          by_cases h6 : vOrd b.Least a.Least < 0
          · by_cases h7 : vOrd b.Most a.Most > 0 <;> simp [h6, h7]
          · by_cases h7 : vOrd b.Most a.Most > 0 <;> simp [h6, h7]
      · rw [beqF' h4, cond_true, if_pos h4]; rfl
def knT (k : Kn) (t : Int) : V :=
  if knOk k = false then v0
  else if t = 1 then ⟨1, k.Many, ⟨#[]⟩⟩
  else if t = 2 then (if k.Least.Kind = 1 ∧ -9999 ≤ k.Sum ∧ k.Sum ≤ 9999 then ⟨1, k.Sum, ⟨#[]⟩⟩ else v0)
  else if t = 3 then k.Least
  else if t = 4 then k.Most
  else v0
theorem knT_ok (k : Kn) (t : Int) : vOk (knT k t) = true := by
  unfold knT; cases h : knOk k with
  | false => rw [if_pos rfl]; exact vOk_v0
  | true =>
    obtain ⟨a1, a2, a3, a4⟩ := knOk_b h; rw [if_neg (by simp)]
    split; · rw [vOk_num, decide_eq_true (by omega), decide_eq_true (by omega)]; rfl
    split
    · split
      · rename_i h; rw [vOk_num, decide_eq_true h.2.1, decide_eq_true h.2.2]; rfl
      · exact vOk_v0
    split; · exact a3
    split; · exact a4
    exact vOk_v0
theorem E_numOfG (n : Int) : m_impl_numOf n = some (if -9999 ≤ n ∧ n ≤ 9999 then ⟨1, n, ⟨#[]⟩⟩ else v0) := by
  unfold m_impl_numOf; simp only [Lift.lt]; rw [E_Value_ok (by show (0 : Nat) ≤ _; decide), Option.bind_some, vOk_num]
  by_cases h : -9999 ≤ n ∧ n ≤ 9999
  · rw [decide_eq_true h.1, decide_eq_true h.2, if_pos h]; rfl
  · rw [if_neg h, show (decide (-9999 ≤ n) && decide (n ≤ 9999)) = false by rw [Bool.and_eq_false_iff, decide_eq_false_iff_not, decide_eq_false_iff_not]; omega]; rfl
theorem E_impl_KnownTell {k : Kn} {t : Int} (h : knSm k) : m_impl_KnownTell k t = some (knT k t) := by
  unfold m_impl_KnownTell m_impl_KnownTell_j1 knT; rw [E_impl_KnownOk h, Option.bind_some]; cases hk : knOk k with
  | false => rfl
  | true =>
    obtain ⟨a1, a2, a3, a4⟩ := knOk_b hk; rw [if_neg (by simp), Bool.not_true, cond_false, E_numOfG, Option.bind_some, E_numOfG, Option.bind_some, if_pos (by omega)]; simp only [Lift.lt]
    by_cases h1 : t = 1
    · simp [h1]
    by_cases h2 : t = 2
    · by_cases h3 : k.Least.Kind = 1
      · simp [h1, h2, h3]
      · simp [h1, h2, h3, beqF h3]; rfl
    by_cases h3 : t = 3
    · simp [h3]
    by_cases h4 : t = 4
    · simp [h4]
    simp [h1, h2, h3, h4, beqF h1, beqF h2, beqF h3, beqF h4]; rfl
theorem E_spec_KnownTell {k : Kn} {t : Int} (h : knSm k) : m_spec_KnownTell k t = some (knT k t) := by
  unfold m_spec_KnownTell m_spec_KnownTell_j1 knT; rw [E_spec_KnownOk h, Option.bind_some]; cases hk : knOk k with
  | false => rfl
  | true =>
    obtain ⟨a1, a2, a3, a4⟩ := knOk_b hk; rw [if_neg (by simp), Bool.not_true, cond_false, E_l1In, Option.bind_some]; simp only [Lift.lt]
    by_cases h1 : t = 1
    · simp [h1]
    by_cases h2 : t = 2
    · by_cases h3 : k.Least.Kind = 1
      · by_cases h4 : -9999 ≤ k.Sum ∧ k.Sum ≤ 9999
        · simp [h1, h2, h3, h4]
        · have : (decide (-9999 ≤ k.Sum) && decide (k.Sum ≤ 9999)) = false := by rw [Bool.and_eq_false_iff, decide_eq_false_iff_not, decide_eq_false_iff_not]; omega
          simp [h1, h2, h3, h4, this]; rfl
      · simp [h1, h2, h3, beqF h3]; rfl
    by_cases h3 : t = 3
    · simp [h3]
    by_cases h4 : t = 4
    · simp [h4]
    simp [h1, h2, h3, h4, beqF h1, beqF h2, beqF h3, beqF h4]; rfl
def gKey (by' : List Int) (r : Row) : Row := by'.map (rowAt r)
def knF (by' : List Int) (i : Int) (rows : Rows) (key : Row) : Kn := rows.foldl (fun k r => if gKey by' r = key then kB k (kOf (rowAt r i)) else k) kn0
def gpsG (by' : List Int) (i : Int) (rows : Rows) : List Gp := (onceR (rows.map (gKey by'))).map fun k => ⟨k, knF by' i rows k⟩
def rowsG (by' : List Int) (i : Int) (rows : Rows) (t : Int) : Rows := (onceR (rows.map (gKey by'))).map fun k => k ++ [knT (knF by' i rows k) t]
structure gOk (n : Nat) (by' : List Int) (i : Int) (rows : Rows) : Prop where
  many : rows.length ≤ 100
  row : ∀ r ∈ rows, r.length = n ∧ rowOk r = true
  bys : takeOk n by' = true
  len : by'.length ≤ 3
  idx : inR n i = true
theorem gOk.at {n : Nat} {by' : List Int} {i : Int} {rows : Rows} (h : gOk n by' i rows) {r : Row} (hr : r ∈ rows) {k : Int} (hk : inR n k = true) : vOk (rowAt r k) = true := by
  obtain ⟨h1, h2⟩ := h.row r hr; have := inR_of hk; unfold rowAt; exact vOk_getD h2 (by omega)
theorem gOk.key {n : Nat} {by' : List Int} {i : Int} {rows : Rows} (h : gOk n by' i rows) {r : Row} (hr : r ∈ rows) : (gKey by' r).length ≤ 3 ∧ ∀ v ∈ gKey by' r, vOk v = true := by
  have hb := h.bys; unfold takeOk at hb; unfold gKey; refine ⟨by rw [List.length_map]; exact h.len, fun v hv => ?_⟩; obtain ⟨k, hk, rfl⟩ := List.mem_map.1 hv; exact h.at hr (List.all_eq_true.1 hb k hk)
theorem gOk.ks {n : Nat} {by' : List Int} {i : Int} {rows : Rows} (h : gOk n by' i rows) {k : Row} (hk : k ∈ rows.map (gKey by')) : k.length ≤ 3 ∧ (∀ v ∈ k, vOk v = true) ∧ rSm k := by
  obtain ⟨r, hr, rfl⟩ := List.mem_map.1 hk; have := h.key hr; exact ⟨this.1, this.2, by omega, fun v hv => vOk_sm (this.2 v hv)⟩
theorem E_clone_x {l : Row} (h : l.length ≤ 900000000) : m_impl_clone_impl_Value_x l = some l := by
  unfold m_impl_clone_impl_Value_x appN?; cases l with
  | nil => rfl
  | cons x l =>
    have e : (((x :: l).length : Int) == 0) = false := by simp; omega
    rw [e, cond_false, if_pos ⟨by simp, by omega⟩, Option.bind_some]
theorem E_taken_x {r : Row} {l : List Int} (h : takeOk r.length l = true) (hl : l.length ≤ 1100000) : m_impl_taken_x r l = some (l.map (rowAt r)) := by
  unfold m_impl_taken_x; have e := scanM (f := rowAt r) (J := fun o => m_impl_taken_x_j1 o) l (fun n k o => m_impl_taken_x_l1 n r l (l.length : Int) k o) (fun n k x o hx ho => ?_) (fun n o ho => by rw [m_impl_taken_x_l1, dnlt, cond_false]) _ fuel0
  · rw [e]
    unfold m_impl_taken_x_j1; rw [E_clone_x (by simp; omega)]; rfl
  · have hk := lt_of_at hx
    have hi : inR r.length x = true := by unfold takeOk at h; exact List.all_eq_true.1 h x (List.mem_of_getElem? hx)
    rw [m_impl_taken_x_l1, dlt hk, cond_true, at_of hx, Option.bind_some, getD_in (d := v0) hi, Option.bind_some, app_of (by simp; omega), Option.bind_some, ck1 (by omega), Option.bind_some]; rfl
theorem E_l6Taken {r : Row} {l : List Int} (h : takeOk r.length l = true) (hl : l.length ≤ 1100000) : m_spec_l6Taken r l = some (l.map (rowAt r)) := by
  unfold m_spec_l6Taken; have e := scanM (f := rowAt r) (J := fun o => m_spec_l6Taken_j1 o) l (fun n k o => m_spec_l6Taken_l1 n r l k o) (fun n k x o hx ho => ?_) (fun n o ho => by rw [m_spec_l6Taken_l1, dnlt, cond_false]) _ fuel0
  · rw [e]; rfl
  · have hk := lt_of_at hx
    have hi : inR r.length x = true := by unfold takeOk at h; exact List.all_eq_true.1 h x (List.mem_of_getElem? hx)
    rw [m_spec_l6Taken_l1, dlt hk, cond_true, at_of hx, Option.bind_some, getD_in (d := v0) hi, Option.bind_some, app_of (by simp; omega), Option.bind_some, ck1 (by omega), Option.bind_some]; rfl
theorem knF_snoc {by' : List Int} {i : Int} {d : Rows} {r key : Row} : knF by' i (d ++ [r]) key = if gKey by' r = key then kB (knF by' i d key) (kOf (rowAt r i)) else knF by' i d key := by
  unfold knF; rw [List.foldl_append]; rfl
theorem knF_none {by' : List Int} {i : Int} {key : Row} : ∀ {d : Rows}, key ∉ d.map (gKey by') → knF by' i d key = kn0 := by
  intro d; unfold knF
  induction d with
  | nil => intro _; rfl
  | cons r d ih =>
    intro h; rw [List.map_cons, List.mem_cons, not_or] at h; rw [List.foldl_cons, if_neg (fun e => h.1 e.symm)]; exact ih h.2
theorem E_l10Known {n : Nat} {by' : List Int} {i : Int} {rows : Rows} {key : Row} (h : gOk n by' i rows) : m_spec_l10Known rows by' i key = some (knF by' i rows key) ∧ knSm (knF by' i rows key) := by
  unfold m_spec_l10Known; simp only [Lift.lt]; have hl := h.many
  have hh := scanF (f := fun (k : Kn) r => if gKey by' r = key then kB k (kOf (rowAt r i)) else k) (J := fun s => some s) (fun _ s => knSm s) rows (fun n k s => m_spec_l10Known_l1 n rows by' i key k kn0 s) (fun m k r s hx hs => by
    have hlt := lt_of_at hx; have hm := List.mem_of_getElem? hx; obtain ⟨r1, r2⟩ := h.row r hm; have hb := h.bys; have hi := h.idx; rw [← r1] at hb hi; have hv := vOk_sm (h.at hm h.idx); have h3 := h.len; rw [m_spec_l10Known_l1, dlt hlt, cond_true, at_of hx, Option.bind_some, Option.bind_some, E_l6Taken hb (by omega), Option.bind_some, E_l3Same (by rw [List.length_map]; omega), Option.bind_some, getD_in (d := v0) hi, Option.bind_some]; show (bif decide (gKey by' r = key) then _ else _) = _ ∧ _; unfold m_spec_l10Known_j1; rw [ck1 (by omega), Option.bind_some, show r.getD i.toNat v0 = rowAt r i from rfl, E_spec_KnownOf hv, Option.bind_some, E_spec_KnownBoth hs (kOf_sm hv), Option.bind_some]; simp only [Lift.lt, Option.bind_some]
    by_cases hk : gKey by' r = key
    · rw [decide_eq_true hk, cond_true, if_pos hk]
      exact ⟨rfl, kB_sm hs (kOf_sm hv)⟩
    · rw [decide_eq_false hk, cond_false, if_neg hk]
      exact ⟨rfl, hs⟩) (fun m s _ => by rw [m_spec_l10Known_l1, dnlt, cond_false]; rfl) _ fuel0 kn0 kn0_sm
  exact ⟨hh.1, hh.2⟩
theorem E_spec_RowsOnce {rs : Rows} (h : rsSm rs) : m_spec_RowsOnce rs = some (onceR rs) := by
  obtain ⟨h1, h2⟩ := h; unfold m_spec_RowsOnce
  have hh := scanF (f := fun (out : Rows) r => if r ∈ out then out else out ++ [r]) (J := fun s => m_spec_RowsOnce_j2 s) (fun k s => s.length ≤ k ∧ ∀ x ∈ s, rSm x) rs (fun n k s => m_spec_RowsOnce_l1 n rs k s) (fun n k x s hx hI => by
    have hlt := lt_of_at hx; obtain ⟨hI1, hI2⟩ := hI; have hxs := h2 x (List.mem_of_getElem? hx); rw [m_spec_RowsOnce_l1, dlt hlt, cond_true, at_of hx, Option.bind_some, E_spec_RowMany (by omega) (fun y hy => by have := (hI2 y hy).1; omega), Option.bind_some, rowMany_count]; unfold m_spec_RowsOnce_j1; have hc : 0 < s.count x ↔ x ∈ s := List.count_pos_iff
    by_cases hm : x ∈ s
    · have : ((s.count x : Nat) : Int) ≠ 0 := by have := hc.2 hm; omega
      rw [beqF this, cond_false, ck1 (by omega), Option.bind_some, if_pos hm]; exact ⟨rfl, by omega, hI2⟩
    · have h0 : s.count x = 0 := by
        rcases Nat.eq_zero_or_pos (s.count x) with h | h
        · exact h
        · exact absurd (hc.1 h) hm
      rw [h0, show (((0 : Nat) : Int) == 0) = true from rfl, cond_true, Option.bind_some, E_l3Own (by have := hxs.1; omega), Option.bind_some, app_of (by simp; omega), Option.bind_some, ck1 (by omega), Option.bind_some, if_neg hm]; refine ⟨rfl, by simp; omega, fun y hy => ?_⟩; rcases List.mem_append.1 hy with hy | hy
      · exact hI2 y hy
      · rw [List.mem_singleton.1 hy]; exact hxs) (fun n s _ => by rw [m_spec_RowsOnce_l1, dnlt, cond_false]) _ fuel0 [] ⟨by simp, by simp⟩
  rw [hh.1]; rfl
theorem onceR_snoc {d : Rows} {k : Row} : onceR (d ++ [k]) = if k ∈ onceR d then onceR d else onceR d ++ [k] := by
  unfold onceR; rw [List.foldl_append]; rfl
def gStep (by' : List Int) (i : Int) (S : List Gp) (r : Row) : List Gp :=
  if gKey by' r ∈ S.map (·.f_by) then S.map fun g => if g.f_by = gKey by' r then { g with known := kB g.known (kOf (rowAt r i)) } else g
  else S ++ [⟨gKey by' r, kB kn0 (kOf (rowAt r i))⟩]
theorem gps_by {by' : List Int} {i : Int} {d : Rows} : (gpsG by' i d).map (·.f_by) = onceR (d.map (gKey by')) := by
  unfold gpsG; rw [List.map_map]; exact List.map_id _
theorem gStep_gps {by' : List Int} {i : Int} {d : Rows} {r : Row} : gStep by' i (gpsG by' i d) r = gpsG by' i (d ++ [r]) := by
  unfold gStep; rw [gps_by]; unfold gpsG; rw [List.map_append, List.map_singleton, onceR_snoc]
  by_cases h : gKey by' r ∈ onceR (d.map (gKey by'))
  · rw [if_pos h, if_pos h, List.map_map]
    refine List.map_congr_left fun k hk => ?_; show (if k = gKey by' r then _ else _) = _; rw [knF_snoc]
    by_cases e : k = gKey by' r
    · rw [if_pos e, if_pos e.symm]
    · rw [if_neg e, if_neg (fun h => e h.symm)]
  · rw [if_neg h, if_neg h, List.map_append, List.map_singleton, knF_snoc, if_pos rfl, knF_none (fun hm => h (onceR_mem.2 hm))]
    congr 1
    refine List.map_congr_left fun k hk => ?_; have hne : gKey by' r ≠ k := fun e => h (by rw [e]; exact hk)
    rw [knF_snoc, if_neg hne]
theorem foldl_gStep {by' : List Int} {i : Int} : ∀ (r d : Rows), r.foldl (gStep by' i) (gpsG by' i d) = gpsG by' i (d ++ r)
  | [], d => by simp
  | x :: r, d => by rw [List.foldl_cons, gStep_gps, foldl_gStep r]; simp
theorem idxI_at {α : Type} {q : α → Bool} : ∀ {l : List α}, 0 ≤ idxI q l → ∃ x, l[(idxI q l).toNat]? = some x ∧ q x = true
  | [], h => by simp [idxI] at h
  | x :: l, h => by
    cases hq : q x with
    | true => rw [idxI_pos hq]; exact ⟨x, rfl, hq⟩
    | false =>
      rw [idxI_neg hq] at h ⊢
      by_cases h0 : idxI q l < 0
      · rw [if_pos h0] at h; omega
      · rw [if_neg h0] at h ⊢
        obtain ⟨y, h1, h2⟩ := idxI_at (q := q) (l := l) (by omega); refine ⟨y, ?_, h2⟩; rw [show (idxI q l + 1).toNat = (idxI q l).toNat + 1 by omega]; simpa using h1
theorem set_map {u : Gp → Gp} {key : Row} {g : Gp} : ∀ {S : List Gp} {j : Nat}, (S.map (·.f_by)).Nodup → S[j]? = some g → g.f_by = key → S.set j (u g) = S.map fun g => if g.f_by = key then u g else g
  | [], _, _, h, _ => by simp at h
  | x :: S, 0, hn, h, hk => by
    simp only [List.getElem?_cons_zero, Option.some.injEq] at h; subst h; rw [List.map_cons, List.nodup_cons] at hn; rw [List.set_cons_zero, List.map_cons, if_pos hk]
    congr 1
    refine (List.map_id S).symm.trans (List.map_congr_left fun y hy => ?_); rw [if_neg (fun e => hn.1 (by rw [hk, ← e]; exact List.mem_map.2 ⟨y, hy, rfl⟩))]; rfl
  | x :: S, j + 1, hn, h, hk => by
    rw [List.map_cons, List.nodup_cons] at hn; rw [List.getElem?_cons_succ] at h; rw [List.set_cons_succ, List.map_cons, set_map hn.2 h hk, if_neg (fun e => hn.1 (by rw [e, ← hk]; exact List.mem_map.2 ⟨g, List.mem_of_getElem? h, rfl⟩))]
def gQ (key : Row) (g : Gp) : Bool := decide (g.f_by = key)
theorem E_groups_1 {g : Gp} {key : Row} (h : g.f_by.length ≤ 3) : m_impl_groups_1 g key = some (gQ key g) := by
  unfold m_impl_groups_1 gQ; rw [E_Equal (by omega), Option.bind_some]
def gInv (k : Nat) (s : List Gp) : Prop := s.length ≤ k ∧ (s.map (·.f_by)).Nodup ∧ (∀ g ∈ s, knSm g.known) ∧ ∀ g ∈ s, g.f_by.length ≤ 3
theorem gStep_inv {by' : List Int} {i : Int} {k : Nat} {s : List Gp} {r : Row} (h : gInv k s) (hv : vSm (rowAt r i)) (hkl : (gKey by' r).length ≤ 3) : gInv (k + 1) (gStep by' i s r) := by
  obtain ⟨I1, I2, I3, I4⟩ := h; unfold gStep
  by_cases hmem : gKey by' r ∈ s.map (·.f_by)
  · rw [if_pos hmem]
    refine ⟨by rw [List.length_map]; omega, ?_, ?_, ?_⟩
    · rw [List.map_map]
      have : ((fun g : Gp => g.f_by) ∘ fun g : Gp => if g.f_by = gKey by' r then { g with known := kB g.known (kOf (rowAt r i)) } else g) = fun g => g.f_by := by
        funext g
        show (if _ then _ else _ : Gp).f_by = _
        split <;> rfl
      rw [this]; exact I2
    · intro g hg
      obtain ⟨y, hy, rfl⟩ := List.mem_map.1 hg
      split
      · exact kB_sm (I3 y hy) (kOf_sm hv)
      · exact I3 y hy
    · intro g hg
      obtain ⟨y, hy, rfl⟩ := List.mem_map.1 hg
      split <;> exact I4 y hy
  · rw [if_neg hmem]
    refine ⟨by simp; omega, ?_, ?_, ?_⟩
    · rw [List.map_append, List.nodup_append]
      refine ⟨I2, by simp, ?_⟩; intro a ha b hb e; rw [List.map_singleton, List.mem_singleton] at hb; have hb' : b = gKey by' r := hb
      exact hmem (by rw [← hb', ← e]; exact ha)
    · intro g hg
      rcases List.mem_append.1 hg with hg | hg
      · exact I3 g hg
      · rw [List.mem_singleton.1 hg]; exact kB_sm kn0_sm (kOf_sm hv)
    · intro g hg
      rcases List.mem_append.1 hg with hg | hg
      · exact I4 g hg
      · rw [List.mem_singleton.1 hg]; exact hkl
theorem E_gfind {s : List Gp} {key : Row} (h : ∀ g ∈ s, g.f_by.length ≤ 3) (hl : s.length ≤ 1000) : m_slices_IndexFunc_Limpl_group_impl_group s (fun b0_ => m_impl_groups_1 b0_ key) = some (idxI (gQ key) s) :=
  L_slices_IndexFunc_Limpl_group_impl_group (q := gQ key) (by omega) (fun g hg => E_groups_1 (h g hg))
theorem E_groups_j1 {k1 : List Int → Int → Rows → Int → Int → List Gp → Option (List Gp)} {by' : List Int} {i : Int} {rows : Rows} {r : Row} {S : List Gp} {g : Gp} {j : Int} {n k : Nat} (hk : k < 1000) (hi : inR r.length i = true) (hv : vSm (rowAt r i)) (h0 : 0 ≤ j) (hg : S[j.toNat]? = some g) (hs : knSm g.known) :
    m_impl_groups_j1 k1 by' i r j rows (n : Int) (k : Int) S = k1 by' i rows n ((k : Int) + 1) (S.set j.toNat { g with known := kB g.known (kOf (rowAt r i)) }) := by
  unfold m_impl_groups_j1; rw [at_z h0 hg, Option.bind_some, Option.bind_some, getD_in (d := v0) hi, Option.bind_some, show r.getD i.toNat v0 = rowAt r i from rfl, E_impl_KnownOf hv, Option.bind_some, E_impl_KnownBoth hs (kOf_sm hv), Option.bind_some, Option.bind_some, Option.bind_some, ck1 (by omega)]; rfl
theorem E_groups_l1 {by' : List Int} {i : Int} {rows : Rows} {r : Row} {s : List Gp} {m n k : Nat} (hI : gInv k s) (hk : k < 1000) (hx : rows[k]? = some r) (hlt : k < n) (hb : takeOk r.length by' = true) (hbl : by'.length ≤ 3) (hi : inR r.length i = true) (hv : vSm (rowAt r i)) :
    m_impl_groups_l1 (m + 1) by' i rows (n : Int) (k : Int) s = m_impl_groups_l1 m by' i rows (n : Int) ((k : Int) + 1) (gStep by' i s r) := by
  obtain ⟨I1, I2, I3, I4⟩ := hI; rw [m_impl_groups_l1, dlt hlt, cond_true, at_of hx, Option.bind_some, E_taken_x hb (by omega), Option.bind_some, ltE, show by'.map (rowAt r) = gKey by' r from rfl, E_gfind I4 (by omega), Option.bind_some]; have hix := idxI_ge (gQ (gKey by' r)) s; unfold gStep
  by_cases hmem : gKey by' r ∈ s.map (·.f_by)
  · rw [if_pos hmem]
    have hany : s.any (gQ (gKey by' r)) = true := by
      obtain ⟨g, hg, e⟩ := List.mem_map.1 hmem; exact List.any_eq_true.2 ⟨g, hg, decide_eq_true e⟩
    rw [hany, decide_eq_true_eq] at hix; obtain ⟨g, hg1, hg2⟩ := idxI_at hix.2.2; unfold gQ at hg2; rw [decide_eq_true_eq] at hg2; rw [decide_eq_false (by omega), cond_false, E_groups_j1 hk hi hv hix.2.2 hg1 (I3 g (List.mem_of_getElem? hg1)), set_map (u := fun g => { g with known := kB g.known (kOf (rowAt r i)) }) I2 hg1 hg2]
  · rw [if_neg hmem]
    have hany : s.any (gQ (gKey by' r)) = false := by
      rw [List.any_eq_false]; intro g hg e; exact hmem (List.mem_map.2 ⟨g, hg, of_decide_eq_true e⟩)
    rw [hany, decide_eq_false_iff_not] at hix; rw [decide_eq_true (by omega), cond_true, app_of (by simp; omega), Option.bind_some]; have hat : (s ++ [(⟨gKey by' r, kn0⟩ : Gp)])[((s.length : Nat) : Int).toNat]? = some ⟨gKey by' r, kn0⟩ := by simp
    refine (E_groups_j1 hk hi hv (by omega) hat kn0_sm).trans ?_; rw [Int.toNat_natCast, List.set_append_right _ _ (Nat.le_refl _), Nat.sub_self]; rfl
theorem E_groups {n : Nat} {by' : List Int} {i : Int} {rows : Rows} (h : gOk n by' i rows) : m_impl_groups rows by' i = some (gpsG by' i rows) ∧ ∀ g ∈ gpsG by' i rows, knSm g.known := by
  unfold m_impl_groups; have hl := h.many; have h3 := h.len
  have hh := scanF (f := gStep by' i) (J := fun s => some s) gInv rows (fun n k s => m_impl_groups_l1 n by' i rows (rows.length : Int) k s) (fun m k r s hx hI => by
    have hlt := lt_of_at hx; have hm := List.mem_of_getElem? hx; obtain ⟨r1, r2⟩ := h.row r hm; have hb := h.bys; have hi := h.idx; rw [← r1] at hb hi; have hv := vOk_sm (h.at hm h.idx); exact ⟨E_groups_l1 hI (by omega) hx hlt hb h3 hi hv, gStep_inv hI hv (h.key hm).1⟩) (fun m s _ => by rw [m_impl_groups_l1, dnlt, cond_false]; rfl) _ fuel0 [] ⟨by simp, by simp, by simp, by simp⟩
  have e := foldl_gStep (by' := by') (i := i) rows []; rw [show gpsG by' i [] = [] from rfl, List.nil_append] at e; rw [e] at hh; exact ⟨hh.1, hh.2.2.2.1⟩
def rdyI (cs : List Col) (by' : List Int) (i t : Int) : Bool :=
  colsOk cs && (decide (by'.length ≤ 3) && (takeOk cs.length by' && (inR cs.length i && ((decide (1 ≤ t) && decide (t ≤ 4)) && ((t != 2) || ((colAt cs i).Kind == 1))))))
def groupG (cs : List Col) (rows : Rows) (by' : List Int) (i t : Int) : Rows := if rdyI cs by' i t = true ∧ rows.length ≤ 100 ∧ rowsOk cs rows = true then rowsG by' i rows t else []
theorem rdy_g {cs : List Col} {rows : Rows} {by' : List Int} {i t : Int} (h : rdyI cs by' i t = true ∧ rows.length ≤ 100 ∧ rowsOk cs rows = true) : gOk cs.length by' i rows := by
  obtain ⟨h1, h2, h3⟩ := h; unfold rdyI at h1; simp only [Bool.and_eq_true, decide_eq_true_eq] at h1; obtain ⟨_, h4, h5, h6, _⟩ := h1; exact ⟨h2, fun r hr => ⟨(rowsOk_fits h3 hr).2, (rowsOk_fits h3 hr).1⟩, h5, h4, h6⟩
theorem E_impl_groupsOk {cs : List Col} {by' : List Int} {i t : Int} (hc : cs.length ≤ 1100000) (hb : by'.length ≤ 1100000) : m_impl_groupsOk cs by' i t = some (rdyI cs by' i t) := by
  unfold m_impl_groupsOk m_impl_groupsOk_j1 rdyI; rw [E_impl_ColumnsOk (by omega), Option.bind_some]; cases colsOk cs with
  | false => rfl
  | true =>
    rw [cond_true, show decide ((by'.length : Int) ≤ 3) = decide (by'.length ≤ 3) from lenD by'.length 3, Bool.true_and]; cases decide (by'.length ≤ 3) with
    | false => rfl
    | true =>
      rw [cond_true, L_slices_ContainsFunc_Lint_int (q := fun n => !(inR cs.length n)) (by omega) (fun n hn => by
        unfold m_impl_groupsOk_1; rw [ckI_of (by omega) (by omega), Option.bind_some, E_between, Option.bind_some]; rfl), Option.bind_some, Bool.true_and]
      have e : takeOk cs.length by' = !(by'.any fun n => !(inR cs.length n)) := by unfold takeOk; rw [List.all_eq_not_any_not]
      rw [← e]; cases takeOk cs.length by' with
      | false => rfl
      | true =>
        rw [cond_true, ckI_of (by omega) (by omega), Option.bind_some, E_between, Option.bind_some, Bool.true_and, show (decide ((0 : Int) ≤ i) && decide (i ≤ (cs.length : Int) - 1)) = inR cs.length i from rfl]; cases hi : inR cs.length i with
        | false => rfl
        | true =>
          rw [cond_true, E_between, Option.bind_some, Bool.true_and]; cases (decide (1 ≤ t) && decide (t ≤ 4)) with
          | false => rfl
          | true =>
            rw [cond_true, getD_in (d := col0) hi, Option.bind_some, Bool.true_and]; cases (t != 2) <;> rfl
theorem E_spec_l10Ready {cs : List Col} {rows : Rows} {by' : List Int} {i t : Int} (hc : cs.length ≤ 1100000) (hb : by'.length ≤ 1100000) (hs : rsSm rows) : m_spec_l10Ready cs rows by' i t = some (decide (rdyI cs by' i t = true ∧ rows.length ≤ 100 ∧ rowsOk cs rows = true)) := by
  unfold m_spec_l10Ready; have hrc : rowsOk cs rows = true → colsOk cs = true := by unfold rowsOk; rw [Bool.and_eq_true]; exact fun h => h.1
  have e := scanA (p := fun n => !(inR cs.length n)) (r0 := false) (r1 := rowsOk cs rows && (decide (rows.length ≤ 100) && (decide (by'.length ≤ 3) && (inR cs.length i && ((decide (1 ≤ t) && decide (t ≤ 4)) && ((t != 2) || ((colAt cs i).Kind == 1))))))) by' (fun n k => m_spec_l10Ready_l1 n cs rows by' i t k) (fun n k x hx => by
    have := lt_of_at hx; rw [m_spec_l10Ready_l1, dlt this, cond_true, at_of hx, Option.bind_some, ckI_of (by omega) (by omega), Option.bind_some, E_l1In, Option.bind_some, ck1 (by omega), Option.bind_some]; rfl) (fun n => by
    rw [m_spec_l10Ready_l1, dnlt, cond_false]; unfold m_spec_l10Ready_j1 m_spec_l10Ready_j2; rw [E_spec_RowsOk (by omega) hs, Option.bind_some]; cases rowsOk cs rows with
    | false => rfl
    | true =>
      rw [cond_true, show decide ((rows.length : Int) ≤ 100) = decide (rows.length ≤ 100) from lenD rows.length 100, Bool.true_and]; cases decide (rows.length ≤ 100) with
      | false => rfl
      | true =>
        have e3 : decide ((by'.length : Int) < 4) = decide (by'.length ≤ 3) := by rw [decide_eq_decide]; omega
        rw [cond_true, e3, Bool.true_and]; cases decide (by'.length ≤ 3) with
        | false => rfl
        | true =>
          rw [cond_true, ckI_of (by omega) (by omega), Option.bind_some, E_l1In, Option.bind_some, Bool.true_and, show (decide ((0 : Int) ≤ i) && decide (i ≤ (cs.length : Int) - 1)) = inR cs.length i from rfl]; cases hi : inR cs.length i with
          | false => rfl
          | true =>
            rw [cond_true, E_l1In, Option.bind_some, Bool.true_and]; cases (decide (1 ≤ t) && decide (t ≤ 4)) with
            | false => rfl
            | true =>
              rw [cond_true, getD_in (d := col0) hi, Option.bind_some, Bool.true_and]; cases (t != 2) <;> rfl) _ fuel0
  rw [e]
  congr 1
  have e2 : takeOk cs.length by' = !(by'.any fun n => !(inR cs.length n)) := by unfold takeOk; rw [List.all_eq_not_any_not]
  unfold rdyI; rw [Bool.eq_iff_iff, decide_eq_true_eq, e2]; cases by'.any fun n => !(inR cs.length n) with
  | true => simp
  | false =>
    simp only [cond_false, Bool.and_eq_true, decide_eq_true_eq, Bool.not_false, true_and]; constructor
    · rintro ⟨h1, h2, h3, h4, h5, h6⟩
      exact ⟨⟨hrc h1, h3, h4, h5, h6⟩, h2, h1⟩
    · rintro ⟨⟨h1, h3, h4, h5, h6⟩, h2, h7⟩
      exact ⟨h7, h2, h3, h4, h5, h6⟩
theorem appN_1 {α : Type} (x : α) : appN? [x] = some [x] := by unfold appN?; rw [if_pos ⟨by simp, by simp⟩]
theorem E_impl_GroupRows {cs : List Col} {rows : Rows} {by' : List Int} {i t : Int} (hc : cs.length ≤ 1100000) (hb : by'.length ≤ 1100000) (hs : rsSm rows) : m_impl_GroupRows cs rows by' i t = some (groupG cs rows by' i t) := by
  unfold m_impl_GroupRows m_impl_GroupRows_j1 groupG; rw [E_impl_groupsOk hc hb, Option.bind_some]; cases h1 : rdyI cs by' i t with
  | false => rw [if_neg (by simp)]; rfl
  | true =>
    rw [Bool.not_true, cond_false]
    by_cases h2 : rows.length ≤ 100
    · rw [decide_eq_false (by omega), cond_false, E_impl_RowsOk (by omega) hs, Option.bind_some]
      cases h3 : rowsOk cs rows with
      | false => rw [if_neg (by simp)]; rfl
      | true =>
        rw [if_pos ⟨rfl, h2, rfl⟩, Bool.not_true, cond_false]; have hg := rdy_g ⟨h1, h2, h3⟩; obtain ⟨e1, e2⟩ := E_groups hg; rw [e1, Option.bind_some]
        have hlen : (gpsG by' i rows).length ≤ 100 := by
          unfold gpsG; rw [List.length_map]; have := onceR_len (rs := rows.map (gKey by')); rw [List.length_map] at this; omega
        have hby : ∀ g ∈ gpsG by' i rows, g.f_by.length ≤ 3 := by
          intro g hg'; obtain ⟨k, hk, rfl⟩ := List.mem_map.1 hg'; exact (hg.ks (onceR_mem.1 hk)).1
        have e := scanM (f := fun g : Gp => g.f_by ++ [knT g.known t]) (J := fun o => m_impl_GroupRows_j2 o) (gpsG by' i rows) (fun n k o => m_impl_GroupRows_l1 n t (gpsG by' i rows) ((gpsG by' i rows).length : Int) k o) (fun n k g o hx ho => by
          have hlt := lt_of_at hx; have hm := List.mem_of_getElem? hx; rw [m_impl_GroupRows_l1, dlt hlt, cond_true, at_of hx, Option.bind_some, ltE, E_impl_KnownTell (e2 g hm), Option.bind_some, appN_1, Option.bind_some, app_of (by have := hby g hm; simp; omega), Option.bind_some, app_of (by simp; omega), Option.bind_some, ck1 (by omega), Option.bind_some]) (fun n o ho => by rw [m_impl_GroupRows_l1, dnlt, cond_false]) _ fuel0
        rw [e]; unfold m_impl_GroupRows_j2
        rw [E_rowsCopy (by rw [List.length_map]; omega) (fun r hr => by
          obtain ⟨g, hg', rfl⟩ := List.mem_map.1 hr; have := hby g hg'; simp; omega)]
        unfold gpsG rowsG; rw [List.map_map]; rfl
    · rw [decide_eq_true (by omega), cond_true, if_neg (fun h => h2 h.2.1)]; rfl
theorem E_spec_GroupRows {cs : List Col} {rows : Rows} {by' : List Int} {i t : Int} (hc : cs.length ≤ 1100000) (hb : by'.length ≤ 1100000) (hs : rsSm rows) : m_spec_GroupRows cs rows by' i t = some (groupG cs rows by' i t) := by
  unfold m_spec_GroupRows groupG; rw [E_spec_l10Ready hc hb hs, Option.bind_some]
  by_cases h : rdyI cs by' i t = true ∧ rows.length ≤ 100 ∧ rowsOk cs rows = true
  · rw [decide_eq_true h, Bool.not_true, cond_false, if_pos h]
    have hg := rdy_g h; have h2 := hg.many
    have e := scanM (f := gKey by') (J := fun o => m_spec_GroupRows_j1 rows by' i t [] o) rows (fun n k o => m_spec_GroupRows_l1 n rows by' i t k [] o) (fun n k r o hx ho => by
      have hlt := lt_of_at hx; obtain ⟨r1, r2⟩ := hg.row r (List.mem_of_getElem? hx); have hbk := hg.bys; rw [← r1] at hbk; rw [m_spec_GroupRows_l1, dlt hlt, cond_true, at_of hx, Option.bind_some, E_l6Taken hbk (by omega), Option.bind_some, app_of (by simp; omega), Option.bind_some, ck1 (by omega), Option.bind_some]; rfl) (fun n o ho => by rw [m_spec_GroupRows_l1, dnlt, cond_false]) _ fuel0
    rw [e]; unfold m_spec_GroupRows_j1; have hks : rsSm (rows.map (gKey by')) := ⟨by rw [List.length_map]; omega, fun k hk => (hg.ks hk).2.2⟩; rw [E_spec_RowsOnce hks, Option.bind_some]
    have hlen : (onceR (rows.map (gKey by'))).length ≤ 100 := by
      have := onceR_len (rs := rows.map (gKey by')); rw [List.length_map] at this; omega
    have e2 := scanM (f := fun k : Row => k ++ [knT (knF by' i rows k) t]) (J := fun o => m_spec_GroupRows_j2 o) (onceR (rows.map (gKey by'))) (fun n k o => m_spec_GroupRows_l2 n rows by' i t k o (onceR (rows.map (gKey by')))) (fun n k g o hx ho => by
      have hlt := lt_of_at hx; have hk3 := (hg.ks (onceR_mem.1 (List.mem_of_getElem? hx))).1; obtain ⟨k1, k2⟩ := E_l10Known (key := g) hg; rw [m_spec_GroupRows_l2, dlt hlt, cond_true, at_of hx, Option.bind_some, Option.bind_some, E_l3Own (by omega), Option.bind_some, Option.bind_some, Option.bind_some, k1, Option.bind_some, E_spec_KnownTell k2, Option.bind_some, app_of (by simp; omega), Option.bind_some, app_of (by simp; omega), Option.bind_some, ck1 (by omega), Option.bind_some]) (fun n o ho => by rw [m_spec_GroupRows_l2, dnlt, cond_false]) _ fuel0
    rw [e2]; rfl
  · rw [decide_eq_false h, if_neg h]; rfl
theorem groupG_ok {cs : List Col} {rows : Rows} {by' : List Int} {i t : Int} : (groupG cs rows by' i t).length ≤ 100 ∧ ∀ r ∈ groupG cs rows by' i t, rowOk r = true := by
  unfold groupG
  split
  · rename_i h
    have hg := rdy_g h; have h2 := hg.many; unfold rowsG; refine ⟨?_, fun r hr => ?_⟩
    · rw [List.length_map]
      have := onceR_len (rs := rows.map (gKey by')); rw [List.length_map] at this; omega
    · obtain ⟨k, hk, rfl⟩ := List.mem_map.1 hr
      obtain ⟨k1, k2, _⟩ := hg.ks (onceR_mem.1 hk); refine rowOk_mk (by simp; omega) fun v hv => ?_; rcases List.mem_append.1 hv with hv | hv
      · exact k2 v hv
      · rw [List.mem_singleton.1 hv]; exact knT_ok _ _
  · exact ⟨by simp, by simp⟩
theorem pure_FnExactGroupRows (a0 : List S_laws_Column) (a1 : List (List S_laws_Value)) (a3 : List Int) (a4 a5 : Int) (b0 : B_list B_laws_Column a0) (b1 : B_list (B_list B_laws_Value) a1) (b3 : B_list B_int a3) (b4 : B_int a4) (b5 : B_int a5) : m_laws_FnExactGroupRows a0 a1 a3 a4 a5 = some true := by
  unfold m_laws_FnExactGroupRows
  by_cases hl : (a3.length : Int) > 1048576
  case pos => rw [decide_eq_true hl, cond_true]
  rw [decide_eq_false hl, cond_false, sz_Llaws_Column b0 (by decide) (by decide), Option.bind_some]
  by_cases h0 : (wt_Llaws_Column a0 : Int) ≤ 1048576
  case neg => rw [szR_lt' h0, cond_true]
  rw [szR_lt h0, cond_false, szR_pos h0, sz_LLlaws_Value b1 (by omega) (by omega), Option.bind_some]
  by_cases h1 : (wt_LLlaws_Value a1 : Int) ≤ 1048576 - (wt_Llaws_Column a0 : Int)
  case neg => rw [szR_lt' h1, cond_true]
  rw [szR_lt h1, cond_false]; have hc0 : (cv_Llaws_Column a0).length ≤ 1100000 := by have := wt_Llaws_Column_len (l := a0); unfold cv_Llaws_Column; rw [List.length_map]; omega
  have s1 := smE_rows (l := a1) (by omega); have l1 : (cv_LLlaws_Value a1).length ≤ 1100000 := by have := wt_LLlaws_Value_len (l := a1); unfold cv_LLlaws_Value; rw [List.length_map]; omega
  have t0 := to_Llaws_Column (a := a0) (by omega); have t1 := to_LLlaws_Value (a := a1) (by omega); have t3 := to_Lint (a := a3) (by unfold wt_Lint; omega); have l3 : (cv_Lint a3).length ≤ 1100000 := by unfold cv_Lint; (try rw [List.length_map]); omega
  have w0 : wt_Limpl_Column (cv_Llaws_Column a0) ≤ 1048576 := by rw [wc_Llaws_Column]; omega
  have w1 : wt_LLimpl_Value (cv_LLlaws_Value a1) ≤ 1048576 := by rw [wc_LLlaws_Value]; omega
  rw [t0, Option.bind_some, t1, Option.bind_some, t3, Option.bind_some]; generalize cv_Llaws_Column a0 = cs at *; generalize cv_LLlaws_Value a1 = R at *; generalize cv_Lint a3 = cuts at *; have eC := E_impl_GroupRows (cs := cs) (rows := R) (by' := cuts) (i := a4) (t := a5) (by omega) l3 s1; have eS := E_spec_GroupRows (cs := cs) (rows := R) (by' := cuts) (i := a4) (t := a5) (by omega) l3 s1; obtain ⟨hC, hCk⟩ := groupG_ok (cs := cs) (rows := R) (by' := cuts) (i := a4) (t := a5); generalize groupG cs R cuts a4 a5 = C at *; have hw := wt_rows5 (l := C) (by omega) hCk; have hB := endR_w 1 C; have eqC : m_laws_eqValueSS C C = some true := by rw [eq_LLimpl_Value (by omega)]; exact congrArg some (decide_eq_true rfl)
  have eqRr : m_laws_eqValueSS R R = some true := by rw [eq_LLimpl_Value (by omega)]; exact congrArg some (decide_eq_true rfl)
  have eqa : m_laws_eqColumnS cs cs = some true := by rw [eq_Limpl_Column (by omega)]; exact congrArg some (decide_eq_true rfl)
  have eqc : m_laws_eqIntS cuts cuts = some true := by rw [eq_Lint (by unfold wt_Lint; omega)]; exact congrArg some (decide_eq_true rfl)
  have hB2 := endR_w (1 + 2 * cs.length) R; have hg2 := endM_ge (w := wR) (fun x => by unfold wR; omega) (1 + 2 * (cs.length : Int)) R; have hg1 := endM_ge (w := wR) (fun x => by unfold wR; omega) 1 C; rw [eS, Option.bind_some, Option.bind_some, Option.bind_some, Option.bind_some, eC, Option.bind_some, eqC, Option.bind_some, Bool.not_true, cond_false]; simp only [t0, t1, t3, Option.bind_some, eqa, eqc, eqRr, Bool.not_true, cond_false]; rw [E_markC (by omega) (by omega), Option.bind_some, lenQ_ok (markM_len _ _), Option.bind_some]; simp only []; rw [E_markR (by omega) (by omega) (by omega), Option.bind_some, lenQ_ok (markM_len _ _), Option.bind_some]; simp only []; rw [E_markI (by omega) (by omega) (by omega), Option.bind_some, lenQ_ok (markM_len _ _), Option.bind_some]; simp only []; rw [decide_eq_false (by omega), cond_false]; unfold m_laws_FnExactGroupRows_j1; rw [cond_false, E_markR (by omega) (by omega) (by omega), Option.bind_some, lenQ_ok (markM_len _ _), Option.bind_some]; simp only []; rw [E_heldR (by omega) (by omega) (by omega), Option.bind_some, decide_eq_false (by omega), cond_false, bne_self_eq_false, cond_false, t0, Option.bind_some, t1, Option.bind_some, t3, Option.bind_some, eC, Option.bind_some, eqC, Option.bind_some, Bool.not_true, cond_false, Option.bind_some, decide_eq_false (by omega), cond_false, bne_self_eq_false, cond_false]
end Go.Proofs.Ytbaldobhhpigbaa
