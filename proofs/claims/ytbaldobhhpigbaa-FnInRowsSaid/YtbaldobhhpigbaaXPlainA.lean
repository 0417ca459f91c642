/- What the mirrors come to, in plain Lean: the law itself at the end. -/
import Derived.Test.YtbaldobhhpigbaaXW6
import Derived.Test.YtbaldobhhpigbaaLd
set_option linter.unusedVariables false
set_option linter.unusedSimpArgs false
set_option linter.unnecessarySimpa false
namespace Go.Proofs.Ytbaldobhhpigbaa
open Go.Proofs Go.Lift
abbrev V := S_impl_Value
abbrev Row := List V
abbrev Rows := List Row
def cmpI (a b : Int) : Int := if a < b then -1 else if b < a then 1 else 0
def cmpS (a b : ByteArray) : Int := if sLt a b then -1 else if sLt a b || sEq a b then 0 else 1
def orI (l : List Int) : Int := (l.find? (· != 0)).getD 0
def lower (l : List UInt8) : Bool := l.all fun b => decide (97 ≤ b.toNat) && decide (b.toNat ≤ 122)
def vOk (v : V) : Bool :=
  if v.Kind = 0 then decide (v = ⟨0, 0, ⟨#[]⟩⟩)
  else if v.Kind = 1 then decide (v.S = ⟨#[]⟩) && (decide (-9999 ≤ v.N) && decide (v.N ≤ 9999))
  else if v.Kind = 2 then decide (v.N = 0) && decide (v.S.size ≤ 6) && lower v.S.data.toList
  else if v.Kind = 3 then decide (v.S = ⟨#[]⟩) && (decide (0 ≤ v.N) && decide (v.N ≤ 1))
  else false
def vOrd (v w : V) : Int := orI [cmpI v.Kind w.Kind, cmpI v.N w.N, cmpS v.S w.S]
def rowOk (l : Row) : Bool := decide (l.length ≤ 4) && l.all vOk
def vSm (v : V) : Prop := v.S.size ≤ 1100000
def rSm (l : Row) : Prop := l.length ≤ 1100000 ∧ ∀ v ∈ l, vSm v
def rsSm (l : Rows) : Prop := l.length ≤ 400000000 ∧ ∀ r ∈ l, rSm r
def cmpL {α : Type} (p : α → α → Int) : List α → List α → Int
  | [], [] => 0
  | [], _ :: _ => -1
  | _ :: _, [] => 1
  | a :: x, b :: y => if p a b = 0 then cmpL p x y else p a b
def vvOrd (a b : V) : Int := if vOk a && vOk b then vOrd a b else 0
theorem E_sameRow {a b : Row} (ha : a.length ≤ 900000000) : m_laws_sameRow a b = some (decide (a = b)) := by
  unfold m_laws_sameRow
  by_cases h : a.length = b.length
  · have hc : ((a.length : Int) != (b.length : Int)) = false := by simp [h]
    rw [hc, cond_false, ← all2_eq h]; refine scan2 a b h (fun n k => m_laws_sameRow_l1 n a b k) (fun n k x y hx hy => ?_) (fun n => ?_) _ (by omega)
    · have := lt_of_at hx
      simp only [m_laws_sameRow_l1, dlt this, at_of hx, at_of hy, ck1 (show k < 1000000000000 by omega), Option.bind_some, cond_true]; cases decide (x = y) <;> rfl
    · simp only [m_laws_sameRow_l1, dnlt]; rfl
  · have hc : ((a.length : Int) != (b.length : Int)) = true := by simp; omega
    rw [hc, cond_true]; have : a ≠ b := fun e => h (by rw [e]); simp [this]
theorem E_sameRows {a b : Rows} (ha : a.length ≤ 900000000) (hr : ∀ r ∈ a, r.length ≤ 900000000) : m_laws_sameRows a b = some (decide (a = b)) := by
  unfold m_laws_sameRows
  by_cases h : a.length = b.length
  · have hc : ((a.length : Int) != (b.length : Int)) = false := by simp [h]
    rw [hc, cond_false, ← all2_eq h]; refine scan2 a b h (fun n k => m_laws_sameRows_l1 n a b k) (fun n k x y hx hy => ?_) (fun n => ?_) _ (by omega)
    · have := lt_of_at hx
      simp only [m_laws_sameRows_l1, dlt this, at_of hx, at_of hy, ck1 (show k < 1000000000000 by omega), Option.bind_some, cond_true, E_sameRow (hr x (List.mem_of_getElem? hx))]; cases decide (x = y) <;> rfl
    · simp only [m_laws_sameRows_l1, dnlt]; rfl
  · have hc : ((a.length : Int) != (b.length : Int)) = true := by simp; omega
    rw [hc, cond_true]; have : a ≠ b := fun e => h (by rw [e]); simp [this]
theorem E_IndexFunc_V {l : Row} {p : V → Option Bool} {q : V → Bool} (hl : l.length ≤ 900000000) (hp : ∀ v ∈ l, p v = some (q v)) : m_slices_ContainsFunc_Limpl_Value_impl_Value l p = some (l.any q) := by
  unfold m_slices_ContainsFunc_Limpl_Value_impl_Value m_slices_IndexFunc_Limpl_Value_impl_Value
  have key : ∀ (ys : Row) (k n : Nat), l.drop k = ys → k ≤ l.length → ys.length < n → ∃ i : Int, m_slices_IndexFunc_Limpl_Value_impl_Value_l1 p n l (l.length : Int) (k : Int) = some i ∧ decide (i ≥ 0) = ys.any q := by
    intro ys
    induction ys with
    | nil =>
      intro k n hd hk hn
      have : k = l.length := by
        have := congrArg List.length hd; simp at this; omega
      subst this; obtain ⟨m, rfl⟩ : ∃ m, n = m + 1 := ⟨n - 1, by simp at hn; omega⟩; exact ⟨-1, by simp only [m_slices_IndexFunc_Limpl_Value_impl_Value_l1, dnlt]; rfl, rfl⟩
    | cons y ys ih =>
      intro k n hd hk hn
      have hlt : k < l.length := by
        have := congrArg List.length hd; simp at this; omega
      have hc := List.drop_eq_getElem_cons hlt; rw [hd] at hc; simp only [List.cons.injEq] at hc; have hx : l[k]? = some y := by rw [List.getElem?_eq_getElem hlt, hc.1]
      obtain ⟨m, rfl⟩ : ∃ m, n = m + 1 := ⟨n - 1, by simp at hn; omega⟩; simp only [m_slices_IndexFunc_Limpl_Value_impl_Value_l1, dlt hlt, at_of hx, hp y (List.mem_of_getElem? hx), ck1 (show k < 1000000000000 by omega), Option.bind_some, cond_true]; cases hq : q y
      · obtain ⟨i, h1, h2⟩ := ih (k + 1) m hc.2.symm (by omega) (by simp at hn; omega)
        exact ⟨i, by simpa using h1, by rw [h2]; simp [hq]⟩
      · exact ⟨(k : Int), rfl, by simp [hq]⟩
  obtain ⟨i, h1, h2⟩ := key l 0 _ rfl (by omega) (show l.length < (((l.length : Int) - 0).toNat + 1) by omega); rw [show ((0 : Nat) : Int) = 0 from rfl] at h1; rw [h1]; simp only [Option.bind_some, h2]
theorem E_between (a b c : Int) : m_impl_between a b c = some (decide (b ≤ a) && decide (a ≤ c)) := by
  unfold m_impl_between m_impl_between_j1
  by_cases h : a ≥ b <;> simp [h]
theorem E_l1In (a b c : Int) : m_spec_l1In a b c = some (decide (b ≤ a) && decide (a ≤ c)) := by
  unfold m_spec_l1In m_spec_l1In_j1
  by_cases h : a ≥ b <;> simp [h]
theorem lower_any (l : List UInt8) : lower l = !(l.any fun b => !(decide (97 ≤ (b.toNat : Int)) && decide ((b.toNat : Int) ≤ 122))) := by
  unfold lower; rw [List.all_eq_not_any_not]
  congr 2
  funext b
  congr 1
  have h1 : decide (97 ≤ b.toNat) = decide (97 ≤ (b.toNat : Int)) := by rw [decide_eq_decide]; omega
  have h2 : decide (b.toNat ≤ 122) = decide ((b.toNat : Int) ≤ 122) := by rw [decide_eq_decide]; omega
  rw [h1, h2]
theorem E_letters {s : ByteArray} (h : s.size ≤ 900000000) : m_impl_letters s = some (lower s.data.toList) := by
  unfold m_impl_letters sBytes?; rw [if_pos (by omega)]; simp only [Option.bind_some]; have hl : s.data.toList.length ≤ 900000000 := h
  have := scanA (p := fun b : UInt8 => !(decide (97 ≤ (b.toNat : Int)) && decide ((b.toNat : Int) ≤ 122))) (r0 := false) (r1 := true) s.data.toList (fun n k => m_impl_letters_l1 n s.data.toList (s.data.toList.length : Int) k) (fun n k x hx => by
    have := lt_of_at hx; simp only [m_impl_letters_l1, dlt this, at_of hx, E_between, ck1 (show k < 1000000000000 by omega), Option.bind_some, cond_true]) (fun n => by simp only [m_impl_letters_l1, dnlt]; rfl) _ fuel0
  rw [this, lower_any]; cases s.data.toList.any fun b => !(decide (97 ≤ (b.toNat : Int)) && decide ((b.toNat : Int) ≤ 122)) <;> rfl
theorem sAt_of {s : ByteArray} {k : Nat} {x : UInt8} (h : s.data.toList[k]? = some x) : sAt? s (k : Int) = some x := by
  unfold sAt?; rw [if_pos (by omega)]; obtain ⟨h1, h2⟩ := List.getElem?_eq_some_iff.1 h; have hs : k < s.size := by have := h1; rwa [Array.length_toList] at this
  have : s[k]? = some (s[k]'hs) := by simp [hs]
  rw [Int.toNat_natCast, this]
  congr 1
theorem E_l1Text {s : ByteArray} (h : s.size ≤ 900000000) : m_spec_l1Text s = some (lower s.data.toList && decide (s.size ≤ 6)) := by
  unfold m_spec_l1Text; have hl : s.data.toList.length = s.size := rfl; rw [← hl]
  have := scanA (p := fun b : UInt8 => !(decide (97 ≤ (b.toNat : Int)) && decide ((b.toNat : Int) ≤ 122))) (r0 := false) (r1 := decide ((s.size : Int) ≤ 6)) s.data.toList (fun n k => m_spec_l1Text_l1 n s k) (fun n k x hx => by
    have := lt_of_at hx; have hd : decide ((k : Int) < (s.size : Int)) = true := by rw [← hl]; exact dlt this
    simp only [m_spec_l1Text_l1, m_spec_l1Text_j1, hd, sAt_of hx, ck1 (show k < 1000000000000 by omega), Option.bind_some, cond_true]; have e1 : ((97 : UInt8).toNat : Int) = 97 := rfl; have e2 : ((122 : UInt8).toNat : Int) = 122 := rfl; rw [e1, e2]
    by_cases h1 : (x.toNat : Int) < 97
    · have : ¬ (97 ≤ (x.toNat : Int)) := by omega
      simp [h1, this]
    · have h1' : 97 ≤ (x.toNat : Int) := by omega
      by_cases h2 : (x.toNat : Int) > 122
      · have : ¬ ((x.toNat : Int) ≤ 122) := by omega
        simp [h1, h2, this]
      · have : (x.toNat : Int) ≤ 122 := by omega
        simp [h1, h2, this, h1']) (fun n => by simp only [m_spec_l1Text_l1, hl, dnlt]; rfl) _ fuel0
  rw [this, lower_any]; have e : decide ((s.size : Int) ≤ 6) = decide (s.size ≤ 6) := by rw [decide_eq_decide]; omega
  rw [e]; cases s.data.toList.any fun b => !(decide (97 ≤ (b.toNat : Int)) && decide ((b.toNat : Int) ≤ 122)) <;> simp
theorem E_Value_ok {v : V} (h : v.S.size ≤ 900000000) : m_impl_Value_ok v = some (vOk v) := by
  unfold m_impl_Value_ok m_impl_Value_ok_j1 m_impl_Value_ok_j2 m_impl_Value_ok_j3 vOk; simp only [E_between, E_letters h, Option.bind_some, sEq_eq]
  by_cases h0 : v.Kind = 0
  · simp [h0]
  · by_cases h1 : v.Kind = 1
    · by_cases hs : v.S = ⟨#[]⟩ <;> simp [beqF h0, h0, h1, hs]
    · by_cases h2 : v.Kind = 2
      · by_cases hn : v.N = 0
        · by_cases hs : v.S.size ≤ 6
          · have : (v.S.size : Int) ≤ 6 := by omega
            simp [beqF h0, beqF h1, h0, h1, h2, hn, hs, this]
          · have : ¬ (v.S.size : Int) ≤ 6 := by omega
            simp [beqF h0, beqF h1, h0, h1, h2, hn, hs, this]
        · simp [beqF h0, beqF h1, h0, h1, h2, beqF hn, hn]
      · by_cases h3 : v.Kind = 3
        · by_cases hs : v.S = ⟨#[]⟩ <;> simp [beqF h0, beqF h1, beqF h2, h0, h1, h2, h3, hs]
        · simp [beqF h0, beqF h1, beqF h2, beqF h3, h0, h1, h2, h3]
theorem E_spec_ValueOk {v : V} (h : v.S.size ≤ 900000000) : m_spec_ValueOk v = some (vOk v) := by
  unfold m_spec_ValueOk m_spec_ValueOk_j1 m_spec_ValueOk_j2 m_spec_ValueOk_j3 m_spec_ValueOk_j4 vOk; simp only [E_l1In, E_l1Text h, Option.bind_some, sEq_eq]; obtain ⟨k, n, s⟩ := v; simp only [S_impl_Value.mk.injEq]
  by_cases h0 : k = 0
  · by_cases hn : n = 0
    · simp [h0, hn]
    · simp [h0, hn, beqF hn]
  · by_cases h1 : k = 1
    · by_cases hs : s = ⟨#[]⟩ <;> by_cases ha : -9999 ≤ n <;> by_cases hb : n ≤ 9999 <;> simp [beqF h0, h0, h1, hs, ha, hb]
    · by_cases h2 : k = 2
      · by_cases hn : n = 0
        · simp [beqF h0, beqF h1, h0, h1, h2, hn, Bool.and_comm]
        · simp [beqF h0, beqF h1, h0, h1, h2, beqF hn, hn]
      · by_cases h3 : k = 3
        · by_cases hs : s = ⟨#[]⟩ <;> by_cases ha : 0 ≤ n <;> by_cases hb : n ≤ 1 <;> simp [beqF h0, beqF h1, beqF h2, h0, h1, h2, h3, hs, ha, hb]
        · simp [beqF h0, beqF h1, beqF h2, beqF h3, h0, h1, h2, h3]
theorem E_impl_RowOk {l : Row} (h : rSm l) : m_impl_RowOk l = some (rowOk l) := by
  unfold m_impl_RowOk m_impl_RowOk_j1 rowOk; obtain ⟨h1, h2⟩ := h; rw [E_IndexFunc_V (q := fun v => !(vOk v)) (by omega) (fun v hv => by unfold m_impl_RowOk_1; rw [E_Value_ok (by have := h2 v hv; unfold vSm at this; omega)]; rfl)]; simp only [Option.bind_some]; rw [List.all_eq_not_any_not]
  by_cases h : l.length ≤ 4
  · have : (l.length : Int) ≤ 4 := by omega
    simp [h, this]
  · have : ¬ (l.length : Int) ≤ 4 := by omega
    simp [h, this]
theorem E_spec_RowOk {l : Row} (h : rSm l) : m_spec_RowOk l = some (rowOk l) := by
  unfold m_spec_RowOk rowOk; obtain ⟨h1, h2⟩ := h
  have := scanA (p := fun v => !(vOk v)) (r0 := false) (r1 := decide ((l.length : Int) ≤ 4)) l (fun n k => m_spec_RowOk_l1 n l k) (fun n k x hx => by
    have := lt_of_at hx; have hsm := h2 x (List.mem_of_getElem? hx); unfold vSm at hsm; simp only [m_spec_RowOk_l1, dlt this, at_of hx, E_spec_ValueOk (show x.S.size ≤ 900000000 by omega), ck1 (show k < 1000000000000 by omega), Option.bind_some, cond_true]) (fun n => by simp only [m_spec_RowOk_l1, dnlt]; rfl) _ fuel0
  rw [this, List.all_eq_not_any_not]; have e : decide ((l.length : Int) ≤ 4) = decide (l.length ≤ 4) := by rw [decide_eq_decide]; omega
  rw [e]; cases l.any fun v => !(vOk v) <;> simp
theorem E_alive : m_laws_alive = some true := by
  unfold m_laws_alive m_laws_alive_j1 m_impl_ValueOk; rw [E_Value_ok (by decide), E_Value_ok (by decide)]; rfl
theorem E_CompareI (a b : Int) : m_cmp_Compare_int a b = some (cmpI a b) := by
  unfold m_cmp_Compare_int m_cmp_isNaN_int cmpI; have e : ∀ x : Int, (x != x) = false := fun x => by simp
  simp only [e, Option.bind_some, cond_false]
  by_cases h : a < b
  · simp [h]
  · by_cases h2 : a > b
    · simp [h, h2]
    · simp [h, h2]
theorem E_CompareS (a b : ByteArray) : m_cmp_Compare_string a b = some (cmpS a b) := by
  unfold m_cmp_Compare_string m_cmp_isNaN_string cmpS; have e : ∀ x : ByteArray, (!(sEq x x)) = false := fun x => by simp [sEq_eq]
  simp only [e, Option.bind_some, cond_false]; cases h1 : sLt a b <;> cases h2 : sEq a b <;> simp
theorem E_l1Cmp (a b : ByteArray) : m_spec_l1Cmp a b = some (cmpS a b) := by
  unfold m_spec_l1Cmp cmpS; cases h1 : sLt a b <;> cases h2 : sEq a b <;> simp
theorem E_Or {l : List Int} (h : l.length ≤ 900000000) : m_cmp_Or_int l = some (orI l) := by
  unfold m_cmp_Or_int
  rw [scanC l (fun n k (_ : Unit) => m_cmp_Or_int_l1 n 0 l (l.length : Int) k) (fun x s k => bif (x != 0) then some x else k s) (fun _ => some 0) (fun n k x s hx => by
    have := lt_of_at hx; rw [m_cmp_Or_int_l1, dlt this, cond_true, at_of hx, Option.bind_some, ck1 (show k < 1000000000000 by omega), Option.bind_some]) (fun n s => by rw [m_cmp_Or_int_l1, dnlt]; rfl) _ fuel0 ()]
  clear h; unfold orI
  induction l with
  | nil => rfl
  | cons x l ih =>
    simp only [foldC, List.find?_cons]; cases hx : (x != 0)
    · simpa using ih
    · rfl
theorem E_order (v w : V) : m_impl_Value_order v w = some (vOrd v w) := by
  unfold m_impl_Value_order vOrd; rw [E_CompareI, Option.bind_some, E_CompareI, Option.bind_some, E_CompareS, Option.bind_some, E_Or (by simp)]; rfl
def lessI (a b : Int) : Int := if a < b then 1 else 0
theorem E_Less (a b : Int) : m_spec_l1Less a b = some (lessI a b) := by
  unfold m_spec_l1Less lessI
  by_cases h : a < b <;> simp [h]
theorem less_b (a b : Int) : 0 ≤ lessI a b ∧ lessI a b ≤ 1 := by unfold lessI; split <;> omega
theorem orI_1 {x : Int} {l : List Int} (h : x ≠ 0) : orI (x :: l) = x := by simp [orI, h]
theorem orI_0 {l : List Int} : orI (0 :: l) = orI l := by simp [orI]
theorem cmpI_0 {a b : Int} : cmpI a b = 0 ↔ a = b := by unfold cmpI; split <;> (try split) <;> omega
theorem less_cmp {a b : Int} (h : a ≠ b) : 2 * lessI b a - 1 = cmpI a b := by unfold lessI cmpI; split <;> split <;> (try split) <;> omega
theorem E_ValueOrder {a b : V} (ha : vSm a) (hb : vSm b) : m_spec_ValueOrder a b = some (vvOrd a b) := by
  unfold m_spec_ValueOrder m_spec_ValueOrder_j1 vvOrd vOrd; unfold vSm at ha hb; rw [E_spec_ValueOk (by omega), Option.bind_some, E_spec_ValueOk (by omega), Option.bind_some]; cases vOk a
  · rfl
  cases vOk b
  · rfl
  simp only [Bool.not_true, cond_false, Bool.and_self, if_true, E_Less, E_l1Cmp, Option.bind_some]
  by_cases h1 : a.Kind = b.Kind
  · have : (a.Kind != b.Kind) = false := by simp [h1]
    rw [this, cond_false, cmpI_0.2 h1, orI_0]
    by_cases h2 : a.N = b.N
    · have : (a.N != b.N) = false := by simp [h2]
      rw [this, cond_false, cmpI_0.2 h2, orI_0]
      by_cases h3 : cmpS a.S b.S = 0
      · rw [h3, orI_0]; rfl
      · rw [orI_1 h3]
    · rw [beqF' h2, cond_true, orI_1 (by rw [ne_eq, cmpI_0]; exact h2), ← less_cmp h2]
      have := less_b b.N a.N; rw [ckI_of (by omega) (by omega), Option.bind_some, ckI_of (by omega) (by omega), Option.bind_some]
  · rw [beqF' h1, cond_true, orI_1 (by rw [ne_eq, cmpI_0]; exact h1), ← less_cmp h1]
    have := less_b b.Kind a.Kind; rw [ckI_of (by omega) (by omega), Option.bind_some, ckI_of (by omega) (by omega), Option.bind_some]
theorem E_clone {l : Row} (h : l.length ≤ 900000000) : m_impl_clone_impl_Value l = some l := by
  unfold m_impl_clone_impl_Value appN?; cases l with
  | nil => rfl
  | cons x l =>
    have e : (((x :: l).length : Int) == 0) = false := by simp; omega
    rw [e, cond_false, if_pos ⟨by simp, by omega⟩, Option.bind_some]; rfl
theorem foldl_snoc {α : Type} : ∀ (l a : List α), l.foldl (fun s x => s ++ [x]) a = a ++ l
  | [], a => by simp
  | x :: l, a => by rw [List.foldl_cons, foldl_snoc l]; simp
theorem E_rowsCopy {l : Rows} (h : l.length ≤ 900000000) (hr : ∀ r ∈ l, r.length ≤ 900000000) : m_impl_rowsCopy l = some l := by
  unfold m_impl_rowsCopy
  have := (scanF (f := fun (s : Rows) x => s ++ [x]) (J := fun s => some s) (fun k s => s.length = k) l (fun n k s => m_impl_rowsCopy_l1 n l (l.length : Int) k s) (fun n k x s hx hI => by
    have := lt_of_at hx; rw [m_impl_rowsCopy_l1, dlt this, cond_true, at_of hx, Option.bind_some, E_clone (hr x (List.mem_of_getElem? hx)), Option.bind_some, app_of (by simp; omega), Option.bind_some, ck1 (show k < 1000000000000 by omega), Option.bind_some]
    exact ⟨rfl, by simp [hI]⟩) (fun n s _ => by
      rw [m_impl_rowsCopy_l1, dnlt, cond_false]; unfold m_impl_rowsCopy_j1; rfl) _ fuel0 [] rfl).1
  rw [this, foldl_snoc]; rfl
theorem E_l3Own {l : Row} (h : l.length ≤ 900000000) : m_spec_l3Own l = some l := by
  unfold m_spec_l3Own; rw [app_of (by simp; omega)]; rfl
abbrev Rd := S_spec_l20Rd
def Rd.ok (o : Rd) : Prop := 0 ≤ o.p ∧ o.p ≤ 1000000000
theorem tmod_b {m n : Int} (h : 0 ≤ m) (hn : 0 < n) : 0 ≤ m.tmod n ∧ m.tmod n < n := ⟨Int.tmod_nonneg n h, Int.tmod_lt_of_pos m hn⟩
theorem tdiv_b {m n : Int} (h : 0 ≤ m) (hn : 0 < n) : 0 ≤ m.tdiv n ∧ m.tdiv n ≤ m := ⟨Int.tdiv_nonneg h (Int.le_of_lt hn), Int.tdiv_le_self _ h⟩
theorem T_pick {o : Rd} {n : Int} (ho : 0 ≤ o.p ∧ o.p ≤ 1000000000) : Tot (m_Pspec_l20Rd_pick o n) fun r => 0 ≤ r.1 ∧ (r.1 < n ∨ r.1 = 0) ∧ r.2.p = o.p + 1 := by
  unfold m_Pspec_l20Rd_pick; refine Tot.ck (by omega) (by omega) (Tot.lt ?_); refine Tot.bif (fun h => ?_) (fun h => ?_)
  · unfold m_Pspec_l20Rd_pick_j1
    exact Tot.ret ⟨Int.le_refl _, .inr rfl, rfl⟩
  · simp only [decide_eq_false_iff_not] at h
    unfold m_Pspec_l20Rd_pick_j1; refine Tot.bif (fun h2 => Tot.ret ⟨Int.le_refl _, .inr rfl, rfl⟩) (fun h2 => ?_); have hb : 0 < (o.b.length : Int) := by simp at h2; have := List.length_pos_iff.2 h2; omega
    refine Tot.ck (by simp only; omega) (by simp only; omega) ?_; have e : (o.p + 1 - 1) = o.p := by omega
    simp only [e]; refine Tot.bif (fun h3 => ?_) (fun h3 => ?_)
    · simp only [decide_eq_true_eq] at h3
      refine Tot.at (by omega) h3 (fun x _ => ?_); refine Tot.rem (by omega) (Tot.ret ?_); have := tmod_b (m := (x.toNat : Int)) (n := n) (by omega) (by omega); exact ⟨this.1, .inl this.2, rfl⟩
    · have m1 := tmod_b (m := o.p) (n := o.b.length) (by omega) hb
      refine Tot.rem (by omega) (Tot.at m1.1 m1.2 (fun x _ => ?_)); have hx := x.toNat_lt; refine Tot.ck (by omega) (by omega) (Tot.ck (by omega) (by omega) (Tot.ck (by omega) (by omega) ?_)); have m2 := tmod_b (m := o.p * 7 + 3) (n := o.b.length) (by omega) hb; refine Tot.rem (by omega) (Tot.at m2.1 m2.2 (fun y _ => ?_)); have hy := y.toNat_lt; refine Tot.ck (by omega) (by omega) (Tot.ck (by omega) (by omega) (Tot.ck (by omega) (by omega) (Tot.ck (by omega) (by omega) ?_))); have d1 := tdiv_b (m := o.p) (n := o.b.length) (by omega) hb; refine Tot.quo (by omega) (by omega) (by omega) (Tot.ck (by omega) (by omega) (Tot.ck (by omega) (by omega) ?_)); have hz : 0 ≤ (x.toNat : Int) * 131 + (y.toNat : Int) * 1117 + o.p * 29 + o.p.tdiv o.b.length * 53 ∧ (x.toNat : Int) * 131 + (y.toNat : Int) * 1117 + o.p * 29 + o.p.tdiv o.b.length * 53 < 1000000000000 := by omega
      generalize (x.toNat : Int) * 131 + (y.toNat : Int) * 1117 + o.p * 29 + o.p.tdiv o.b.length * 53 = z at hz ⊢; have d2 := tdiv_b (m := z) (n := 64) (by omega) (by omega); refine Tot.quo (by omega) (by omega) (by omega) (Tot.xor (by omega) (fun u h4 h5 => Tot.rem (by omega) (Tot.ret ?_))); have := tmod_b (m := u) (n := n) (by omega) (by omega); exact ⟨this.1, .inl this.2, rfl⟩
theorem T_odd {o : Rd} {n : Int} (ho : 0 ≤ o.p ∧ o.p ≤ 1000000000) (hn : -900000000 ≤ n ∧ n ≤ 900000000) : Tot (m_Pspec_l20Rd_odd o n) fun r => o.p ≤ r.2.p ∧ r.2.p ≤ o.p + 1 := by
  unfold m_Pspec_l20Rd_odd m_Pspec_l20Rd_odd_j1; refine Tot.bif (fun h => ?_) (fun h => Tot.ret ⟨Int.le_refl _, by simp only; omega⟩); refine Tot.bind (T_pick ho) (fun r hr => ?_); exact Tot.ck (by omega) (by omega) (Tot.ret ⟨by simp only; omega, by simp only; omega⟩)
theorem T_l20Open {l : List UInt8} : Tot (m_spec_l20Open l) fun r => r.p = 0 := by
  unfold m_spec_l20Open m_spec_l20Open_j1; refine Tot.bif (fun h => ?_) (fun _ => Tot.ret rfl); simp only [gt_iff_lt, decide_eq_true_eq] at h; exact Tot.cut (by omega) (Tot.ret rfl)
structure TO {α : Type} (p : α → α → Int) : Prop where
  eq0 : ∀ a b, p a b = 0 ↔ a = b
  anti : ∀ a b, p a b < 0 ↔ 0 < p b a
  trans : ∀ a b c, p a b < 0 → p b c < 0 → p a c < 0
theorem TO.comap {α β : Type} {p : β → β → Int} (h : TO p) (f : α → β) (hf : ∀ a b, f a = f b → a = b) : TO fun a b => p (f a) (f b) where
  eq0 a b := ⟨fun e => hf a b ((h.eq0 _ _).1 e), fun e => (h.eq0 _ _).2 (by rw [e])⟩
  anti a b := h.anti _ _
  trans a b c := h.trans _ _ _
theorem TO.total {α : Type} {p : α → α → Int} (h : TO p) (a b : α) : 0 < p a b ↔ p b a < 0 := (h.anti b a).symm
def lx (x y : Int) : Int := if x = 0 then y else x
theorem TO.lex {α β : Type} {p : α → α → Int} {q : β → β → Int} (h : TO p) (k : TO q) : TO fun (a b : α × β) => lx (p a.1 b.1) (q a.2 b.2) where
  eq0 a b := by
    have h1 := h.eq0 a.1 b.1; have h2 := k.eq0 a.2 b.2; unfold lx
    split
    · rename_i e; rw [h2]; exact ⟨fun e2 => Prod.ext (h1.1 e) e2, fun e2 => by rw [e2]⟩
    · rename_i e; exact ⟨fun e2 => absurd e2 e, fun e2 => absurd (h1.2 (by rw [e2])) e⟩
  anti a b := by
    have h1 := h.anti a.1 b.1; have h2 := k.anti a.2 b.2; have h3 := h.eq0 a.1 b.1; have h4 := h.eq0 b.1 a.1; unfold lx
    by_cases e : a.1 = b.1
    · rw [if_pos (h3.2 e), if_pos (h4.2 e.symm)]; exact h2
    · rw [if_neg (fun x => e (h3.1 x)), if_neg (fun x => e (h4.1 x).symm)]; exact h1
  trans a b c := by
    have h1 := h.trans a.1 b.1 c.1; have h2 := k.trans a.2 b.2 c.2; unfold lx
    by_cases e1 : a.1 = b.1
    · rw [if_pos ((h.eq0 _ _).2 e1), e1]
      by_cases e2 : b.1 = c.1
      · rw [if_pos ((h.eq0 _ _).2 e2), if_pos ((h.eq0 _ _).2 e2)]; exact h2
      · rw [if_neg (fun x => e2 ((h.eq0 _ _).1 x)), if_neg (fun x => e2 ((h.eq0 _ _).1 x))]; exact fun _ g => g
    · rw [if_neg (fun x => e1 ((h.eq0 _ _).1 x))]
      by_cases e2 : b.1 = c.1
      · rw [← e2, if_pos ((h.eq0 _ _).2 rfl), if_neg (fun x => e1 ((h.eq0 _ _).1 x))]; exact fun g _ => g
      · rw [if_neg (fun x => e2 ((h.eq0 _ _).1 x))]
        intro g1 g2; have := h1 g1 g2; rw [if_neg (by omega)]; exact this
theorem TO_int : TO cmpI where
  eq0 a b := by unfold cmpI; split <;> (try split) <;> omega
  anti a b := by unfold cmpI; split <;> split <;> (try split) <;> (try split) <;> omega
  trans a b c := by unfold cmpI; split <;> split <;> (try split) <;> (try split) <;> (try split) <;> omega
def cmpB : List UInt8 → List UInt8 → Int
  | [], [] => 0
  | [], _ :: _ => -1
  | _ :: _, [] => 1
  | a :: x, b :: y => lx (cmpI a.toNat b.toNat) (cmpB x y)
theorem cmpB_less : ∀ a b : List UInt8, (if Op.bytesLess a b then (-1 : Int) else if Op.bytesLess a b || a == b then 0 else 1) = cmpB a b
  | [], [] => rfl
  | [], _ :: _ => rfl
  | _ :: _, [] => rfl
  | a :: x, b :: y => by
    have ih := cmpB_less x y; simp only [cmpB, ← ih]; unfold lx cmpI; simp only [Op.bytesLess]; rcases Nat.lt_trichotomy a.toNat b.toNat with h | h | h
    · have h' : a < b := UInt8.lt_iff_toNat_lt.2 h
      have h2 : (a.toNat : Int) < b.toNat := by omega
      simp [h', h2]
    · have h' : a = b := UInt8.toNat_inj.1 h
      subst h'; simp
    · have h' : ¬ a < b := fun e => by have := UInt8.lt_iff_toNat_lt.1 e; omega
      have h2 : ¬ (a.toNat : Int) < b.toNat := by omega
      have h3 : (b.toNat : Int) < a.toNat := by omega
      have h4 : ¬ a = b := fun e => by rw [e] at h; omega
      simp [h', h2, h3, h4]
theorem TO_list {α : Type} {p : α → α → Int} (h : TO p) : TO (cmpL p) where
  eq0 := by
    intro a
    induction a with
    | nil => intro b; cases b <;> simp [cmpL]
    | cons x a ih =>
      intro b; cases b with
      | nil => simp [cmpL]
      | cons y b =>
        simp only [cmpL]
        split
        · rename_i e; rw [ih b, List.cons.injEq]; exact ⟨fun e2 => ⟨(h.eq0 _ _).1 e, e2⟩, fun e2 => e2.2⟩
        · rename_i e; rw [List.cons.injEq]; exact ⟨fun e2 => absurd e2 e, fun e2 => absurd ((h.eq0 _ _).2 e2.1) e⟩
  anti := by
    intro a
    induction a with
    | nil => intro b; cases b <;> simp [cmpL]
    | cons x a ih =>
      intro b; cases b with
      | nil => simp [cmpL]
      | cons y b =>
        simp only [cmpL]
        by_cases e : x = y
        · rw [if_pos ((h.eq0 _ _).2 e), if_pos ((h.eq0 _ _).2 e.symm)]; exact ih b
        · rw [if_neg (fun g => e ((h.eq0 _ _).1 g)), if_neg (fun g => e ((h.eq0 _ _).1 g).symm)]; exact h.anti x y
  trans := by
    intro a
    induction a with
    | nil => intro b c; cases b <;> cases c <;> simp [cmpL]
    | cons x a ih =>
      intro b c; cases b with
      | nil => simp [cmpL]
      | cons y b =>
        cases c with
        | nil => simp [cmpL]
        | cons z c =>
          simp only [cmpL]
          by_cases e1 : x = y
          · rw [if_pos ((h.eq0 _ _).2 e1), e1]
            by_cases e2 : y = z
            · rw [if_pos ((h.eq0 _ _).2 e2), if_pos ((h.eq0 _ _).2 e2)]; exact ih b c
            · rw [if_neg (fun g => e2 ((h.eq0 _ _).1 g)), if_neg (fun g => e2 ((h.eq0 _ _).1 g))]; exact fun _ g => g
          · rw [if_neg (fun g => e1 ((h.eq0 _ _).1 g))]
            by_cases e2 : y = z
            · rw [← e2, if_pos ((h.eq0 _ _).2 rfl), if_neg (fun g => e1 ((h.eq0 _ _).1 g))]; exact fun g _ => g
            · rw [if_neg (fun g => e2 ((h.eq0 _ _).1 g))]
              intro g1 g2; have := h.trans x y z g1 g2; rw [if_neg (by omega)]; exact this
theorem TO_byte : TO fun (a b : UInt8) => cmpI a.toNat b.toNat := TO_int.comap (fun b : UInt8 => (b.toNat : Int)) fun a b h => UInt8.toNat_inj.1 (by omega)
theorem cmpB_L : ∀ a b : List UInt8, cmpB a b = cmpL (fun (a b : UInt8) => cmpI a.toNat b.toNat) a b
  | [], [] => rfl
  | [], _ :: _ => rfl
  | _ :: _, [] => rfl
  | a :: x, b :: y => by simp only [cmpB, cmpL, lx, cmpB_L x y]
theorem TO_str : TO cmpS := by
  have h := (TO_list TO_byte).comap (fun s : ByteArray => s.data.toList) (fun a b h => ByteArray.ext (Array.toList_inj.1 h))
  have e : cmpS = fun a b : ByteArray => cmpL (fun (a b : UInt8) => cmpI a.toNat b.toNat) a.data.toList b.data.toList := by
    funext a b
    unfold cmpS sLt sEq; rw [ByteArray.toList_eq, ByteArray.toList_eq, cmpB_less, cmpB_L]
  rw [e]; exact h
theorem orI_2 (a b : Int) : orI [a, b] = lx a b := by
  unfold lx; split
  · rename_i h; subst h; rw [orI_0]
    by_cases h : b = 0
    · subst h; rfl
    · rw [orI_1 h]
  · rename_i h; rw [orI_1 h]
theorem orI_3 (a b c : Int) : orI [a, b, c] = lx a (lx b c) := by
  by_cases h : a = 0
  · subst h; rw [orI_0, orI_2]; rfl
  · rw [orI_1 h]; unfold lx; rw [if_neg h]
theorem TO_value : TO vOrd := by
  have h := (TO_int.lex (TO_int.lex TO_str)).comap (fun v : V => (v.Kind, (v.N, v.S))) (fun a b h => by
    cases a; cases b; simp only [Prod.mk.injEq] at h; simp [h])
  have e : vOrd = fun a b : V => lx (cmpI a.Kind b.Kind) (lx (cmpI a.N b.N) (cmpS a.S b.S)) := by
    funext a b; unfold vOrd; rw [orI_3]
  rw [e]; exact h
theorem L_slices_IndexFunc_Limpl_Column_impl_Column {l : List S_impl_Column} {p : S_impl_Column → Option Bool} {q : S_impl_Column → Bool} (hl : l.length ≤ 900000000) (hp : ∀ v ∈ l, p v = some (q v)) : m_slices_IndexFunc_Limpl_Column_impl_Column l p = some (idxI q l) := by
  unfold m_slices_IndexFunc_Limpl_Column_impl_Column
  exact scanI (q := q) (g := fun i => some i) l (fun n k => m_slices_IndexFunc_Limpl_Column_impl_Column_l1 p n l (l.length : Int) k) (fun n k x hx => by
    have := lt_of_at hx; rw [m_slices_IndexFunc_Limpl_Column_impl_Column_l1, dlt this, cond_true]; simp only [at_of hx, Option.bind_some, hp x (List.mem_of_getElem? hx), ck1 (show k < 1000000000000 by omega)]) (fun n => by rw [m_slices_IndexFunc_Limpl_Column_impl_Column_l1, dnlt]; rfl) _ fuel0
theorem L_slices_ContainsFunc_Limpl_Column_impl_Column {l : List S_impl_Column} {p : S_impl_Column → Option Bool} {q : S_impl_Column → Bool} (hl : l.length ≤ 900000000) (hp : ∀ v ∈ l, p v = some (q v)) : m_slices_ContainsFunc_Limpl_Column_impl_Column l p = some (l.any q) := by
  unfold m_slices_ContainsFunc_Limpl_Column_impl_Column; rw [L_slices_IndexFunc_Limpl_Column_impl_Column hl hp, Option.bind_some, (idxI_ge q l).2.2]
theorem L_slices_IndexFunc_Limpl_Value_impl_Value {l : List S_impl_Value} {p : S_impl_Value → Option Bool} {q : S_impl_Value → Bool} (hl : l.length ≤ 900000000) (hp : ∀ v ∈ l, p v = some (q v)) : m_slices_IndexFunc_Limpl_Value_impl_Value l p = some (idxI q l) := by
  unfold m_slices_IndexFunc_Limpl_Value_impl_Value
  exact scanI (q := q) (g := fun i => some i) l (fun n k => m_slices_IndexFunc_Limpl_Value_impl_Value_l1 p n l (l.length : Int) k) (fun n k x hx => by
    have := lt_of_at hx; rw [m_slices_IndexFunc_Limpl_Value_impl_Value_l1, dlt this, cond_true]; simp only [at_of hx, Option.bind_some, hp x (List.mem_of_getElem? hx), ck1 (show k < 1000000000000 by omega)]) (fun n => by rw [m_slices_IndexFunc_Limpl_Value_impl_Value_l1, dnlt]; rfl) _ fuel0
theorem L_slices_ContainsFunc_Limpl_Value_impl_Value {l : List S_impl_Value} {p : S_impl_Value → Option Bool} {q : S_impl_Value → Bool} (hl : l.length ≤ 900000000) (hp : ∀ v ∈ l, p v = some (q v)) : m_slices_ContainsFunc_Limpl_Value_impl_Value l p = some (l.any q) := by
  unfold m_slices_ContainsFunc_Limpl_Value_impl_Value; rw [L_slices_IndexFunc_Limpl_Value_impl_Value hl hp, Option.bind_some, (idxI_ge q l).2.2]
theorem L_slices_IndexFunc_LLimpl_Value_Limpl_Value {l : List (List S_impl_Value)} {p : (List S_impl_Value) → Option Bool} {q : (List S_impl_Value) → Bool} (hl : l.length ≤ 900000000) (hp : ∀ v ∈ l, p v = some (q v)) : m_slices_IndexFunc_LLimpl_Value_Limpl_Value l p = some (idxI q l) := by
  unfold m_slices_IndexFunc_LLimpl_Value_Limpl_Value
  exact scanI (q := q) (g := fun i => some i) l (fun n k => m_slices_IndexFunc_LLimpl_Value_Limpl_Value_l1 p n l (l.length : Int) k) (fun n k x hx => by
    have := lt_of_at hx; rw [m_slices_IndexFunc_LLimpl_Value_Limpl_Value_l1, dlt this, cond_true]; simp only [at_of hx, Option.bind_some, hp x (List.mem_of_getElem? hx), ck1 (show k < 1000000000000 by omega)]) (fun n => by rw [m_slices_IndexFunc_LLimpl_Value_Limpl_Value_l1, dnlt]; rfl) _ fuel0
theorem L_slices_ContainsFunc_LLimpl_Value_Limpl_Value {l : List (List S_impl_Value)} {p : (List S_impl_Value) → Option Bool} {q : (List S_impl_Value) → Bool} (hl : l.length ≤ 900000000) (hp : ∀ v ∈ l, p v = some (q v)) : m_slices_ContainsFunc_LLimpl_Value_Limpl_Value l p = some (l.any q) := by
  unfold m_slices_ContainsFunc_LLimpl_Value_Limpl_Value; rw [L_slices_IndexFunc_LLimpl_Value_Limpl_Value hl hp, Option.bind_some, (idxI_ge q l).2.2]
theorem L_slices_IndexFunc_Lint_int {l : List Int} {p : Int → Option Bool} {q : Int → Bool} (hl : l.length ≤ 900000000) (hp : ∀ v ∈ l, p v = some (q v)) : m_slices_IndexFunc_Lint_int l p = some (idxI q l) := by
  unfold m_slices_IndexFunc_Lint_int
  exact scanI (q := q) (g := fun i => some i) l (fun n k => m_slices_IndexFunc_Lint_int_l1 p n l (l.length : Int) k) (fun n k x hx => by
    have := lt_of_at hx; rw [m_slices_IndexFunc_Lint_int_l1, dlt this, cond_true]; simp only [at_of hx, Option.bind_some, hp x (List.mem_of_getElem? hx), ck1 (show k < 1000000000000 by omega)]) (fun n => by rw [m_slices_IndexFunc_Lint_int_l1, dnlt]; rfl) _ fuel0
theorem L_slices_ContainsFunc_Lint_int {l : List Int} {p : Int → Option Bool} {q : Int → Bool} (hl : l.length ≤ 900000000) (hp : ∀ v ∈ l, p v = some (q v)) : m_slices_ContainsFunc_Lint_int l p = some (l.any q) := by
  unfold m_slices_ContainsFunc_Lint_int; rw [L_slices_IndexFunc_Lint_int hl hp, Option.bind_some, (idxI_ge q l).2.2]
abbrev Col := S_impl_Column
def colOk (c : Col) : Bool := decide (1 ≤ c.Kind) && decide (c.Kind ≤ 3)
def colsOk (cs : List Col) : Bool := decide (cs.length ≤ 4) && cs.all colOk
def vFit (v : V) (c : Col) : Bool := decide (v.Kind = c.Kind) || (decide (v.Kind = 0) && c.Empty)
def rowFits (cs : List Col) (r : Row) : Bool := colsOk cs && (rowOk r && (decide (r.length = cs.length) && all2 vFit r cs))
def rowsOk (cs : List Col) (rs : Rows) : Bool := colsOk cs && rs.all (rowFits cs)
theorem lenD (n m : Nat) : decide ((n : Int) ≤ (m : Int)) = decide (n ≤ m) := by rw [decide_eq_decide]; omega
theorem E_impl_ColumnsOk {cs : List Col} (h : cs.length ≤ 900000000) : m_impl_ColumnsOk cs = some (colsOk cs) := by
  unfold m_impl_ColumnsOk m_impl_ColumnsOk_j1 colsOk
  rw [L_slices_ContainsFunc_Limpl_Column_impl_Column (q := fun c => !(colOk c)) h (fun c _ => by unfold m_impl_ColumnsOk_1; rw [E_between]; rfl), Option.bind_some,
    show (4 : Int) = ((4 : Nat) : Int) from rfl, lenD, List.all_eq_not_any_not]
  cases decide (cs.length ≤ 4) <;> rfl
theorem E_spec_ColumnsOk {cs : List Col} (h : cs.length ≤ 900000000) : m_spec_ColumnsOk cs = some (colsOk cs) := by
  unfold m_spec_ColumnsOk colsOk
  rw [scanA (p := fun c => !(colOk c)) (r0 := false) (r1 := decide ((cs.length : Int) ≤ 4)) cs (fun n k => m_spec_ColumnsOk_l1 n cs k) (fun n k x hx => by
    have := lt_of_at hx; rw [m_spec_ColumnsOk_l1, dlt this, cond_true]; simp only [at_of hx, E_l1In, Option.bind_some, ck1 (show k < 1000000000000 by omega)]; rfl) (fun n => by rw [m_spec_ColumnsOk_l1, dnlt]; rfl) _ fuel0, List.all_eq_not_any_not, show (4 : Int) = ((4 : Nat) : Int) from rfl, lenD]
  cases cs.any fun c => !(colOk c) <;> simp
theorem E_impl_RowFits {cs : List Col} {r : Row} (h : cs.length ≤ 900000000) (hr : rSm r) : m_impl_RowFits cs r = some (rowFits cs r) := by
  unfold m_impl_RowFits rowFits; rw [E_impl_ColumnsOk h, Option.bind_some]; cases colsOk cs
  · rfl
  rw [Bool.not_true, cond_false, E_impl_RowOk hr, Option.bind_some]; cases rowOk r
  · rfl
  rw [Bool.not_true, cond_false]; unfold m_impl_RowFits_j1; rw [neN]
  by_cases hl : r.length = cs.length
  · rw [decide_eq_true hl, Bool.not_true, cond_false]
    simp only [Bool.true_and]
    exact scan2 (q := vFit) r cs hl (fun n k => m_impl_RowFits_l1 n cs r (r.length : Int) k) (fun n k x y hx hy => by
      have := lt_of_at hx; have hrl := hr.1; rw [m_impl_RowFits_l1, dlt this, cond_true]; simp only [at_of hx, at_of hy, Option.bind_some, Go.Lift.lt]; unfold m_impl_RowFits_j2; rw [ck1 (show k < 1000000000000 by omega), Option.bind_some]; unfold vFit; rw [neB, neB]; cases decide (x.Kind = y.Kind) <;> cases decide (x.Kind = 0) <;> cases y.Empty <;> rfl) (fun n => by rw [m_impl_RowFits_l1, dnlt]; rfl) _ fuel0
  · rw [decide_eq_false hl]; rfl
theorem E_spec_RowFits {cs : List Col} {r : Row} (h : cs.length ≤ 900000000) (hr : rSm r) : m_spec_RowFits cs r = some (rowFits cs r) := by
  unfold m_spec_RowFits rowFits; rw [E_spec_ColumnsOk h, Option.bind_some]; cases colsOk cs
  · rfl
  rw [Bool.not_true, cond_false, E_spec_RowOk hr, Option.bind_some]; cases rowOk r
  · rfl
  rw [Bool.not_true, cond_false]; unfold m_spec_RowFits_j1; rw [neN]
  by_cases hl : r.length = cs.length
  · rw [decide_eq_true hl, Bool.not_true, cond_false]
    simp only [Bool.true_and]
    exact scan2 (q := vFit) r cs hl (fun n k => m_spec_RowFits_l1 n cs r k) (fun n k x y hx hy => by
      have := lt_of_at hx; have hrl := hr.1; rw [m_spec_RowFits_l1, dlt this, cond_true]; simp only [at_of hx, at_of hy, Option.bind_some]; unfold m_spec_RowFits_j2; rw [ck1 (show k < 1000000000000 by omega), Option.bind_some]; unfold vFit; rw [neB, neB]; cases decide (x.Kind = y.Kind) <;> cases decide (x.Kind = 0) <;> cases y.Empty <;> rfl) (fun n => by rw [m_spec_RowFits_l1, dnlt]; rfl) _ fuel0
  · rw [decide_eq_false hl]; rfl
theorem E_impl_RowsOk {cs : List Col} {rs : Rows} (h : cs.length ≤ 900000000) (hr : rsSm rs) : m_impl_RowsOk cs rs = some (rowsOk cs rs) := by
  unfold m_impl_RowsOk m_impl_RowsOk_j1 rowsOk; obtain ⟨h1, h2⟩ := hr; rw [E_impl_ColumnsOk h, Option.bind_some, L_slices_ContainsFunc_LLimpl_Value_Limpl_Value (q := fun r => !(rowFits cs r)) (by omega) (fun r hr => by unfold m_impl_RowsOk_1; rw [E_impl_RowFits h (h2 r hr)]; rfl), Option.bind_some, List.all_eq_not_any_not]; cases colsOk cs <;> rfl
theorem E_spec_RowsOk {cs : List Col} {rs : Rows} (h : cs.length ≤ 900000000) (hr : rsSm rs) : m_spec_RowsOk cs rs = some (rowsOk cs rs) := by
  unfold m_spec_RowsOk rowsOk; obtain ⟨h1, h2⟩ := hr
  rw [scanA (p := fun r => !(rowFits cs r)) (r0 := false) (r1 := colsOk cs) rs (fun n k => m_spec_RowsOk_l1 n cs rs k) (fun n k x hx => by
    have := lt_of_at hx; rw [m_spec_RowsOk_l1, dlt this, cond_true]; simp only [at_of hx, E_spec_RowFits h (h2 x (List.mem_of_getElem? hx)), Option.bind_some, ck1 (show k < 1000000000000 by omega)]) (fun n => by
    rw [m_spec_RowsOk_l1, dnlt, cond_false]; unfold m_spec_RowsOk_j1; rw [E_spec_ColumnsOk h]; rfl) _ fuel0, List.all_eq_not_any_not]
  cases rs.any fun r => !(rowFits cs r) <;> cases colsOk cs <;> rfl
def v0 : V := ⟨0, 0, ⟨#[]⟩⟩
def total (left : List Rows) : Nat := left.flatten.length
abbrev Pt := S_impl_Part
def tells (cs : List Col) (p : Pt) : Bool :=
  if p.Kind = 1 then decide (p.N = 0) && (vOk p.V && !decide (p.V.Kind = 0))
  else if p.Kind = 2 then (decide (0 ≤ p.N) && decide (p.N ≤ (cs.length : Int) - 1)) && decide (p.V = v0)
  else if p.Kind = 4 then (decide (1 ≤ p.N) && decide (p.N ≤ 4)) && decide (p.V = v0)
  else if p.Kind = 3 ∨ p.Kind = 5 ∨ p.Kind = 6 ∨ p.Kind = 7 ∨ p.Kind = 8 then decide (p.N = 0) && decide (p.V = v0)
  else false
def takesN (p : Pt) : Nat := if p.Kind = 3 ∨ p.Kind = 4 ∨ p.Kind = 5 ∨ p.Kind = 6 then 2 else if p.Kind = 7 ∨ p.Kind = 8 then 1 else 0
def kindOf (cs : List Col) (p : Pt) (ins : List Int) : Int × Bool :=
  if p.Kind = 1 then (p.V.Kind, true)
  else if p.Kind = 2 then ((cs.getD p.N.toNat ⟨0, false⟩).Kind, true)
  else if p.Kind = 3 then (1, ins.all fun k => decide (k = 1))
  else if p.Kind = 4 then (3, decide (ins.getD 0 0 = ins.getD 1 0))
  else if p.Kind = 8 then (3, true)
  else (3, ins.all fun k => decide (k = 3))
def kStep (cs : List Col) (st : List Int) (p : Pt) : Option (List Int) :=
  if tells cs p = true ∧ takesN p ≤ st.length ∧ (kindOf cs p (st.drop (st.length - takesN p))).2 = true then some (st.take (st.length - takesN p) ++ [(kindOf cs p (st.drop (st.length - takesN p))).1]) else none
def kGo (cs : List Col) : List Pt → List Int → Option (List Int)
  | [], st => some st
  | p :: ps, st => (kStep cs st p).bind (kGo cs ps)
def fin1 : Option (List Int) → Int
  | some [k] => k
  | _ => -1
def exprKind (cs : List Col) (e : List Pt) : Int := if colsOk cs = true ∧ e.length ≤ 12 then fin1 (kGo cs e []) else -1
theorem beqE {a b : Int} (h : a = b) : (a == b) = true := by simp [h]
theorem bneF {a b : Int} (h : a = b) : (a != b) = false := by simp [h]
theorem at0' {α : Type} {l : List α} {x : α} (h : l[0]? = some x) : at? l 0 = some x := at_of (k := 0) h
theorem at1' {α : Type} {l : List α} {x : α} (h : l[1]? = some x) : at? l 1 = some x := at_of (k := 1) h
theorem ltE' {α β : Type} (x : α) (f : α → β) : lt x f = f x := rfl
theorem E_takes (p : Pt) : m_impl_Part_takes p = some (takesN p : Int) := by
  unfold m_impl_Part_takes m_impl_Part_takes_j1 m_impl_Part_takes_j2 takesN
  by_cases h3 : p.Kind = 3
  · rw [beqE h3, cond_true, cond_true, if_pos (.inl h3)]; rfl
  · by_cases h4 : p.Kind = 4
    · rw [beqF h3, cond_false, beqE h4, cond_true, cond_true, if_pos (.inr (.inl h4))]; rfl
    · by_cases h5 : p.Kind = 5
      · rw [beqF h3, cond_false, beqF h4, cond_false, beqE h5, cond_true, cond_true, if_pos (.inr (.inr (.inl h5)))]; rfl
      · by_cases h6 : p.Kind = 6
        · rw [beqF h3, cond_false, beqF h4, cond_false, beqF h5, cond_false, beqE h6, cond_true, if_pos (.inr (.inr (.inr h6)))]; rfl
        · rw [beqF h3, cond_false, beqF h4, cond_false, beqF h5, cond_false, beqF h6, cond_false, if_neg (by simp [h3, h4, h5, h6])]
          by_cases h7 : p.Kind = 7
          · rw [beqE h7, cond_true, cond_true, if_pos (.inl h7)]; rfl
          · by_cases h8 : p.Kind = 8
            · rw [beqF h7, cond_false, beqE h8, cond_true, if_pos (.inr h8)]; rfl
            · rw [beqF h7, cond_false, beqF h8, cond_false, if_neg (by simp [h7, h8])]; rfl
theorem bif_f {b : Bool} {x : Bool} : (bif b then some x else some false) = some (b && x) := by cases b <;> rfl
theorem beqD {a b : Int} : (a == b) = decide (a = b) := by by_cases h : a = b <;> simp [h]
theorem E_tells {cs : List Col} {p : Pt} (hc : cs.length ≤ 900000000) (hv : p.V.S.size ≤ 900000000) : m_impl_Part_tells p cs = some (tells cs p) := by
  unfold m_impl_Part_tells m_impl_Part_tells_j1 m_impl_Part_tells_j2 m_impl_Part_tells_j3 m_impl_Part_tells_j4 m_impl_Part_tells_j5 tells
  by_cases h1 : p.Kind = 1
  · rw [beqE h1, cond_true, if_pos h1, E_Value_ok hv, Option.bind_some, bif_f, bif_f, beqD]
    rw [show (p.V.Kind != 0) = !decide (p.V.Kind = 0) by by_cases h : p.V.Kind = 0 <;> simp [h]]
  · rw [beqF h1, cond_false, if_neg h1]
    by_cases h2 : p.Kind = 2
    · rw [beqE h2, cond_true, if_pos h2, ckI_of (by omega) (by omega), Option.bind_some, E_between, Option.bind_some, bif_f]; rfl
    · rw [beqF h2, cond_false, if_neg h2]
      by_cases h4 : p.Kind = 4
      · rw [beqE h4, cond_true, if_pos h4, E_between, Option.bind_some, bif_f]; rfl
      · rw [beqF h4, cond_false, if_neg h4]
        have fin : ∀ b : Bool, (bif b then (bif p.N == 0 then some (decide (p.V = ⟨0, 0, ⟨#[]⟩⟩)) else some false) else some false) = some (b && (decide (p.N = 0) && decide (p.V = v0))) := fun b => by rw [bif_f, bif_f, beqD]; rfl
        by_cases h3 : p.Kind = 3
        · rw [beqE h3, cond_true, fin, if_pos (.inl h3), Bool.true_and]
        · by_cases h5 : p.Kind = 5
          · rw [beqF h3, cond_false, beqE h5, cond_true, fin, if_pos (.inr (.inl h5)), Bool.true_and]
          · by_cases h6 : p.Kind = 6
            · rw [beqF h3, cond_false, beqF h5, cond_false, beqE h6, cond_true, fin, if_pos (.inr (.inr (.inl h6))), Bool.true_and]
            · by_cases h7 : p.Kind = 7
              · rw [beqF h3, cond_false, beqF h5, cond_false, beqF h6, cond_false, beqE h7, cond_true, fin, if_pos (.inr (.inr (.inr (.inl h7)))), Bool.true_and]
              · rw [beqF h3, cond_false, beqF h5, cond_false, beqF h6, cond_false, beqF h7, cond_false, fin]
                by_cases h8 : p.Kind = 8
                · rw [beqE h8, if_pos (.inr (.inr (.inr (.inr h8)))), Bool.true_and]
                · rw [beqF h8, if_neg (by simp [h3, h5, h6, h7, h8]), Bool.false_and]
theorem E_all {n : Int} {ins : List Int} (h : ins.length ≤ 900000000) : m_impl_Part_kind_1 n ins = some (ins.all fun k => decide (k = n)) := by
  unfold m_impl_Part_kind_1
  rw [L_slices_ContainsFunc_Lint_int (q := fun k => !decide (k = n)) h (fun k _ => by
    unfold m_impl_Part_kind_1_1
    by_cases e : k = n <;> simp [e]), Option.bind_some]
  congr 1
  induction ins with
  | nil => rfl
  | cons a l ih => simp only [List.any_cons, List.all_cons, Bool.not_or, Bool.not_not]; rw [← ih (by simp at h; omega)]
theorem tells_2 {cs : List Col} {p : Pt} (h : tells cs p = true) (h2 : p.Kind = 2) : 0 ≤ p.N ∧ p.N ≤ (cs.length : Int) - 1 := by
  unfold tells at h; rw [if_neg (by omega), if_pos h2] at h; simp at h; exact ⟨h.1.1, by omega⟩
theorem takes_le (p : Pt) : takesN p ≤ 2 := by
  unfold takesN
  split
  · exact Nat.le_refl _
  · split
    · exact Nat.le_succ _
    · exact Nat.zero_le _
theorem E_kind {cs : List Col} {p : Pt} {ins : List Int} (ht : tells cs p = true) (hl : ins.length = takesN p) : m_impl_Part_kind p cs ins = some (kindOf cs p ins) := by
  unfold m_impl_Part_kind kindOf; have hs : ins.length ≤ 900000000 := by have := takes_le p; omega
  by_cases h1 : p.Kind = 1
  · rw [beqE h1, cond_true, if_pos h1]
  · rw [beqF h1, cond_false, if_neg h1]
    by_cases h2 : p.Kind = 2
    · obtain ⟨a, b⟩ := tells_2 ht h2
      have hn : p.N.toNat < cs.length := by omega
      have hx : cs[p.N.toNat]? = some cs[p.N.toNat] := List.getElem?_eq_getElem hn
      have hat : at? cs p.N = some cs[p.N.toNat] := by
        have := at_of hx
        rwa [Int.toNat_of_nonneg a] at this
      rw [beqE h2, cond_true, if_pos h2, hat, Option.bind_some, List.getD_eq_getElem?_getD, hx]; rfl
    · rw [beqF h2, cond_false, if_neg h2]
      by_cases h3 : p.Kind = 3
      · rw [beqE h3, cond_true, if_pos h3, E_all hs, Option.bind_some]
      · rw [beqF h3, cond_false, if_neg h3]
        by_cases h4 : p.Kind = 4
        · have hl2 : ins.length = 2 := by rw [hl]; unfold takesN; rw [if_pos (.inr (.inl h4))]
          match ins, hl2 with
          | [a, b], _ =>
            rw [beqE h4, cond_true, if_pos h4, at0' (show [a, b][0]? = some a from rfl), Option.bind_some, at1' (show [a, b][1]? = some b from rfl), Option.bind_some, beqD]; rfl
        · rw [beqF h4, cond_false, if_neg h4]
          by_cases h8 : p.Kind = 8
          · rw [beqE h8, cond_true, if_pos h8]
          · rw [beqF h8, cond_false, if_neg h8, E_all hs, Option.bind_some]
theorem kGo_c (cs : List Col) (p : Pt) (ps : List Pt) (st : List Int) : kGo cs (p :: ps) st = (kStep cs st p).bind (kGo cs ps) := rfl
theorem impl_k_loop {cs : List Col} {e : List Pt} (hc : cs.length ≤ 900000000) (he : e.length ≤ 1000) (hv : ∀ p ∈ e, p.V.S.size ≤ 900000000) : ∀ (n k f : Nat) (st : List Int), k + n = e.length → st.length ≤ k → n < f → m_impl_ExprKind_l1 f cs e (e.length : Int) (k : Int) st = some (fin1 (kGo cs (e.drop k) st)) := by
  intro n
  induction n with
  | zero =>
    intro k f st hk hs hf; obtain ⟨f, rfl⟩ : ∃ q, f = q + 1 := ⟨f - 1, by omega⟩; obtain rfl : k = e.length := by omega
    rw [m_impl_ExprKind_l1, dnlt, cond_false, List.drop_length]; unfold m_impl_ExprKind_j3; show _ = some (fin1 (some st))
    match st with
    | [] => rfl
    | [a] => rfl
    | a :: b :: r => rw [beqF' (by simp only [List.length_cons]; omega), cond_true]; rfl
  | succ n ih =>
    intro k f st hk hs hf; obtain ⟨f, rfl⟩ : ∃ q, f = q + 1 := ⟨f - 1, by omega⟩; have hx : e[k]? = some e[k] := List.getElem?_eq_getElem (by omega); have hd : e.drop k = e[k] :: e.drop (k + 1) := List.drop_eq_getElem_cons (by omega); generalize hp : e[k] = p at *; have hvp := hv p (List.mem_of_getElem? hx); have htk := takes_le p; rw [m_impl_ExprKind_l1, dlt (by omega), cond_true, at_of hx, Option.bind_some, ltE', E_takes, Option.bind_some, E_tells hc hvp, Option.bind_some, hd, kGo_c]; have stop : ∀ (K : List Col → List Pt → Int → Int → List Int → Option Int) (t : Int), m_impl_ExprKind_j2 K cs t e (e.length : Int) (k : Int) true p st = some (-1) := fun K t => by unfold m_impl_ExprKind_j2; rw [cond_true]
    cases ht : tells cs p with
    | false =>
      rw [Bool.not_false, cond_true, stop]; unfold kStep; rw [if_neg (fun h => by rw [ht] at h; cases h.1)]; rfl
    | true =>
      rw [Bool.not_true, cond_false]
      by_cases hle : takesN p ≤ st.length
      · rw [decide_eq_false (by omega)]
        unfold m_impl_ExprKind_j2 rng? leN appT?; have e0 : (st.length : Int) - (takesN p : Int) = ((st.length - takesN p : Nat) : Int) := by omega
        have hdl : (st.drop (0 + (st.length - takesN p))).take (st.length - (st.length - takesN p)) = st.drop (st.length - takesN p) := by
          rw [Nat.zero_add, List.take_of_length_le (by rw [List.length_drop]; omega)]
        have hin : (st.drop (st.length - takesN p)).length = takesN p := by rw [List.length_drop]; omega
        rw [cond_false, e0, ckI_of (by omega) (by omega), Option.bind_some, Int.toNat_natCast, if_pos (by omega), Option.bind_some, if_pos (by omega), Option.bind_some, hdl, E_kind ht hin, Option.bind_some]; unfold kStep; cases hk2 : (kindOf cs p (st.drop (st.length - takesN p))).2 with
        | false => rw [if_neg (fun h => by cases h.2.2)]; rfl
        | true =>
          rw [if_pos ⟨ht, hle, rfl⟩, Bool.not_true, cond_false, Option.bind_some, Option.bind_some, Int.toNat_natCast, if_pos (by omega), Option.bind_some, if_pos (by simp; omega), Option.bind_some, ckI_of (by omega) (by omega), Option.bind_some]; exact ih (k + 1) f _ (by omega) (by simp; omega) (by omega)
      · rw [decide_eq_true (by omega), stop]
        unfold kStep; rw [if_neg (fun h => hle h.2.1)]; rfl
theorem E_impl_ExprKind {cs : List Col} {e : List Pt} (hc : cs.length ≤ 900000000) (he : e.length ≤ 900000000) (hv : ∀ p ∈ e, p.V.S.size ≤ 900000000) : m_impl_ExprKind cs e = some (exprKind cs e) := by
  unfold m_impl_ExprKind exprKind m_impl_ExprKind_j1; rw [E_impl_ColumnsOk hc, Option.bind_some]; cases hk : colsOk cs with
  | false => rw [Bool.not_false, cond_true, cond_true, if_neg (fun h => by cases h.1)]
  | true =>
    rw [Bool.not_true, cond_false]
    by_cases hl : e.length ≤ 12
    · rw [decide_eq_false (by omega), cond_false, if_pos ⟨rfl, hl⟩]
      have := impl_k_loop hc (by omega) hv e.length 0 _ [] (by omega) (by simp) fuel0; rw [List.drop_zero] at this; exact this
    · rw [decide_eq_true (by omega), cond_true, if_neg (fun h => hl h.2)]
def vOf (t : Int) : V := if t = 0 ∨ t = 1 then ⟨3, t, ⟨#[]⟩⟩ else v0
def trOf (v : V) : Int := if vOk v then (if v.Kind = 0 then 2 else if v.Kind = 3 then v.N else -1) else -1
theorem E_impl_ValueOf (t : Int) : m_impl_ValueOf t = some (vOf t) := by
  unfold m_impl_ValueOf vOf; rw [E_between, Option.bind_some]
  by_cases h : t = 0 ∨ t = 1
  · rw [if_pos h, show (decide (0 ≤ t) && decide (t ≤ 1)) = true by rcases h with h | h <;> subst h <;> rfl, Bool.not_true, cond_false]; rfl
  · have : (decide (0 ≤ t) && decide (t ≤ 1)) = false := by rw [Bool.and_eq_false_iff, decide_eq_false_iff_not, decide_eq_false_iff_not]; omega
    rw [if_neg h, this, Bool.not_false, cond_true]; rfl
theorem E_impl_TruthOf {v : V} (h : v.S.size ≤ 900000000) : m_impl_TruthOf v = some (trOf v) := by
  unfold m_impl_TruthOf trOf; rw [E_Value_ok h, Option.bind_some]; cases vOk v with
  | false => rfl
  | true =>
    rw [Bool.not_true, cond_false, if_pos rfl]
    by_cases h0 : v.Kind = 0
    · rw [beqE h0, cond_true, if_pos h0]
    · rw [beqF h0, cond_false, if_neg h0]
      by_cases h3 : v.Kind = 3
      · rw [beqE h3, cond_true, if_pos h3]
      · rw [beqF h3, cond_false, if_neg h3]
def tOk (a : Int) : Bool := decide (0 ≤ a) && decide (a ≤ 2)
def andT (a b : Int) : Int := if tOk a = true ∧ tOk b = true then (if a = 0 ∨ b = 0 then 0 else if a = 2 ∨ b = 2 then 2 else 1) else -1
def orT (a b : Int) : Int := if tOk a = true ∧ tOk b = true then (if a = 1 ∨ b = 1 then 1 else if a = 2 ∨ b = 2 then 2 else 0) else -1
def notT (a : Int) : Int := if a = 0 then 1 else if a = 1 then 0 else if a = 2 then 2 else -1
theorem tOk_3 {a : Int} (h : tOk a = true) : a = 0 ∨ a = 1 ∨ a = 2 := by unfold tOk at h; simp at h; omega
theorem E_impl_TruthOk (a : Int) : m_impl_TruthOk a = some (tOk a) := by unfold m_impl_TruthOk; rw [E_between, Option.bind_some]; rfl
theorem E_spec_TruthOk (a : Int) : m_spec_TruthOk a = some (tOk a) := by unfold m_spec_TruthOk; rw [E_l1In, Option.bind_some]; rfl
theorem fold_out {a b c : Int} (h : ¬ (tOk a = true ∧ tOk b = true)) : m_impl_fold a b c = some (-1) := by
  unfold m_impl_fold m_impl_fold_j1; rw [E_impl_TruthOk, Option.bind_some, E_impl_TruthOk, Option.bind_some]; cases ha : tOk a <;> cases hb : tOk b <;> first | rfl | exact absurd ⟨ha, hb⟩ h
theorem E_impl_AndOf (a b : Int) : m_impl_AndOf a b = some (andT a b) := by
  unfold m_impl_AndOf andT
  by_cases h : tOk a = true ∧ tOk b = true
  · rw [if_pos h]
    rcases tOk_3 h.1 with e | e | e <;> rcases tOk_3 h.2 with e2 | e2 | e2 <;> subst e <;> subst e2 <;> rfl
  · rw [if_neg h, fold_out h]; rfl
theorem E_impl_OrOf (a b : Int) : m_impl_OrOf a b = some (orT a b) := by
  unfold m_impl_OrOf orT
  by_cases h : tOk a = true ∧ tOk b = true
  · rw [if_pos h]
    rcases tOk_3 h.1 with e | e | e <;> rcases tOk_3 h.2 with e2 | e2 | e2 <;> subst e <;> subst e2 <;> rfl
  · rw [if_neg h, fold_out h]; rfl
theorem E_impl_NotOf (a : Int) : m_impl_NotOf a = some (notT a) := by
  unfold m_impl_NotOf notT
  by_cases h0 : a = 0
  · rw [beqE h0, cond_true, if_pos h0]
  · rw [beqF h0, cond_false, if_neg h0]
    by_cases h1 : a = 1
    · rw [beqE h1, cond_true, if_pos h1]
    · rw [beqF h1, cond_false, if_neg h1]
      by_cases h2 : a = 2
      · rw [beqE h2, cond_true, if_pos h2]
      · rw [beqF h2, cond_false, if_neg h2]
theorem E_spec_OrOf (a b : Int) : m_spec_OrOf a b = some (orT a b) := by
  unfold m_spec_OrOf m_spec_OrOf_j1 orT; rw [E_spec_TruthOk, Option.bind_some, E_spec_TruthOk, Option.bind_some]
  by_cases h : tOk a = true ∧ tOk b = true
  · rw [if_pos h, h.1, h.2]
    rcases tOk_3 h.1 with e | e | e <;> rcases tOk_3 h.2 with e2 | e2 | e2 <;> subst e <;> subst e2 <;> rfl
  · rw [if_neg h]
    cases ha : tOk a <;> cases hb : tOk b <;> first | rfl | exact absurd ⟨ha, hb⟩ h
def cmpR (k o : Int) : Bool := if k = 1 then decide (o = 0) else if k = 2 then !decide (o = 0) else if k = 3 then decide (o < 0) else decide (o ≤ 0)
def cmpT (k : Int) (a b : V) : Int := if ((decide (1 ≤ k) && decide (k ≤ 4)) && (vOk a && vOk b)) = true then (if a.Kind = 0 ∨ b.Kind = 0 then 2 else if a.Kind = b.Kind then (if cmpR k (vOrd a b) = true then 1 else 0) else -1) else -1
theorem E_impl_Compare {k : Int} {a b : V} (ha : a.S.size ≤ 900000000) (hb : b.S.size ≤ 900000000) : m_impl_Compare k a b = some (cmpT k a b) := by
  unfold m_impl_Compare cmpT; have bad : m_impl_Compare_j1 k a b true = some (-1) := by unfold m_impl_Compare_j1; rfl
  rw [E_between, Option.bind_some, E_Value_ok ha, Option.bind_some, E_Value_ok hb, Option.bind_some]; cases hr : (decide (1 ≤ k) && decide (k ≤ 4)) with
  | false => rw [Bool.not_false, cond_true, bad]; rfl
  | true =>
    rw [Bool.not_true, cond_false]; cases hva : vOk a with
    | false => rw [Bool.not_false, cond_true, bad]; rfl
    | true =>
      rw [Bool.not_true, cond_false]; cases hvb : vOk b with
      | false => rw [Bool.not_false, bad]; rfl
      | true =>
        rw [Bool.not_true, if_pos (show (true && (true && true)) = true from rfl)]; unfold m_impl_Compare_j1 m_impl_Compare_j2; rw [cond_false]
        by_cases h0 : a.Kind = 0
        · rw [beqE h0, cond_true, cond_true, if_pos (.inl h0)]
        · rw [beqF h0, cond_false]
          by_cases h1 : b.Kind = 0
          · rw [beqE h1, cond_true, if_pos (.inr h1)]
          · rw [beqF h1, cond_false, if_neg (fun h => h.elim h0 h1)]
            by_cases h2 : a.Kind = b.Kind
            · rw [if_pos h2, show (a.Kind != b.Kind) = false by simp [h2], cond_false, E_order, Option.bind_some]
              generalize vOrd a b = o; simp at hr; have hk : k = 1 ∨ k = 2 ∨ k = 3 ∨ k = 4 := by omega
              have e0 : (o == 0) = decide (o = 0) := beqD; have e1 : (o != 0) = !decide (o = 0) := by by_cases h : o = 0 <;> simp [h]
              rw [e0, e1]; unfold cmpR; rcases hk with e | e | e | e <;> subst e
              · cases h : decide (o = 0) <;> rfl
              · cases h : decide (o = 0) <;> rfl
              · cases h : decide (o < 0) <;> rfl
              · cases h : decide (o ≤ 0) <;> rfl
            · rw [if_neg h2, beqF' h2, cond_true]
theorem E_spec_Compare {k : Int} {a b : V} (ha : vSm a) (hb : vSm b) : m_spec_Compare k a b = some (cmpT k a b) := by
  unfold m_spec_Compare cmpT; have ha' : a.S.size ≤ 900000000 := by unfold vSm at ha; omega
  have hb' : b.S.size ≤ 900000000 := by unfold vSm at hb; omega
  have bad : m_spec_Compare_j1 k a b true = some (-1) := by unfold m_spec_Compare_j1; rfl
  rw [E_l1In, Option.bind_some, E_spec_ValueOk ha', Option.bind_some, E_spec_ValueOk hb', Option.bind_some]; cases hr : (decide (1 ≤ k) && decide (k ≤ 4)) with
  | false => rw [Bool.not_false, cond_true, bad]; rfl
  | true =>
    rw [Bool.not_true, cond_false]; cases hva : vOk a with
    | false => rw [Bool.not_false, cond_true, bad]; rfl
    | true =>
      rw [Bool.not_true, cond_false]; cases hvb : vOk b with
      | false => rw [Bool.not_false, bad]; rfl
      | true =>
        rw [Bool.not_true, if_pos (show (true && (true && true)) = true from rfl)]; unfold m_spec_Compare_j1 m_spec_Compare_j2; rw [cond_false]
        by_cases h0 : a.Kind = 0
        · rw [beqE h0, cond_true, cond_true, if_pos (.inl h0)]
        · rw [beqF h0, cond_false]
          by_cases h1 : b.Kind = 0
          · rw [beqE h1, cond_true, if_pos (.inr h1)]
          · rw [beqF h1, cond_false, if_neg (fun h => h.elim h0 h1)]
            by_cases h2 : a.Kind = b.Kind
            · have ev : vvOrd a b = vOrd a b := by unfold vvOrd; rw [hva, hvb]; rfl
              rw [if_pos h2, show (a.Kind != b.Kind) = false by simp [h2], cond_false, E_ValueOrder ha hb, ev]; generalize vOrd a b = o; simp at hr; have hk : k = 1 ∨ k = 2 ∨ k = 3 ∨ k = 4 := by omega
              have e0 : (o == 0) = decide (o = 0) := beqD; have e1 : (o != 0) = !decide (o = 0) := by by_cases h : o = 0 <;> simp [h]
              rw [Option.bind_some, Option.bind_some, Option.bind_some, Option.bind_some, e0, e1]; unfold cmpR; rcases hk with e | e | e | e <;> subst e
              · cases h : decide (o = 0) <;> rfl
              · cases h : decide (o = 0) <;> rfl
              · cases h : decide (o < 0) <;> rfl
              · cases h : decide (o ≤ 0) <;> rfl
            · rw [if_neg h2, beqF' h2, cond_true]
def sumT (a b : V) : V := if (a.Kind = 0 ∨ b.Kind = 0) ∨ ¬ (-9999 ≤ a.N + b.N ∧ a.N + b.N ≤ 9999) then v0 else ⟨1, a.N + b.N, ⟨#[]⟩⟩
def valOf (row : Row) (p : Pt) (ins : List V) : V :=
  if p.Kind = 1 then p.V
  else if p.Kind = 2 then row.getD p.N.toNat v0
  else if p.Kind = 3 then sumT (ins.getD 0 v0) (ins.getD 1 v0)
  else if p.Kind = 4 then vOf (cmpT p.N (ins.getD 0 v0) (ins.getD 1 v0))
  else if p.Kind = 5 then vOf (andT (trOf (ins.getD 0 v0)) (trOf (ins.getD 1 v0)))
  else if p.Kind = 6 then vOf (orT (trOf (ins.getD 0 v0)) (trOf (ins.getD 1 v0)))
  else if p.Kind = 7 then vOf (notT (trOf (ins.getD 0 v0)))
  else vOf (if (ins.getD 0 v0).Kind = 0 then 1 else 0)
theorem vN {v : V} (h : vOk v = true) : (-9999 ≤ v.N ∧ v.N ≤ 9999) ∧ v.S.size ≤ 1000 := by
  unfold vOk at h
  by_cases h0 : v.Kind = 0
  · rw [if_pos h0] at h; have := of_decide_eq_true h; rw [this]; decide
  · by_cases h1 : v.Kind = 1
    · rw [if_neg h0, if_pos h1] at h; simp at h; rw [h.1]; exact ⟨⟨h.2.1, h.2.2⟩, by decide⟩
    · by_cases h2 : v.Kind = 2
      · rw [if_neg h0, if_neg h1, if_pos h2] at h; simp at h; exact ⟨by omega, by omega⟩
      · by_cases h3 : v.Kind = 3
        · rw [if_neg h0, if_neg h1, if_neg h2, if_pos h3] at h; simp at h; rw [h.1]; exact ⟨by omega, by decide⟩
        · rw [if_neg h0, if_neg h1, if_neg h2, if_neg h3] at h; cases h
theorem vOk_num (n : Int) : vOk ⟨1, n, ⟨#[]⟩⟩ = (decide (-9999 ≤ n) && decide (n ≤ 9999)) := by
  unfold vOk; rw [if_neg (show ¬ (1 : Int) = 0 by decide), if_pos rfl, decide_eq_true (show (⟨#[]⟩ : ByteArray) = ⟨#[]⟩ from rfl), Bool.true_and]
theorem two_of {ins : List V} (h : ins.length = 2) : ∃ a b, ins = [a, b] := by
  match ins, h with
  | [a, b], _ => exact ⟨a, b, rfl⟩
theorem one_of {ins : List V} (h : ins.length = 1) : ∃ a, ins = [a] := by
  match ins, h with
  | [a], _ => exact ⟨a, rfl⟩
theorem E_impl_Part_value {cs : List Col} {row : Row} {p : Pt} {ins : List V} (ht : tells cs p = true) (hr : cs.length = row.length) (hl : ins.length = takesN p) (hi : ∀ v ∈ ins, vOk v = true) : m_impl_Part_value p row ins = some (valOf row p ins) := by
  unfold m_impl_Part_value valOf
  by_cases h1 : p.Kind = 1
  · rw [beqE h1, cond_true, if_pos h1, ltE']
  · rw [beqF h1, cond_false, if_neg h1]
    by_cases h2 : p.Kind = 2
    · obtain ⟨a, b⟩ := tells_2 ht h2
      have hx : row[p.N.toNat]? = some row[p.N.toNat] := List.getElem?_eq_getElem (by omega)
      have hat : at? row p.N = some row[p.N.toNat] := by
        have := at_of hx
        rwa [Int.toNat_of_nonneg a] at this
      rw [beqE h2, cond_true, if_pos h2, hat, Option.bind_some, ltE', List.getD_eq_getElem?_getD, hx]; rfl
    · rw [beqF h2, cond_false, if_neg h2]
      have t2 : p.Kind = 3 ∨ p.Kind = 4 ∨ p.Kind = 5 ∨ p.Kind = 6 → ∃ a b, ins = [a, b] ∧ vOk a = true ∧ vOk b = true := fun h => by
        obtain ⟨a, b, rfl⟩ := two_of (ins := ins) (by rw [hl]; unfold takesN; rw [if_pos h]); exact ⟨a, b, rfl, hi a (by simp), hi b (by simp)⟩
      by_cases h3 : p.Kind = 3
      · obtain ⟨a, b, rfl, ha, hb⟩ := t2 (.inl h3)
        obtain ⟨⟨a1, a2⟩, _⟩ := vN ha; obtain ⟨⟨b1, b2⟩, _⟩ := vN hb; have e0 : at? [a, b] 0 = some a := rfl; have e1 : at? [a, b] 1 = some b := rfl; rw [beqE h3, cond_true, if_pos h3, e0, e1, Option.bind_some, Option.bind_some, ckI_of (by omega) (by omega), Option.bind_some, ltE', Option.bind_some]; unfold m_impl_Part_value_j1; show _ = some (sumT a b); unfold sumT
        by_cases ka : a.Kind = 0
        · rw [beqE ka, cond_true, cond_true, if_pos (.inl (.inl ka)), ltE']; rfl
        · rw [beqF ka, cond_false, Option.bind_some]
          by_cases kb : b.Kind = 0
          · rw [beqE kb, cond_true, cond_true, if_pos (.inl (.inr kb)), ltE']; rfl
          · rw [beqF kb, cond_false, E_Value_ok (v := ⟨1, a.N + b.N, ⟨#[]⟩⟩) (show (0 : Nat) ≤ 900000000 by decide), Option.bind_some, vOk_num]
            by_cases hn : -9999 ≤ a.N + b.N ∧ a.N + b.N ≤ 9999
            · rw [decide_eq_true hn.1, decide_eq_true hn.2, if_neg (fun h => h.elim (fun h => h.elim ka kb) (fun h => h hn))]; rfl
            · have : (decide (-9999 ≤ a.N + b.N) && decide (a.N + b.N ≤ 9999)) = false := by rw [Bool.and_eq_false_iff, decide_eq_false_iff_not, decide_eq_false_iff_not]; omega
              rw [this, if_pos (.inr hn)]; rfl
      · rw [beqF h3, cond_false, if_neg h3]
        by_cases h4 : p.Kind = 4
        · obtain ⟨a, b, rfl, ha, hb⟩ := t2 (.inr (.inl h4))
          have sa := (vN ha).2; have sb := (vN hb).2; have e0 : at? [a, b] 0 = some a := rfl; have e1 : at? [a, b] 1 = some b := rfl; rw [beqE h4, cond_true, if_pos h4, e0, e1, Option.bind_some, Option.bind_some, E_impl_Compare (by omega) (by omega), Option.bind_some, E_impl_ValueOf, Option.bind_some, ltE']; rfl
        · rw [beqF h4, cond_false, if_neg h4]
          by_cases h5 : p.Kind = 5
          · obtain ⟨a, b, rfl, ha, hb⟩ := t2 (.inr (.inr (.inl h5)))
            have sa := (vN ha).2; have sb := (vN hb).2; have e0 : at? [a, b] 0 = some a := rfl; have e1 : at? [a, b] 1 = some b := rfl; rw [beqE h5, cond_true, if_pos h5, e0, e1, Option.bind_some, E_impl_TruthOf (by omega), Option.bind_some, Option.bind_some, E_impl_TruthOf (by omega), Option.bind_some, E_impl_AndOf, Option.bind_some, E_impl_ValueOf, Option.bind_some, ltE']; rfl
          · rw [beqF h5, cond_false, if_neg h5]
            by_cases h6 : p.Kind = 6
            · obtain ⟨a, b, rfl, ha, hb⟩ := t2 (.inr (.inr (.inr h6)))
              have sa := (vN ha).2; have sb := (vN hb).2; have e0 : at? [a, b] 0 = some a := rfl; have e1 : at? [a, b] 1 = some b := rfl; rw [beqE h6, cond_true, if_pos h6, e0, e1, Option.bind_some, E_impl_TruthOf (by omega), Option.bind_some, Option.bind_some, E_impl_TruthOf (by omega), Option.bind_some, E_impl_OrOf, Option.bind_some, E_impl_ValueOf, Option.bind_some, ltE']; rfl
            · rw [beqF h6, cond_false, if_neg h6]
              have t1 : p.Kind = 7 ∨ p.Kind = 8 → ∃ a, ins = [a] ∧ vOk a = true := fun h => by
                obtain ⟨a, rfl⟩ := one_of (ins := ins) (by rw [hl]; unfold takesN; rw [if_neg (by omega), if_pos h]); exact ⟨a, rfl, hi a (by simp)⟩
              by_cases h7 : p.Kind = 7
              · obtain ⟨a, rfl, ha⟩ := t1 (.inl h7)
                have sa := (vN ha).2; have e0 : at? [a] 0 = some a := rfl; rw [beqE h7, cond_true, if_pos h7, e0, Option.bind_some, E_impl_TruthOf (by omega), Option.bind_some, E_impl_NotOf, Option.bind_some, E_impl_ValueOf, Option.bind_some, ltE']; rfl
              · have h8 : p.Kind = 8 := by
                  unfold tells at ht; rw [if_neg h1, if_neg h2, if_neg h4] at ht
                  split at ht
                  · omega
                  · cases ht
                obtain ⟨a, rfl, ha⟩ := t1 (.inr h8); have e0 : at? [a] 0 = some a := rfl
                have et : m_impl_truthIf (a.Kind == 0) = some (if a.Kind = 0 then 1 else 0) := by
                  unfold m_impl_truthIf
                  by_cases h : a.Kind = 0
                  · rw [beqE h, cond_true, if_pos h]
                  · rw [beqF h, cond_false, if_neg h]
                rw [beqF h7, cond_false, if_neg h7, e0, Option.bind_some, et, Option.bind_some, E_impl_ValueOf, Option.bind_some, ltE']; rfl
def ptSm (e : List Pt) : Prop := e.length ≤ 1100000 ∧ ∀ p ∈ e, p.V.S.size ≤ 1100000
theorem getD_of {α : Type} {l : List α} {k : Nat} {x d : α} (h : l[k]? = some x) : l.getD k d = x := by rw [List.getD_eq_getElem?_getD, h]; rfl
theorem at_z {α : Type} {l : List α} {i : Int} {x : α} (h0 : 0 ≤ i) (h : l[i.toNat]? = some x) : at? l i = some x := by
  have := at_of h
  rwa [Int.toNat_of_nonneg h0] at this
def inR (n : Nat) (k : Int) : Bool := decide (0 ≤ k) && decide (k ≤ (n : Int) - 1)
theorem inR_of {n : Nat} {k : Int} (h : inR n k = true) : 0 ≤ k ∧ k.toNat < n := by
  unfold inR at h; rw [Bool.and_eq_true, decide_eq_true_eq, decide_eq_true_eq] at h; omega
def vStep (row : Row) (st : List V) (p : Pt) : List V := st.take (st.length - takesN p) ++ [valOf row p (st.drop (st.length - takesN p))]
def exprVal (row : Row) (e : List Pt) : V := (e.foldl (vStep row) []).getD 0 v0
def tyV (v : V) (k : Int) : Prop := vOk v = true ∧ (v.Kind = k ∨ v.Kind = 0)
inductive Typed : List V → List Int → Prop
  | nil : Typed [] []
  | cons {v : V} {k : Int} {vs : List V} {ks : List Int} : tyV v k → Typed vs ks → Typed (v :: vs) (k :: ks)
theorem Typed.len {vs : List V} {ks : List Int} (h : Typed vs ks) : vs.length = ks.length := by
  induction h with
  | nil => rfl
  | cons _ _ ih => simp [ih]
theorem Typed.ok {vs : List V} {ks : List Int} (h : Typed vs ks) : ∀ v ∈ vs, vOk v = true := by
  induction h with
  | nil => simp
  | cons h _ ih =>
    intro v hv; rcases List.mem_cons.1 hv with rfl | hv
    · exact h.1
    · exact ih v hv
theorem Typed.take {vs : List V} {ks : List Int} (h : Typed vs ks) (n : Nat) : Typed (vs.take n) (ks.take n) := by
  induction h generalizing n with
  | nil => simp; exact .nil
  | cons h _ ih =>
    cases n with
    | zero => exact .nil
    | succ n => exact .cons h (ih n)
theorem Typed.drop {vs : List V} {ks : List Int} (h : Typed vs ks) (n : Nat) : Typed (vs.drop n) (ks.drop n) := by
  induction h generalizing n with
  | nil => simp; exact .nil
  | cons h h2 ih =>
    cases n with
    | zero => exact .cons h h2
    | succ n => exact ih n
theorem Typed.snoc {vs : List V} {ks : List Int} (h : Typed vs ks) {v : V} {k : Int} (hv : tyV v k) : Typed (vs ++ [v]) (ks ++ [k]) := by
  induction h with
  | nil => exact .cons hv .nil
  | cons h _ ih => exact .cons h ih
theorem vOk_v0 : vOk v0 = true := by decide
theorem tyV_v0 (k : Int) : tyV v0 k := ⟨vOk_v0, .inr rfl⟩
theorem vOf_ty (t : Int) : tyV (vOf t) 3 := by
  unfold vOf
  split
  · rename_i h
    rcases h with rfl | rfl
    · exact ⟨by decide, .inl rfl⟩
    · exact ⟨by decide, .inl rfl⟩
  · exact tyV_v0 3
theorem sumT_ty (a b : V) : tyV (sumT a b) 1 := by
  unfold sumT
  split
  · exact tyV_v0 1
  · rename_i h
    have : -9999 ≤ a.N + b.N ∧ a.N + b.N ≤ 9999 := by
      rcases Classical.em (-9999 ≤ a.N + b.N ∧ a.N + b.N ≤ 9999) with h1 | h1
      · exact h1
      · exact absurd (.inr h1) h
    exact ⟨by rw [vOk_num, decide_eq_true this.1, decide_eq_true this.2]; rfl, .inl rfl⟩
theorem fits_get {cs : List Col} {row : Row} (h : rowFits cs row = true) : colsOk cs = true ∧ rowOk row = true ∧ row.length = cs.length ∧ ∀ (i : Nat) (v : V) (c : Col), row[i]? = some v → cs[i]? = some c → vFit v c = true := by
  unfold rowFits at h; rw [Bool.and_eq_true, Bool.and_eq_true, Bool.and_eq_true, decide_eq_true_eq] at h; obtain ⟨h1, h2, h3, h4⟩ := h; refine ⟨h1, h2, h3, fun i v c hv hc => ?_⟩; unfold all2 at h4; have := List.all_eq_true.1 h4 (v, c) (List.mem_of_getElem? (i := i) (by rw [List.getElem?_zip_eq_some]; exact ⟨hv, hc⟩)); exact this
theorem rowOk_all {row : Row} (h : rowOk row = true) : row.length ≤ 4 ∧ ∀ v ∈ row, vOk v = true := by
  unfold rowOk at h; rw [Bool.and_eq_true, decide_eq_true_eq] at h; exact ⟨h.1, fun v hv => List.all_eq_true.1 h.2 v hv⟩
theorem valOf_ty {cs : List Col} {row : Row} {p : Pt} {ins : List V} {ks : List Int} (hf : rowFits cs row = true) (ht : tells cs p = true) (h : Typed ins ks) : tyV (valOf row p ins) (kindOf cs p ks).1 := by
  obtain ⟨f1, f2, f3, f4⟩ := fits_get hf; unfold valOf kindOf
  by_cases h1 : p.Kind = 1
  · rw [if_pos h1, if_pos h1]
    unfold tells at ht; rw [if_pos h1, Bool.and_eq_true, Bool.and_eq_true] at ht; exact ⟨ht.2.1, .inl rfl⟩
  · rw [if_neg h1, if_neg h1]
    by_cases h2 : p.Kind = 2
    · obtain ⟨a, b⟩ := tells_2 ht h2
      have hx : row[p.N.toNat]? = some row[p.N.toNat] := List.getElem?_eq_getElem (by omega); have hc : cs[p.N.toNat]? = some cs[p.N.toNat] := List.getElem?_eq_getElem (by omega); rw [if_pos h2, if_pos h2, getD_of hx, getD_of hc]; have := f4 _ _ _ hx hc; unfold vFit at this; rw [Bool.or_eq_true, decide_eq_true_eq, Bool.and_eq_true, decide_eq_true_eq] at this; exact ⟨(rowOk_all f2).2 _ (List.mem_of_getElem? hx), this.imp id (fun h => h.1)⟩
    · rw [if_neg h2, if_neg h2]
      by_cases h3 : p.Kind = 3
      · rw [if_pos h3, if_pos h3]; exact sumT_ty _ _
      · rw [if_neg h3, if_neg h3]
        by_cases h4 : p.Kind = 4
        · rw [if_pos h4, if_pos h4]; exact vOf_ty _
        · rw [if_neg h4, if_neg h4]
          have e : (if p.Kind = 8 then ((3 : Int), true) else (3, ks.all fun k => decide (k = 3))).1 = 3 := by split <;> rfl
          rw [e]
          split
          · exact vOf_ty _
          · split
            · exact vOf_ty _
            · split
              · exact vOf_ty _
              · exact vOf_ty _
theorem kStep_some {cs : List Col} {ks ks' : List Int} {p : Pt} (h : kStep cs ks p = some ks') : tells cs p = true ∧ takesN p ≤ ks.length ∧ (kindOf cs p (ks.drop (ks.length - takesN p))).2 = true ∧ ks' = ks.take (ks.length - takesN p) ++ [(kindOf cs p (ks.drop (ks.length - takesN p))).1] := by
  unfold kStep at h
  split at h
  · rename_i g; cases h; exact ⟨g.1, g.2.1, g.2.2, rfl⟩
  · cases h
theorem vStep_ty {cs : List Col} {row : Row} {p : Pt} {vs : List V} {ks ks' : List Int} (hf : rowFits cs row = true) (h : Typed vs ks) (hk : kStep cs ks p = some ks') : Typed (vStep row vs p) ks' := by
  obtain ⟨h1, h2, h3, rfl⟩ := kStep_some hk; unfold vStep; rw [h.len]; exact (h.take _).snoc (valOf_ty hf h1 (h.drop _))
theorem kind_run {cs : List Col} {e : List Pt} (h : 0 ≤ exprKind cs e) : colsOk cs = true ∧ e.length ≤ 12 ∧ kGo cs e [] = some [exprKind cs e] := by
  unfold exprKind at h ⊢
  split at h
  · rename_i g
    rw [if_pos g]; refine ⟨g.1, g.2, ?_⟩; cases hk : kGo cs e [] with
    | none => rw [hk] at h; exact absurd h (by decide)
    | some l =>
      rw [hk] at h
      match l with
      | [] => exact absurd h (show ¬ (0 : Int) ≤ -1 by decide)
      | [k] => rfl
      | a :: b :: r => exact absurd h (show ¬ (0 : Int) ≤ -1 by decide)
  · exact absurd h (by decide)
theorem foldl_drop {α β : Type} (f : β → α → β) (l : List α) (k : Nat) (x : α) (b : β) (h : l[k]? = some x) : (l.drop k).foldl f b = (l.drop (k + 1)).foldl f (f b x) := by
  have hk := lt_of_at h; rw [List.drop_eq_getElem_cons hk, List.foldl_cons]; have : l[k] = x := by rw [List.getElem?_eq_getElem hk] at h; exact Option.some.inj h
  rw [this]
theorem kGo_drop {cs : List Col} {l : List Pt} {k : Nat} {p : Pt} {ks r : List Int} (h : l[k]? = some p) (hk : kGo cs (l.drop k) ks = some r) : ∃ k1, kStep cs ks p = some k1 ∧ kGo cs (l.drop (k + 1)) k1 = some r := by
  have hl := lt_of_at h; rw [List.drop_eq_getElem_cons hl, kGo_c] at hk; have : l[k] = p := by rw [List.getElem?_eq_getElem hl] at h; exact Option.some.inj h
  rw [this] at hk; cases hs : kStep cs ks p with
  | none => rw [hs] at hk; cases hk
  | some k1 => rw [hs, Option.bind_some] at hk; exact ⟨k1, rfl, hk⟩
theorem impl_v_loop {cs : List Col} {row : Row} {e : List Pt} {z : V} (hf : rowFits cs row = true) (he : e.length ≤ 12) {r : Int} : ∀ (n k f : Nat) (vs : List V) (ks : List Int), k + n = e.length → Typed vs ks → kGo cs (e.drop k) ks = some [r] → ks.length ≤ k → n < f → m_impl_exprValue_l1 f row e (e.length : Int) (k : Int) z vs = some (((e.drop k).foldl (vStep row) vs).getD 0 v0) := by
  intro n
  induction n with
  | zero =>
    intro k f vs ks hk ht hg hl hf'; obtain ⟨f, rfl⟩ : ∃ q, f = q + 1 := ⟨f - 1, by omega⟩; obtain rfl : k = e.length := by omega
    rw [List.drop_length] at hg ⊢; cases hg; cases ht with
    | cons h1 h2 =>
      cases h2 with
      | nil =>
        rw [m_impl_exprValue_l1, dnlt, cond_false]; rfl
  | succ n ih =>
    intro k f vs ks hk ht hg hl hf'; obtain ⟨f, rfl⟩ : ∃ q, f = q + 1 := ⟨f - 1, by omega⟩; have hx : e[k]? = some e[k] := List.getElem?_eq_getElem (by omega); generalize e[k] = p at hx; obtain ⟨k1, g1, g2⟩ := kGo_drop hx hg; obtain ⟨t1, t2, t3, t4⟩ := kStep_some g1; have hlen := ht.len; have htk := takes_le p; have hin : (vs.drop (vs.length - takesN p)).length = takesN p := by rw [List.length_drop]; omega
    obtain ⟨f1, f2, f3, f4⟩ := fits_get hf; rw [m_impl_exprValue_l1, dlt (by omega), cond_true, at_of hx, Option.bind_some, ltE, E_takes, Option.bind_some, ckI_of (by omega) (by omega), Option.bind_some]; have e0 : (vs.length : Int) - (takesN p : Int) = ((vs.length - takesN p : Nat) : Int) := by omega
    have hdl : (vs.drop (0 + (vs.length - takesN p))).take (vs.length - (vs.length - takesN p)) = vs.drop (vs.length - takesN p) := by
      rw [Nat.zero_add, List.take_of_length_le (by rw [List.length_drop]; omega)]
    unfold rng? leN appT?; rw [e0, Int.toNat_natCast, if_pos (by omega), Option.bind_some, if_pos (by omega), Option.bind_some, hdl, E_impl_Part_value (cs := cs) t1 f3.symm hin (fun v hv => ht.ok v (List.mem_of_mem_drop hv)), Option.bind_some, ltE, if_pos (by omega), Option.bind_some, if_pos (by simp; omega), Option.bind_some, ckI_of (by omega) (by omega), Option.bind_some, foldl_drop _ _ _ _ _ hx]; have hst := vStep_ty hf ht g1; have hk1 : k1.length ≤ k + 1 := by rw [t4]; simp; omega
    exact ih (k + 1) f (vStep row vs p) k1 (by omega) hst g2 hk1 (by omega)
theorem E_impl_exprValue {cs : List Col} {row : Row} {e : List Pt} (h : 0 ≤ exprKind cs e) (hf : rowFits cs row = true) : m_impl_exprValue row e = some (exprVal row e) := by
  obtain ⟨h1, h2, h3⟩ := kind_run h; unfold m_impl_exprValue exprVal; have := impl_v_loop (z := ⟨0, 0, ⟨#[]⟩⟩) hf h2 (r := exprKind cs e) e.length 0 _ [] [] (by omega) .nil (by rw [List.drop_zero]; exact h3) (by simp) (fuel0 (n := e.length)); rw [List.drop_zero] at this; exact this
def yes : V := ⟨3, 1, ⟨#[]⟩⟩
theorem vOf_1 : vOf 1 = yes := rfl
theorem E_impl_exprHolds {cs : List Col} {row : Row} {e : List Pt} (h : 0 ≤ exprKind cs e) (hf : rowFits cs row = true) : m_impl_exprHolds row e = some (decide (exprVal row e = yes)) := by
  unfold m_impl_exprHolds; rw [E_impl_exprValue h hf, Option.bind_some, E_impl_ValueOf, Option.bind_some, vOf_1]
def pSz (p : Pt) : Prop := p.V.S.size ≤ 20
theorem pSz_0 {k n : Int} : pSz ⟨k, n, ⟨0, 0, ⟨#[]⟩⟩⟩ := by show ByteArray.size ⟨#[]⟩ ≤ 20; decide
theorem pt_sm {e : List Pt} (h : e.length ≤ 1000) (hp : ∀ p ∈ e, pSz p) : ptSm e := ⟨by omega, fun p h => by have := hp p h; unfold pSz at this; omega⟩
def col0 : Col := ⟨0, false⟩
def colAt (cs : List Col) (n : Int) : Col := cs.getD n.toNat col0
theorem E_ConcatC {a b : List Col} (ha : a.length ≤ 400000000) (hb : b.length ≤ 400000000) : m_slices_Concat_Limpl_Column_impl_Column [a, b] = some (a ++ b) := by
  unfold m_slices_Concat_Limpl_Column_impl_Column; rw [show ((([a, b] : List (List Col)).length : Int) - 0).toNat + 1 = 2 + 1 from rfl, show (([a, b] : List (List Col)).length : Int) = 2 from rfl]; have a0 : at? [a, b] 0 = some a := rfl; have a1 : at? [a, b] 1 = some b := rfl; have k1 : ckI (0 + 1) = some 1 := rfl; have k2 : ckI (1 + 1) = some 2 := rfl; have d0 : decide ((0 : Int) < 2) = true := rfl; have d1 : decide ((1 : Int) < 2) = true := rfl; have d2 : decide ((2 : Int) < 2) = false := rfl; rw [m_slices_Concat_Limpl_Column_impl_Column_l1, d0, cond_true, a0, Option.bind_some, ckI_of (by omega) (by omega), Option.bind_some]; rw [show decide (0 + (a.length : Int) < 0) = false by rw [decide_eq_false_iff_not]; omega, cond_false, k1, Option.bind_some]; rw [m_slices_Concat_Limpl_Column_impl_Column_l1, d1, cond_true, a1, Option.bind_some, ckI_of (by omega) (by omega), Option.bind_some]; rw [show decide (0 + (a.length : Int) + (b.length : Int) < 0) = false by rw [decide_eq_false_iff_not]; omega, cond_false, k2, Option.bind_some]; rw [m_slices_Concat_Limpl_Column_impl_Column_l1, d2, cond_false]; unfold m_slices_Concat_Limpl_Column_impl_Column_j1 m_slices_Grow_Limpl_Column_impl_Column; rw [if_pos (by omega), Option.bind_some, show ((([a, b] : List (List Col)).length : Int) - 0).toNat + 1 = 2 + 1 from rfl, show (([a, b] : List (List Col)).length : Int) = 2 from rfl]; rw [m_slices_Concat_Limpl_Column_impl_Column_l2, d0, cond_true, a0, Option.bind_some, app_of (by simp; omega), Option.bind_some, k1, Option.bind_some]; rw [m_slices_Concat_Limpl_Column_impl_Column_l2, d1, cond_true, a1, Option.bind_some, app_of (by simp; omega), Option.bind_some, k2, Option.bind_some]; rw [m_slices_Concat_Limpl_Column_impl_Column_l2, d2, cond_false]; rfl
theorem E_ConcatV {a b : Row} (ha : a.length ≤ 400000000) (hb : b.length ≤ 400000000) : m_slices_Concat_Limpl_Value_impl_Value [a, b] = some (a ++ b) := by
  unfold m_slices_Concat_Limpl_Value_impl_Value; rw [show ((([a, b] : List Row).length : Int) - 0).toNat + 1 = 2 + 1 from rfl, show (([a, b] : List Row).length : Int) = 2 from rfl]; have a0 : at? [a, b] 0 = some a := rfl; have a1 : at? [a, b] 1 = some b := rfl; have k1 : ckI (0 + 1) = some 1 := rfl; have k2 : ckI (1 + 1) = some 2 := rfl; have d0 : decide ((0 : Int) < 2) = true := rfl; have d1 : decide ((1 : Int) < 2) = true := rfl; have d2 : decide ((2 : Int) < 2) = false := rfl; rw [m_slices_Concat_Limpl_Value_impl_Value_l1, d0, cond_true, a0, Option.bind_some, ckI_of (by omega) (by omega), Option.bind_some]; rw [show decide (0 + (a.length : Int) < 0) = false by rw [decide_eq_false_iff_not]; omega, cond_false, k1, Option.bind_some]; rw [m_slices_Concat_Limpl_Value_impl_Value_l1, d1, cond_true, a1, Option.bind_some, ckI_of (by omega) (by omega), Option.bind_some]; rw [show decide (0 + (a.length : Int) + (b.length : Int) < 0) = false by rw [decide_eq_false_iff_not]; omega, cond_false, k2, Option.bind_some]; rw [m_slices_Concat_Limpl_Value_impl_Value_l1, d2, cond_false]; unfold m_slices_Concat_Limpl_Value_impl_Value_j1 m_slices_Grow_Limpl_Value_impl_Value; rw [if_pos (by omega), Option.bind_some, show ((([a, b] : List Row).length : Int) - 0).toNat + 1 = 2 + 1 from rfl, show (([a, b] : List Row).length : Int) = 2 from rfl]; rw [m_slices_Concat_Limpl_Value_impl_Value_l2, d0, cond_true, a0, Option.bind_some, app_of (by simp; omega), Option.bind_some, k1, Option.bind_some]; rw [m_slices_Concat_Limpl_Value_impl_Value_l2, d1, cond_true, a1, Option.bind_some, app_of (by simp; omega), Option.bind_some, k2, Option.bind_some]; rw [m_slices_Concat_Limpl_Value_impl_Value_l2, d2, cond_false]; rfl
theorem ptSm_k {e : List Pt} (h : ptSm e) : e.length ≤ 900000000 ∧ ∀ p ∈ e, p.V.S.size ≤ 900000000 := ⟨by have := h.1; omega, fun p hp => by have := h.2 p hp; omega⟩
theorem getD_in {α : Type} {l : List α} {n : Int} {d : α} (h : inR l.length n = true) : at? l n = some (l.getD n.toNat d) := by
  have h2 := inR_of h; exact at_z h2.1 (by rw [List.getD_eq_getElem?_getD, List.getElem?_eq_getElem h2.2]; rfl)
theorem getD_mem' {α : Type} {l : List α} {n : Int} {d : α} (h : inR l.length n = true) : l.getD n.toNat d ∈ l := by
  have h2 := inR_of h; rw [List.getD_eq_getElem?_getD, List.getElem?_eq_getElem h2.2]; simp
def holdsB (e : List Pt) (r : Row) : Bool := decide (exprVal r e = yes)
def rowAt (r : Row) (n : Int) : V := r.getD n.toNat v0
theorem zip_get {α β : Type} : ∀ {a : List α} {b : List β} {p : α × β}, p ∈ a.zip b → ∃ i : Nat, a[i]? = some p.1 ∧ b[i]? = some p.2
  | [], _, _, h => by simp at h
  | _ :: _, [], _, h => by simp at h
  | x :: a, y :: b, p, h => by
    rw [List.zip_cons_cons] at h; rcases List.mem_cons.1 h with rfl | h
    · exact ⟨0, rfl, rfl⟩
    · obtain ⟨i, h1, h2⟩ := zip_get h
      exact ⟨i + 1, by simpa using h1, by simpa using h2⟩
theorem all2_mk {α β : Type} {q : α → β → Bool} {a : List α} {b : List β} (h : ∀ (i : Nat) x y, a[i]? = some x → b[i]? = some y → q x y = true) : all2 q a b = true := by
  unfold all2; rw [List.all_eq_true]; intro p hp; obtain ⟨i, h1, h2⟩ := zip_get hp; exact h i _ _ h1 h2
theorem fits_mk {cs : List Col} {r : Row} (h1 : colsOk cs = true) (h2 : rowOk r = true) (h3 : r.length = cs.length) (h4 : ∀ (i : Nat) v c, r[i]? = some v → cs[i]? = some c → vFit v c = true) : rowFits cs r = true := by
  unfold rowFits; rw [h1, h2, decide_eq_true h3, all2_mk h4]; rfl
theorem rowOk_mk {r : Row} (h : r.length ≤ 4) (h2 : ∀ v ∈ r, vOk v = true) : rowOk r = true := by
  unfold rowOk; rw [decide_eq_true h, List.all_eq_true.2 h2]; rfl
theorem colsOk_mk {cs : List Col} (h : cs.length ≤ 4) (h2 : ∀ c ∈ cs, colOk c = true) : colsOk cs = true := by
  unfold colsOk; rw [decide_eq_true h, List.all_eq_true.2 h2]; rfl
theorem colsOk_all {cs : List Col} (h : colsOk cs = true) : cs.length ≤ 4 ∧ ∀ c ∈ cs, colOk c = true := by
  unfold colsOk at h; simp only [Bool.and_eq_true, decide_eq_true_eq, List.all_eq_true] at h; exact h
theorem colsOk_app {a b : List Col} (ha : colsOk a = true) (hb : colsOk b = true) (h : (a ++ b).length ≤ 4) : colsOk (a ++ b) = true :=
  colsOk_mk h fun c hc => by
    rcases List.mem_append.1 hc with hc | hc
    · exact (colsOk_all ha).2 c hc
    · exact (colsOk_all hb).2 c hc
theorem fits_app {ca cb : List Col} {r q : Row} (h : rowFits ca r = true) (k : rowFits cb q = true) (hl : (ca ++ cb).length ≤ 4) : rowFits (ca ++ cb) (r ++ q) = true := by
  obtain ⟨a1, a2, a3, a4⟩ := fits_get h; obtain ⟨b1, b2, b3, b4⟩ := fits_get k; refine fits_mk (colsOk_app a1 b1 hl) (rowOk_mk (by simp at hl ⊢; omega) fun v hv => ?_) (by simp [a3, b3]) fun i v c hv hc => ?_
  · rcases List.mem_append.1 hv with hv | hv
    · exact (rowOk_all a2).2 v hv
    · exact (rowOk_all b2).2 v hv
  · rw [List.getElem?_append] at hv hc
    rw [a3] at hv
    split at hv
    · rename_i hi
      rw [if_pos hi] at hc; exact a4 i v c hv hc
    · rename_i hi
      rw [if_neg hi] at hc; exact b4 _ v c hv hc
theorem inR_get {α : Type} {l : List α} {n : Int} {d : α} (h : inR l.length n = true) : l[n.toNat]? = some (l.getD n.toNat d) := by
  have h2 := inR_of h; rw [List.getD_eq_getElem?_getD, List.getElem?_eq_getElem h2.2]; rfl
theorem E_cloneV {l : Row} (h : l.length ≤ 900000000) : m_impl_clone_impl_Value l = some l := E_clone h
theorem E_beside {a b : Row} (ha : a.length ≤ 4) (hb : b.length ≤ 4) : m_impl_beside a b = some (a ++ b) := by
  unfold m_impl_beside; rw [E_ConcatV (by omega) (by omega), Option.bind_some, E_cloneV (by simp; omega)]; rfl
theorem app1 {o : Rows} {x : Row} (h : o.length ≤ 1000000) : app? o [x] = some (o ++ [x]) := app_of (by simp; omega)
theorem odd0 {o : Rd} : m_Pspec_l20Rd_odd o 0 = some (false, o) := by
  unfold m_Pspec_l20Rd_odd m_Pspec_l20Rd_odd_j1; rw [show decide ((0 : Int) > 0) = false from rfl, cond_false]
def vLk (c : Col) (v : V) : Prop := vOk v = true ∧ vFit v c = true ∧ v.S.size ≤ 20
theorem vLk_0 {c : Col} (h : c.Empty = true) : vLk c v0 := ⟨vOk_v0, by unfold vFit; rw [h]; simp [show v0.Kind = 0 from rfl], by decide⟩
theorem vLk_n {c : Col} (h : c.Kind = 1) {n : Int} (h1 : 0 ≤ n ∧ n ≤ 9999) : vLk c ⟨1, n, ⟨#[]⟩⟩ := ⟨by rw [vOk_num, decide_eq_true h1.2, decide_eq_true (show -9999 ≤ n by omega)]; rfl, by unfold vFit; rw [decide_eq_true h.symm]; rfl, by show ByteArray.size ⟨#[]⟩ ≤ 20; decide⟩
theorem vLk_b {c : Col} (h : c.Kind = 3) {n : Int} (h1 : n = 0 ∨ n = 1) : vLk c ⟨3, n, ⟨#[]⟩⟩ := ⟨by rcases h1 with rfl | rfl <;> decide, by unfold vFit; rw [decide_eq_true h.symm]; rfl, by show ByteArray.size ⟨#[]⟩ ≤ 20; decide⟩
theorem vLk_s {c : Col} (h : c.Kind = 2) {s : ByteArray} (h1 : vOk ⟨2, 0, s⟩ = true) (h2 : s.size ≤ 20) : vLk c ⟨2, 0, s⟩ := ⟨h1, by unfold vFit; rw [decide_eq_true h.symm]; rfl, h2⟩
theorem D_Like {o : Rd} {c : Col} (hc : colOk c = true) (ho : 0 ≤ o.p ∧ o.p ≤ 1000000000 - 100) : Tot (m_spec_l20Like o c) fun r => vLk c r.1 ∧ o.p ≤ r.2.p ∧ r.2.p ≤ o.p + 3 := by
  unfold m_spec_l20Like; have hk : 1 ≤ c.Kind ∧ c.Kind ≤ 3 := by unfold colOk at hc; simpa using hc
  have j1 : ∀ (b : Bool) (q : Rd) (v : V), (b = true → c.Empty = true) → o.p ≤ q.p → q.p ≤ o.p + 1 → Tot (m_spec_l20Like_j1 c b q v) fun r => vLk c r.1 ∧ o.p ≤ r.2.p ∧ r.2.p ≤ o.p + 3 := by
    intro b q v hb h1 h2; unfold m_spec_l20Like_j1; refine Tot.bif (fun h => Tot.lt (Tot.ret ⟨vLk_0 (hb h), h1, by simp only; omega⟩)) (fun _ => Tot.bif (fun h => ?_) (fun hn1 => Tot.bif (fun h => ?_) (fun hn2 => ?_)))
    · refine Tot.bind (T_pick (by omega)) (fun r hr => Tot.lt (Tot.ret ⟨vLk_n (by simpa using h) (by omega), by simp only; omega, by simp only; omega⟩))
    · refine Tot.bind (T_pick (by omega)) (fun r hr => Tot.at (by omega) (by simp only [List.length_cons, List.length_nil]; omega) (fun y hy => Tot.lt (Tot.ret ⟨?_, by simp only; omega, by simp only; omega⟩)))
      simp only [List.mem_cons, List.mem_nil_iff, or_false] at hy; rcases hy with rfl | rfl | rfl | rfl <;> exact vLk_s (by simpa using h) (by decide) (by decide)
    · refine Tot.bind (T_pick (by omega)) (fun r hr => Tot.lt (Tot.ret ⟨vLk_b ?_ (by omega), by simp only; omega, by simp only; omega⟩))
      have a1 : c.Kind ≠ 1 := by simpa using hn1
      have a2 : c.Kind ≠ 2 := by simpa using hn2
      omega
  refine Tot.bif (fun h => Tot.bind (T_pick (by omega)) (fun r hr => j1 _ _ _ (fun _ => h) (by omega) (by omega))) (fun _ => j1 _ _ _ (fun h => by cases h) (by omega) (by omega))
theorem D_Columns {o : Rd} (ho : 0 ≤ o.p ∧ o.p ≤ 1000000000 - 100) : Tot (m_spec_l20Columns o 0) fun r => (1 ≤ r.1.length ∧ r.1.length ≤ 3 ∧ ∀ c ∈ r.1, colOk c = true) ∧ o.p ≤ r.2.p ∧ r.2.p ≤ o.p + 20 := by
  unfold m_spec_l20Columns; refine Tot.bind (T_pick (by omega)) (fun r hr => Tot.ck (by omega) (by omega) ?_); refine Tot.down (fun f t (s : Rd × List S_impl_Column) => m_spec_l20Columns_l1 f 0 t s.1 s.2) (fun t s => t ≤ 3 ∧ r.2.p ≤ s.1.p ∧ s.1.p + 2 * t ≤ r.2.p + 6 ∧ (s.2.length : Int) + t = 1 + r.1 ∧ ∀ c ∈ s.2, colOk c = true) (fun f s h => ?_) (fun f t s ht h ih => ?_) _ (1 + r.1) (r.2, []) (by omega) (by omega) ⟨by omega, by simp only; omega, by simp only; omega, by first | (simp; done) | (simp; omega), by simp⟩
  · obtain ⟨g1, g2, g3, g4, g5⟩ := h
    rw [m_spec_l20Columns_l1, show decide ((0 : Int) > 0) = false from rfl, cond_false]; unfold m_spec_l20Columns_j1 m_spec_l20Columns_j2; rw [odd0, Option.bind_some, cond_false]; exact Tot.ret ⟨⟨by simp only; omega, by simp only; omega, g5⟩, by simp only; omega, by simp only; omega⟩
  · obtain ⟨g1, g2, g3, g4, g5⟩ := h
    rw [m_spec_l20Columns_l1, decide_eq_true (show t > 0 by omega), cond_true]; refine Tot.bind (T_pick (by omega)) (fun x hx => Tot.at (by omega) (by simp only [List.length_cons, List.length_nil]; omega) (fun y hy => ?_)); have hy' : 1 ≤ y ∧ y ≤ 3 := by simp at hy; omega
    refine Tot.bind (T_pick (by omega)) (fun z hz => Tot.app (by simp only [List.length_cons, List.length_nil]; omega) (Tot.ck (by omega) (by omega) ?_)); refine ih (z.2, s.2 ++ [⟨y, decide (z.1 > 0)⟩]) ⟨by omega, by simp only; omega, by simp only; omega, by first | (simp; done) | (simp; omega), ?_⟩; intro c hc; simp only [List.mem_append, List.mem_cons, List.mem_nil_iff, or_false] at hc; rcases hc with hc | rfl
    · exact g5 c hc
    · unfold colOk; simpa using hy'
theorem D_Fit {o : Rd} {cs : List Col} (ho : 0 ≤ o.p ∧ o.p ≤ 1000000000 - 1000) (hc : colsOk cs = true) : Tot (m_spec_l20Fit o cs 0) fun r => rowFits cs r.1 = true ∧ o.p ≤ r.2.p ∧ r.2.p ≤ o.p + 80 := by
  obtain ⟨hc1, hc2⟩ := colsOk_all hc; unfold m_spec_l20Fit; refine Tot.up (cs.length : Int) (fun f t (s : Rd × Row) => m_spec_l20Fit_l1 f cs 0 t s.1 s.2) (fun t s => o.p ≤ s.1.p ∧ s.1.p ≤ o.p + 3 * t ∧ (s.2.length : Int) = t ∧ (∀ v ∈ s.2, vOk v = true) ∧ ∀ (i : Nat) v c, s.2[i]? = some v → cs[i]? = some c → vFit v c = true) (fun f s h => ?_) (fun f t s h0 ht h ih => ?_) _ 0 (o, []) (by omega) (by omega) (by omega) ⟨by simp only; omega, by simp only; omega, by simp, by simp, by simp⟩
  · obtain ⟨g1, g2, g3, g4, g5⟩ := h
    rw [m_spec_l20Fit_l1, show decide ((cs.length : Int) < cs.length) = false by simp, cond_false]; unfold m_spec_l20Fit_j1 m_spec_l20Fit_j2; rw [odd0, Option.bind_some, cond_false]; exact Tot.ret ⟨fits_mk hc (rowOk_mk (by simp only; omega) g4) (by simp only; omega) g5, by simp only; omega, by simp only; omega⟩
  · obtain ⟨g1, g2, g3, g4, g5⟩ := h
    obtain ⟨y, hx⟩ : ∃ y, cs[t.toNat]? = some y := ⟨_, List.getElem?_eq_getElem (by omega)⟩; rw [m_spec_l20Fit_l1, decide_eq_true ht, cond_true]; refine Tot.eq (at_z h0 hx) (Tot.bind (D_Like (hc2 _ (List.mem_of_getElem? hx)) (by omega)) (fun x hx' => Tot.app (by simp only [List.length_cons, List.length_nil]; omega) (Tot.ck (by omega) (by omega) ?_))); refine ih (x.2, s.2 ++ [x.1]) ⟨by simp only; omega, by simp only; omega, by first | (simp; done) | (simp; omega), ?_, ?_⟩
    · intro v hv
      rcases List.mem_append.1 hv with hv | hv
      · exact g4 v hv
      · rw [List.mem_singleton.1 hv]; exact hx'.1.1
    · intro i v c hv hcv
      simp only at hv; rw [List.getElem?_append] at hv
      split at hv
      · exact g5 i v c hv hcv
      · rename_i hi
        have e : i = s.2.length := by
          rcases Nat.lt_or_ge i (s.2.length + 1) with h | h
          · omega
          · rw [List.getElem?_eq_none (by simp; omega)] at hv; cases hv
        subst e; rw [Nat.sub_self] at hv; cases hv; have e2 : t.toNat = s.2.length := by omega
        rw [e2] at hx; rw [hx] at hcv; cases hcv; exact hx'.1.2.1
theorem D_Bag {o : Rd} {cs : List Col} (ho : 0 ≤ o.p ∧ o.p ≤ 1000000000 - 10000) (hc : colsOk cs = true) : Tot (m_spec_l20Bag o cs 0) fun r => (r.1.length ≤ 6 ∧ ∀ x ∈ r.1, rowFits cs x = true) ∧ o.p ≤ r.2.p ∧ r.2.p ≤ o.p + 600 := by
  unfold m_spec_l20Bag; refine Tot.bind (T_pick (by omega)) (fun r hr => ?_); refine Tot.down (fun f t (s : Rd × Rows) => m_spec_l20Bag_l1 f cs 0 t s.1 s.2) (fun t s => t ≤ r.1 ∧ o.p ≤ s.1.p ∧ s.1.p + 90 * t ≤ o.p + 1 + 90 * r.1 ∧ (s.2.length : Int) + t = r.1 ∧ ∀ x ∈ s.2, rowFits cs x = true) (fun f s h => ?_) (fun f t s ht h ih => ?_) _ r.1 (r.2, []) (by omega) (by omega) ⟨by omega, by simp only; omega, by simp only; omega, by simp, by simp⟩
  · obtain ⟨g1, g2, g3, g4, g5⟩ := h
    rw [m_spec_l20Bag_l1, show decide ((0 : Int) > 0) = false from rfl, cond_false]; exact Tot.ret ⟨⟨by simp only; omega, g5⟩, by simp only; omega, by simp only; omega⟩
  · obtain ⟨g1, g2, g3, g4, g5⟩ := h
    rw [m_spec_l20Bag_l1, decide_eq_true (show t > 0 by omega), cond_true]
    have j2 : ∀ (q : Rd) (x : Row), s.1.p ≤ q.p → q.p ≤ s.1.p + 90 → rowFits cs x = true → Tot (m_spec_l20Bag_j2 (m_spec_l20Bag_l1 f) cs 0 t q (s.2 ++ [x])) fun r => (r.1.length ≤ 6 ∧ ∀ x ∈ r.1, rowFits cs x = true) ∧ o.p ≤ r.2.p ∧ r.2.p ≤ o.p + 600 := by
      intro q x h1 h2 h3; unfold m_spec_l20Bag_j2; refine Tot.ck (by omega) (by omega) ?_; refine ih (q, s.2 ++ [x]) ⟨by omega, by simp only; omega, by simp only; omega, by first | (simp; done) | (simp; omega), ?_⟩; intro c hc; simp only [List.mem_append, List.mem_cons, List.mem_nil_iff, or_false] at hc; rcases hc with hc | rfl
      · exact g5 c hc
      · exact h3
    have j1 : ∀ (b : Bool) (q : Rd), s.1.p ≤ q.p → q.p ≤ s.1.p + 2 → (b = true → 0 < s.2.length) → Tot (m_spec_l20Bag_j1 (m_spec_l20Bag_l1 f) cs 0 t b q s.2) fun r => (r.1.length ≤ 6 ∧ ∀ x ∈ r.1, rowFits cs x = true) ∧ o.p ≤ r.2.p ∧ r.2.p ≤ o.p + 600 := by
      intro b q h1 h2 h3; unfold m_spec_l20Bag_j1; refine Tot.bif (fun hb => ?_) (fun _ => ?_)
      · have := h3 hb
        refine Tot.bind (T_pick (by omega)) (fun x hx => Tot.at (by omega) (by omega) (fun _ _ => Tot.at (by omega) (by omega) (fun y hy => ?_))); have hy' := g5 y hy; have hl := (rowOk_all (fits_get hy').2.1).1; refine Tot.eq (E_l3Own (by omega)) (Tot.app (by simp only [List.length_cons, List.length_nil]; omega) (j2 _ _ (by omega) (by omega) hy'))
      · refine Tot.bind (D_Fit (by omega) hc) (fun x hx => Tot.app (by simp only [List.length_cons, List.length_nil]; omega) (j2 _ _ (by omega) (by omega) hx.1))
    refine Tot.bif (fun h3 => ?_) (fun _ => j1 _ _ (by omega) (by omega) (by intro e; cases e)); simp only [gt_iff_lt, decide_eq_true_eq] at h3; refine Tot.bind (T_pick (by omega)) (fun x hx => j1 _ _ (by omega) (by omega) (fun _ => by omega))
def lk (cs : List Col) (k : Int) (p : Pt) : Prop := pSz p ∧ ∀ st, kStep cs st p = some (st ++ [k])
theorem kStep_put {cs : List Col} {st : List Int} {p : Pt} {k : Int} (h1 : tells cs p = true) (h2 : takesN p = 0) (h3 : kindOf cs p [] = (k, true)) : kStep cs st p = some (st ++ [k]) := by
  unfold kStep; rw [h2, Nat.sub_zero, List.drop_length, h3, if_pos ⟨h1, Nat.zero_le _, rfl⟩, List.take_length]
theorem lk_col {cs : List Col} {k i : Int} (h : ∃ c, 0 ≤ i ∧ cs[i.toNat]? = some c ∧ c.Kind = k) : lk cs k ⟨2, i, ⟨0, 0, ⟨#[]⟩⟩⟩ := by
  obtain ⟨c, h0, h1, h2⟩ := h
  have hl : i.toNat < cs.length := by
    rcases Nat.lt_or_ge i.toNat cs.length with h | h
    · exact h
    · rw [List.getElem?_eq_none h] at h1; cases h1
  refine ⟨pSz_0, fun st => kStep_put ?_ rfl ?_⟩
  · unfold tells
    rw [if_neg (show ¬ (2 : Int) = 1 by decide), if_pos rfl, decide_eq_true h0, decide_eq_true (show i ≤ (cs.length : Int) - 1 by omega), decide_eq_true (show (⟨0, 0, ⟨#[]⟩⟩ : V) = v0 from rfl)]; rfl
  · unfold kindOf
    rw [if_neg (show ¬ (2 : Int) = 1 by decide), if_pos rfl]; show ((cs.getD i.toNat ⟨0, false⟩).Kind, true) = _; rw [getD_of h1, h2]
theorem tells_cmp {cs : List Col} {n : Int} (h : 1 ≤ n ∧ n ≤ 4) : tells cs ⟨4, n, ⟨0, 0, ⟨#[]⟩⟩⟩ = true := by
  unfold tells; rw [if_neg (show ¬ (4 : Int) = 1 by decide), if_neg (show ¬ (4 : Int) = 2 by decide), if_pos rfl, decide_eq_true h.1, decide_eq_true h.2, decide_eq_true (show (⟨0, 0, ⟨#[]⟩⟩ : V) = v0 from rfl)]; rfl
def parts (r : Row) (b : Rows) (e : List Pt) : Rows := (b.map (r ++ ·)).filter (holdsB e)
theorem E_partners {r : Row} {y : Rows} {ca cb : List Col} {e : List Pt} (hy : y.length ≤ 300) (hr : rowFits ca r = true) (hf : ∀ q ∈ y, rowFits cb q = true) (hl : (ca ++ cb).length ≤ 4) (he : exprKind (ca ++ cb) e = 3) :
    m_impl_partners r y e = some (parts r y e) := by
  unfold m_impl_partners; have h := scanMF (f := fun q => if holdsB e (r ++ q) = true then some (r ++ q) else none) (J := fun o => some o) y (fun n k o => m_impl_partners_l1 n r e y (y.length : Int) k o) (fun n k q o hq ho => ?_) (fun n o ho => by rw [m_impl_partners_l1, dnlt, cond_false]; rfl) _ fuel0
  · rw [h]
    unfold parts
    congr 1
    clear h hy hf
    induction y with
    | nil => rfl
    | cons q y ih =>
      rw [List.map_cons]
      by_cases h : holdsB e (r ++ q) = true
      · rw [List.filterMap_cons_some (b := r ++ q) (by rw [if_pos h]), List.filter_cons_of_pos h, ih]
      · rw [List.filterMap_cons_none (by rw [if_neg h]), List.filter_cons_of_neg h, ih]
  · have hk := lt_of_at hq
    have h1 := (rowOk_all (fits_get hr).2.1).1; have h2 := (rowOk_all (fits_get (hf q (List.mem_of_getElem? hq))).2.1).1; rw [m_impl_partners_l1, dlt hk, cond_true, at_of hq, Option.bind_some, E_beside h1 h2, Option.bind_some, E_impl_exprHolds (by rw [he]; decide) (fits_app hr (hf q (List.mem_of_getElem? hq)) hl), Option.bind_some]; unfold m_impl_partners_j1; show (bif holdsB e (r ++ q) then _ else _) = _; cases holdsB e (r ++ q) with
    | true => rw [cond_true, app1 (by omega), Option.bind_some, ck1 (by omega), Option.bind_some]; rfl
    | false => rw [cond_false, ck1 (by omega), Option.bind_some]; simp
def twoOk (ca cb : List Col) (a b : Rows) (e : List Pt) : Prop := colsOk ca = true ∧ colsOk cb = true ∧ (ca ++ cb).length ≤ 4 ∧ a.length ≤ 30 ∧ b.length ≤ 30 ∧ (∀ r ∈ a, rowFits ca r = true) ∧ (∀ r ∈ b, rowFits cb r = true) ∧ exprKind (ca ++ cb) e = 3 ∧ ptSm e
theorem fits_rsSm {cs : List Col} {rs : Rows} (h : rs.length ≤ 400000000) (hf : ∀ r ∈ rs, rowFits cs r = true) : rsSm rs := by
  refine ⟨h, fun r hr => ?_⟩; have := rowOk_all (fits_get (hf r hr)).2.1; refine ⟨by omega, fun v hv => ?_⟩; have := (vN (this.2 v hv)).2; unfold vSm; omega
theorem E_testOk {ca cb : List Col} {a b : Rows} {e : List Pt} (h : twoOk ca cb a b e) : m_impl_testOk ca cb a b e = some true := by
  obtain ⟨h1, h2, h3, h4, h5, h6, h7, h8, h9⟩ := h; have l1 := (colsOk_all h1).1; have l2 := (colsOk_all h2).1; have hk := ptSm_k h9; unfold m_impl_testOk m_impl_sidesOk m_impl_sidesOk_j1; rw [List.length_append] at h3; rw [E_impl_ColumnsOk (by omega), Option.bind_some, h1, cond_true, E_impl_ColumnsOk (by omega), Option.bind_some, h2, cond_true, ckI_of (by omega) (by omega), Option.bind_some]; rw [decide_eq_true (show (ca.length : Int) + (cb.length : Int) ≤ 4 by omega), cond_true, decide_eq_true (show (a.length : Int) ≤ 30 by omega), cond_true, decide_eq_true (show (b.length : Int) ≤ 30 by omega), cond_true]; rw [E_impl_RowsOk (by omega) (fits_rsSm (by omega) h6), Option.bind_some, show rowsOk ca a = true by unfold rowsOk; rw [h1, List.all_eq_true.2 h6]; rfl, cond_true, E_impl_RowsOk (by omega) (fits_rsSm (by omega) h7), Option.bind_some, show rowsOk cb b = true by unfold rowsOk; rw [h2, List.all_eq_true.2 h7]; rfl, Option.bind_some, cond_true]; rw [E_ConcatC (by omega) (by omega), Option.bind_some, E_impl_ExprKind (by simp; omega) hk.1 hk.2, Option.bind_some, h8]; rfl
theorem E_kept {a : Rows} {p : Row → Option Bool} {q : Row → Bool} (h : a.length ≤ 1000) (hl : ∀ r ∈ a, r.length ≤ 4) (hp : ∀ r ∈ a, p r = some (q r)) : m_impl_kept a p = some (a.filter q) := by
  unfold m_impl_kept; have e := scanMF (f := fun r => if q r = true then some r else none) (J := fun o => m_impl_kept_j2 p o) a (fun n k o => m_impl_kept_l1 p n a (a.length : Int) k o) (fun n k r o hr ho => ?_) (fun n o ho => by rw [m_impl_kept_l1, dnlt, cond_false]) _ fuel0
  · rw [e]
    unfold m_impl_kept_j2; have ef : a.filterMap (fun r => if q r = true then some r else none) = a.filter q := by rw [← List.filterMap_eq_filter]; rfl
    have := List.length_filter_le q a; rw [ef, E_rowsCopy (by omega) (fun r hr => by have := hl r (List.mem_filter.1 hr).1; omega)]; rfl
  · have hk := lt_of_at hr
    rw [m_impl_kept_l1, dlt hk, cond_true, at_of hr, Option.bind_some, hp r (List.mem_of_getElem? hr), Option.bind_some]; unfold m_impl_kept_j1; cases q r with
    | true => rw [cond_true, app1 (by omega), Option.bind_some, ck1 (by omega), Option.bind_some]; rfl
    | false => rw [cond_false, ck1 (by omega), Option.bind_some]; simp
def some1 (b : Rows) (e : List Pt) (r : Row) : Bool := decide (0 < (parts r b e).length)
theorem E_SemiRows {ca cb : List Col} {a b : Rows} {e : List Pt} (h : twoOk ca cb a b e) : m_impl_SemiRows ca cb a b e = some (a.filter (some1 b e)) := by
  unfold m_impl_SemiRows; rw [E_testOk h, Option.bind_some, Bool.not_true, cond_false]; obtain ⟨h1, h2, h3, h4, h5, h6, h7, h8, h9⟩ := h
  rw [E_kept (q := some1 b e) (by omega) (fun r hr => (rowOk_all (fits_get (h6 r hr)).2.1).1) (fun r hr => by
    unfold m_impl_SemiRows_1; rw [E_partners (by omega) (h6 r hr) h7 h3 h8, Option.bind_some]; unfold some1
    congr 1
    rw [Bool.eq_iff_iff]; simp)]; rfl
theorem E_ContainsV {l : Row} {v : V} (h : l.length ≤ 900000000) : m_slices_Contains_Limpl_Value_impl_Value l v = some (l.any fun x => decide (v = x)) := by
  unfold m_slices_Contains_Limpl_Value_impl_Value m_slices_Index_Limpl_Value_impl_Value
  have h := scanI (q := fun x => decide (v = x)) (g := fun i => some i) l (fun n k => m_slices_Index_Limpl_Value_impl_Value_l1 n l v (l.length : Int) k) (fun n k x hx => by
    have := lt_of_at hx; rw [m_slices_Index_Limpl_Value_impl_Value_l1, dlt this, cond_true]; simp only [at_of hx, Option.bind_some, ck1 (show k < 1000000000000 by omega)]) (fun n => by rw [m_slices_Index_Limpl_Value_impl_Value_l1, dnlt]; rfl) _ fuel0
  rw [h, Option.bind_some, (idxI_ge (fun x => decide (v = x)) l).2.2]
def colOf (b : Rows) (j : Int) : Row := b.map (rowAt · j)
theorem E_column {b : Rows} {n : Nat} {j : Int} (hb : b.length ≤ 1000) (hl : ∀ r ∈ b, r.length = n) (hj : inR n j = true) : m_impl_column b j = some (colOf b j) := by
  unfold m_impl_column; have e := scanM (f := fun r => rowAt r j) (J := fun o => m_impl_column_j1 o) b (fun f k o => m_impl_column_l1 f j b (b.length : Int) k o) (fun f k r o hr ho => ?_) (fun f o ho => by rw [m_impl_column_l1, dnlt, cond_false]) _ fuel0
  · rw [e]; rfl
  · have hk := lt_of_at hr
    have hi : inR r.length j = true := by rw [hl r (List.mem_of_getElem? hr)]; exact hj
    rw [m_impl_column_l1, dlt hk, cond_true, at_of hr, Option.bind_some, getD_in (d := v0) hi, Option.bind_some, app_of (by simp; omega), Option.bind_some, ck1 (by omega), Option.bind_some]; rfl
theorem E_l23Values {b : Rows} {n : Nat} {j : Int} (hb : b.length ≤ 1000) (hl : ∀ r ∈ b, r.length = n) (hj : inR n j = true) : m_spec_l23Values b j = some (colOf b j) := by
  unfold m_spec_l23Values; have e := scanM (f := fun r => rowAt r j) (J := fun o => m_spec_l23Values_j1 o) b (fun f k o => m_spec_l23Values_l1 f b j k o) (fun f k r o hr ho => ?_) (fun f o ho => by rw [m_spec_l23Values_l1, dnlt, cond_false]) _ fuel0
  · rw [e]; rfl
  · have hk := lt_of_at hr
    have hi : inR r.length j = true := by rw [hl r (List.mem_of_getElem? hr)]; exact hj
    rw [m_spec_l23Values_l1, dlt hk, cond_true, at_of hr, Option.bind_some, getD_in (d := v0) hi, Option.bind_some, app_of (by simp; omega), Option.bind_some, ck1 (by omega), Option.bind_some]; rfl
def inB (v : V) (l : Row) : Bool := decide (¬ v.Kind = 0) && l.any fun x => decide (v = x)
def colK (k : Int) (l : Row) : Prop := l.length ≤ 30 ∧ ∀ x ∈ l, tyV x k
theorem tyV_sz {v : V} {k : Int} (h : tyV v k) : v.S.size ≤ 1000 := (vN h.1).2
theorem E_InTruth {k : Int} {v : V} {l : Row} (hk : 1 ≤ k) (hv : tyV v k) (hl : colK k l) : ∃ t, m_impl_InTruth v l = some t ∧ (t == 1) = inB v l := by
  unfold m_impl_InTruth; rw [E_Value_ok (by have := tyV_sz hv; omega), Option.bind_some, hv.1, Bool.not_true, cond_false, decide_eq_false (show ¬ (l.length : Int) > 30 by have := hl.1; omega), cond_false]
  rw [L_slices_ContainsFunc_Limpl_Value_impl_Value (q := fun x => !decide (x.Kind = v.Kind) && !decide (x.Kind = 0)) (by have := hl.1; omega) (fun x hx => by
    unfold m_impl_InTruth_1 m_impl_InTruth_1_j1; have hx' := hl.2 x hx; rw [E_Value_ok (by have := tyV_sz hx'; omega), Option.bind_some, hx'.1, Bool.not_true, cond_false]
    by_cases e : x.Kind = v.Kind
    · rw [bneF e, cond_false, decide_eq_true e]; rfl
    · rw [beqF' e, cond_true, decide_eq_false e]
      by_cases e0 : x.Kind = 0
      · rw [bneF e0, decide_eq_true e0]; rfl
      · rw [beqF' e0, decide_eq_false e0]; rfl), Option.bind_some]
  unfold m_impl_InTruth_j1 inB; rw [E_ContainsV (by have := hl.1; omega), E_ContainsV (by have := hl.1; omega)]
  by_cases h0 : v.Kind = 0
  · have e1 : (decide (¬ v.Kind = 0) && l.any fun x => decide (v = x)) = false := by rw [decide_eq_false (by simpa using h0)]; rfl
    rw [e1]; cases l.any fun x => !decide (x.Kind = v.Kind) && !decide (x.Kind = 0) with
    | true => exact ⟨2, rfl, rfl⟩
    | false =>
      rw [cond_false]
      by_cases hn : (l.length : Int) = 0
      · rw [beqE hn, cond_true]; exact ⟨0, rfl, rfl⟩
      · rw [beqF hn, cond_false, beqE h0, cond_true]; exact ⟨2, rfl, rfl⟩
  · have hvk : v.Kind = k := hv.2.resolve_right h0
    have e0 : (l.any fun x => !decide (x.Kind = v.Kind) && !decide (x.Kind = 0)) = false := by
      rw [List.any_eq_false]; intro x hx; have := (hl.2 x hx).2; rcases this with h | h
      · rw [decide_eq_true (show x.Kind = v.Kind by omega)]; simp
      · rw [decide_eq_true h]; simp
    rw [e0, cond_false, decide_eq_true (show ¬ v.Kind = 0 from h0), Bool.true_and]
    by_cases hn : (l.length : Int) = 0
    · have : l = [] := List.eq_nil_of_length_eq_zero (by omega)
      subst this; exact ⟨0, rfl, rfl⟩
    · rw [beqF hn, cond_false, beqF h0, cond_false, Option.bind_some, Option.bind_some]
      cases l.any fun x => decide (v = x) with
      | true => exact ⟨1, rfl, rfl⟩
      | false =>
        rw [cond_false]; cases l.any fun x => decide ((⟨0, 0, ⟨#[]⟩⟩ : V) = x) with
        | true => exact ⟨2, rfl, rfl⟩
        | false => exact ⟨0, rfl, rfl⟩
theorem cmp1 {k : Int} {v x : V} (hv : tyV v k) (hx : tyV x k) : tOk (cmpT 1 v x) = true ∧ (cmpT 1 v x = 1 ↔ ¬ v.Kind = 0 ∧ v = x) := by
  unfold cmpT; rw [hv.1, hx.1, if_pos (show ((decide ((1 : Int) ≤ 1) && decide ((1 : Int) ≤ 4)) && (true && true)) = true from rfl)]
  by_cases h0 : v.Kind = 0 ∨ x.Kind = 0
  · rw [if_pos h0]
    refine ⟨rfl, fun h => absurd h (by decide), fun h => ?_⟩; rcases h0 with h0 | h0
    · exact absurd h0 h.1
    · rw [← h.2] at h0; exact absurd h0 h.1
  · rw [if_neg h0]
    have a0 : ¬ v.Kind = 0 := fun h => h0 (.inl h); have b0 : ¬ x.Kind = 0 := fun h => h0 (.inr h); rw [if_pos (show v.Kind = x.Kind by rw [hv.2.resolve_right a0, hx.2.resolve_right b0])]; unfold cmpR; rw [if_pos rfl]
    by_cases e : vOrd v x = 0
    · rw [decide_eq_true e, if_pos rfl]
      exact ⟨rfl, fun _ => ⟨a0, (TO_value.eq0 v x).1 e⟩, fun _ => rfl⟩
    · rw [decide_eq_false e, if_neg (by decide)]
      exact ⟨rfl, fun h => absurd h (by decide), fun h => absurd ((TO_value.eq0 v x).2 h.2) e⟩
theorem or1 {a b : Int} (ha : tOk a = true) (hb : tOk b = true) : tOk (orT a b) = true ∧ (orT a b = 1 ↔ a = 1 ∨ b = 1) := by
  rcases tOk_3 ha with rfl | rfl | rfl <;> rcases tOk_3 hb with rfl | rfl | rfl <;> decide
theorem spec_in_loop {k : Int} {v : V} {l : Row} (hk : 1 ≤ k) (hv : tyV v k) (hl : colK k l) : ∀ (d m n : Nat) (t : Int), m + d = l.length → d < n → tOk t = true →
    ∃ r, m_spec_InTruth_l1 n l v t (m : Int) = some r ∧ ((r == 1) = (decide (t = 1) || inB v (l.drop m))) := by
  intro d
  induction d with
  | zero =>
    intro m n t hm hd ht; obtain ⟨n, rfl⟩ : ∃ q, n = q + 1 := ⟨n - 1, by omega⟩; have : m = l.length := by omega
    subst this; rw [m_spec_InTruth_l1, dnlt, cond_false, List.drop_length]; refine ⟨t, rfl, ?_⟩; unfold inB; simp [beqD]
  | succ d ih =>
    intro m n t hm hd ht; obtain ⟨n, rfl⟩ : ∃ q, n = q + 1 := ⟨n - 1, by omega⟩; have hlt : m < l.length := by omega
    obtain ⟨x, hx⟩ : ∃ x, l[m]? = some x := ⟨_, List.getElem?_eq_getElem hlt⟩; have hx' := hl.2 x (List.mem_of_getElem? hx); have h30 := hl.1; have hc := cmp1 hv hx'; have ho := or1 ht hc.1; rw [m_spec_InTruth_l1, dlt hlt, cond_true, at_of hx, Option.bind_some, E_spec_ValueOk (by have := tyV_sz hx'; omega), Option.bind_some, hx'.1, Bool.not_true, cond_false, Option.bind_some, Option.bind_some]
    have go : ∃ r, m_spec_InTruth_j2 (m_spec_InTruth_l1 n) l v t (m : Int) false = some r ∧ ((r == 1) = (decide (t = 1) || inB v (l.drop m))) := by
      unfold m_spec_InTruth_j2; rw [cond_false, at_of hx, Option.bind_some, E_spec_Compare (by unfold vSm; have := tyV_sz hv; omega) (by unfold vSm; have := tyV_sz hx'; omega), Option.bind_some, E_spec_OrOf, Option.bind_some, ck1 (by omega), Option.bind_some, show ((m : Int) + 1) = ((m + 1 : Nat) : Int) by omega]; obtain ⟨r, h1, h2⟩ := ih (m + 1) n (orT t (cmpT 1 v x)) (by omega) (by omega) ho.1; refine ⟨r, h1, ?_⟩; rw [h2]
      have hdrop : l.drop m = x :: l.drop (m + 1) := by
        rw [List.drop_eq_getElem_cons hlt]; rw [List.getElem?_eq_getElem hlt] at hx; cases hx; rfl
      rw [hdrop, Bool.eq_iff_iff]; unfold inB; simp only [Bool.or_eq_true, decide_eq_true_eq, Bool.and_eq_true, List.any_cons, ho.2, hc.2]; constructor
      · rintro ((h | ⟨h, h'⟩) | ⟨h, h'⟩)
        · exact .inl h
        · exact .inr ⟨h, .inl h'⟩
        · exact .inr ⟨h, .inr h'⟩
      · rintro (h | ⟨h, h' | h'⟩)
        · exact .inl (.inl h)
        · exact .inl (.inr ⟨h, h'⟩)
        · exact .inr ⟨h, h'⟩
    by_cases v0' : v.Kind = 0
    · rw [bneF v0', cond_false]; exact go
    · rw [beqF' v0', cond_true]
      by_cases x0' : x.Kind = 0
      · rw [bneF x0', cond_false]; exact go
      · rw [beqF' x0', cond_true, bneF (show v.Kind = x.Kind by rw [hv.2.resolve_right v0', hx'.2.resolve_right x0'])]; exact go
theorem E_spec_InTruth {k : Int} {v : V} {l : Row} (hk : 1 ≤ k) (hv : tyV v k) (hl : colK k l) : ∃ t, m_spec_InTruth v l = some t ∧ (t == 1) = inB v l := by
  unfold m_spec_InTruth; rw [E_spec_ValueOk (by have := tyV_sz hv; omega), Option.bind_some, hv.1, Bool.not_true, cond_false]; unfold m_spec_InTruth_j1; rw [decide_eq_false (show ¬ (l.length : Int) > 30 by have := hl.1; omega), cond_false]; obtain ⟨r, h1, h2⟩ := spec_in_loop hk hv hl l.length 0 (((l.length : Int) - 0).toNat + 1) 0 (by omega) fuel0 rfl; exact ⟨r, h1, by rw [h2, List.drop_zero]; rfl⟩
def sidesB (ca cb : List Col) (a b : Rows) : Bool := decide (ca.length + cb.length ≤ 4) && (decide (a.length ≤ 30) && (decide (b.length ≤ 30) && (rowsOk ca a && rowsOk cb b)))
theorem int4 (a b : Nat) : decide ((a : Int) + (b : Int) ≤ 4) = decide (a + b ≤ 4) := by rw [Bool.eq_iff_iff]; simp; omega
theorem int30 (a : Nat) : decide ((a : Int) ≤ 30) = decide (a ≤ 30) := by rw [Bool.eq_iff_iff]; simp; omega
theorem E_sidesOk {ca cb : List Col} {a b : Rows} (ha : colsOk ca = true) (hb : colsOk cb = true) (sa : rsSm a) (sb : rsSm b) : m_impl_sidesOk ca cb a b = some (sidesB ca cb a b) := by
  have l1 := (colsOk_all ha).1; have l2 := (colsOk_all hb).1; unfold m_impl_sidesOk m_impl_sidesOk_j1 sidesB; rw [E_impl_ColumnsOk (by omega), Option.bind_some, ha, cond_true, E_impl_ColumnsOk (by omega), Option.bind_some, hb, cond_true, ckI_of (by omega) (by omega), Option.bind_some, int4, int30, int30]; rw [E_impl_RowsOk (by omega) sa, E_impl_RowsOk (by omega) sb, Option.bind_some, Option.bind_some]; cases decide (ca.length + cb.length ≤ 4) <;> cases decide (a.length ≤ 30) <;> cases decide (b.length ≤ 30) <;> cases rowsOk ca a <;> rfl
def kEq (ca cb : List Col) (i j : Int) : Bool := decide ((colAt ca i).Kind = (colAt cb j).Kind)
def joinB (ca cb : List Col) (a b : Rows) (i j : Int) : Bool := sidesB ca cb a b && (inR ca.length i && (inR cb.length j && kEq ca cb i j))
theorem E_joinOk {ca cb : List Col} {a b : Rows} {i j : Int} (ha : colsOk ca = true) (hb : colsOk cb = true) (sa : rsSm a) (sb : rsSm b) : m_impl_joinOk ca cb a b i j = some (joinB ca cb a b i j) := by
  have l1 := (colsOk_all ha).1; have l2 := (colsOk_all hb).1; unfold m_impl_joinOk m_impl_joinOk_j1 joinB; rw [E_sidesOk ha hb sa sb, Option.bind_some]; cases sidesB ca cb a b with
  | false => rfl
  | true =>
    rw [cond_true, ckI_of (by omega) (by omega), Option.bind_some, E_between, Option.bind_some, Bool.true_and]; show (bif inR ca.length i then _ else _) = _; cases hi : inR ca.length i with
    | false => rfl
    | true =>
      rw [cond_true, ckI_of (by omega) (by omega), Option.bind_some, E_between, Option.bind_some, Bool.true_and]; show (bif inR cb.length j then _ else _) = _; cases hj : inR cb.length j with
      | false => rfl
      | true =>
        rw [cond_true, getD_in (d := col0) hi, Option.bind_some, getD_in (d := col0) hj, Option.bind_some, beqD]; rfl
theorem E_Ready {ca cb : List Col} {a b : Rows} {i j : Int} (ha : colsOk ca = true) (hb : colsOk cb = true) (sa : rsSm a) (sb : rsSm b) : m_spec_l22Ready ca cb a b i j = some (joinB ca cb a b i j) := by
  have l1 := (colsOk_all ha).1; have l2 := (colsOk_all hb).1; unfold m_spec_l22Ready m_spec_l22Ready_j1 joinB sidesB; rw [E_spec_RowsOk (by omega) sa, Option.bind_some, E_spec_RowsOk (by omega) sb, Option.bind_some]; cases rowsOk ca a with
  | false => simp
  | true =>
    cases rowsOk cb b with
    | false => simp
    | true =>
      rw [cond_true, cond_true, ckI_of (by omega) (by omega), Option.bind_some, E_l1In, Option.bind_some]; show (bif inR ca.length i then _ else _) = _; cases hi : inR ca.length i with
      | false => simp
      | true =>
        rw [cond_true, ckI_of (by omega) (by omega), Option.bind_some, E_l1In, Option.bind_some]; show (bif inR cb.length j then _ else _) = _; cases hj : inR cb.length j with
        | false => simp
        | true =>
          rw [cond_true, getD_in (d := col0) hi, Option.bind_some, getD_in (d := col0) hj, Option.bind_some, beqD]; show (bif kEq ca cb i j then _ else _) = _; cases kEq ca cb i j with
          | false => simp
          | true =>
            rw [cond_true, ckI_of (by omega) (by omega), Option.bind_some, int4, int30, int30]; cases decide (ca.length + cb.length ≤ 4) <;> cases decide (a.length ≤ 30) <;> cases decide (b.length ≤ 30) <;> rfl
theorem joinB_get {ca cb : List Col} {a b : Rows} {i j : Int} (h : joinB ca cb a b i j = true) : (ca.length + cb.length ≤ 4 ∧ a.length ≤ 30 ∧ b.length ≤ 30 ∧ (∀ r ∈ a, rowFits ca r = true) ∧ ∀ r ∈ b, rowFits cb r = true) ∧ inR ca.length i = true ∧ inR cb.length j = true ∧ (colAt ca i).Kind = (colAt cb j).Kind := by
  unfold joinB sidesB kEq rowsOk at h; simp only [Bool.and_eq_true, decide_eq_true_eq, List.all_eq_true] at h; exact ⟨⟨h.1.1, h.1.2.1, h.1.2.2.1, h.1.2.2.2.1.2, h.1.2.2.2.2.2⟩, h.2.1, h.2.2.1, h.2.2.2⟩
theorem fit_ty {cs : List Col} {r : Row} {i : Int} (h : rowFits cs r = true) (hi : inR cs.length i = true) : tyV (rowAt r i) (colAt cs i).Kind := by
  obtain ⟨f1, f2, f3, f4⟩ := fits_get h; have hr : inR r.length i = true := by rw [f3]; exact hi
  have hx := inR_get (d := v0) hr; have := f4 _ _ _ hx (inR_get (d := col0) hi); unfold vFit at this; rw [Bool.or_eq_true, decide_eq_true_eq, Bool.and_eq_true, decide_eq_true_eq] at this; exact ⟨(rowOk_all f2).2 _ (List.mem_of_getElem? hx), this.imp id (fun h => h.1)⟩
theorem col_ty {cs : List Col} {b : Rows} {j : Int} (hb : b.length ≤ 30) (h : ∀ r ∈ b, rowFits cs r = true) (hj : inR cs.length j = true) : colK (colAt cs j).Kind (colOf b j) := by
  refine ⟨by unfold colOf; simpa using hb, fun x hx => ?_⟩; unfold colOf at hx; obtain ⟨r, hr, rfl⟩ := List.mem_map.1 hx; exact fit_ty (h r hr) hj
theorem col_1 {cs : List Col} {i : Int} (h : colsOk cs = true) (hi : inR cs.length i = true) : 1 ≤ (colAt cs i).Kind := by
  have := (colsOk_all h).2 _ (getD_mem' (d := col0) hi); unfold colOk at this; simp at this; exact this.1
def inRows (ca cb : List Col) (a b : Rows) (i j : Int) : Rows := if joinB ca cb a b i j = true then a.filter fun r => inB (rowAt r i) (colOf b j) else []
theorem E_impl_InRows {ca cb : List Col} {a b : Rows} {i j : Int} (ha : colsOk ca = true) (hb : colsOk cb = true) (sa : rsSm a) (sb : rsSm b) : m_impl_InRows ca cb a b i j = some (inRows ca cb a b i j) := by
  unfold m_impl_InRows inRows; rw [E_joinOk ha hb sa sb, Option.bind_some]; cases h : joinB ca cb a b i j with
  | false => rfl
  | true =>
    obtain ⟨⟨h1, h2, h3, h4, h5⟩, hi, hj, hk⟩ := joinB_get h; have k1 := col_1 ha hi; have hc := col_ty h3 h5 hj; rw [← hk] at hc
    rw [Bool.not_true, cond_false, if_pos rfl, E_kept (q := fun r => inB (rowAt r i) (colOf b j)) (by omega) (fun r hr => (rowOk_all (fits_get (h4 r hr)).2.1).1) (fun r hr => by
      unfold m_impl_InRows_1; have hir : inR r.length i = true := by rw [(fits_get (h4 r hr)).2.2.1]; exact hi
      obtain ⟨t, e1, e2⟩ := E_InTruth k1 (fit_ty (h4 r hr) hi) hc; rw [getD_in (d := v0) hir, Option.bind_some, E_column (by omega) (fun q hq => (fits_get (h5 q hq)).2.2.1) hj, Option.bind_some]; change (m_impl_InTruth (rowAt r i) (colOf b j)).bind _ = _; rw [e1, Option.bind_some, e2])]; rfl
theorem E_spec_InRows {ca cb : List Col} {a b : Rows} {i j : Int} (ha : colsOk ca = true) (hb : colsOk cb = true) (sa : rsSm a) (sb : rsSm b) : m_spec_InRows ca cb a b i j = some (inRows ca cb a b i j) := by
  unfold m_spec_InRows inRows; cases h : joinB ca cb a b i j with
  | false =>
    rw [if_neg (by decide), show (1000000000 : Nat) = 999999999 + 1 from rfl, m_spec_InRows_l1]; rw [E_Ready ha hb sa sb, h, Option.bind_some]; unfold m_spec_InRows_j1; cases decide ((0 : Int) < (a.length : Int)) <;> rfl
  | true =>
    obtain ⟨⟨h1, h2, h3, h4, h5⟩, hi, hj, hk⟩ := joinB_get h; have k1 := col_1 ha hi; have hc := col_ty h3 h5 hj; rw [← hk] at hc; rw [if_pos rfl]; have e := scanMF (f := fun r => if inB (rowAt r i) (colOf b j) = true then some r else none) (J := fun o => some o) a (fun n k o => m_spec_InRows_l1 n ca cb a b i j k o) (fun n k r o hr ho => ?_) (fun n o ho => by rw [m_spec_InRows_l1, dnlt, cond_false]; rfl) 1000000000 (by omega)
    · rw [e]
      congr 1
      rw [← List.filterMap_eq_filter]; rfl
    · have hk' := lt_of_at hr
      have hfit := h4 r (List.mem_of_getElem? hr); have hir : inR r.length i = true := by rw [(fits_get hfit).2.2.1]; exact hi
      obtain ⟨t, e1, e2⟩ := E_spec_InTruth k1 (fit_ty hfit hi) hc; rw [m_spec_InRows_l1, dlt hk', cond_true, E_Ready ha hb sa sb, h, Option.bind_some]; unfold m_spec_InRows_j1 m_spec_InRows_j2; rw [cond_true, at_of hr, Option.bind_some, getD_in (d := v0) hir, Option.bind_some, E_l23Values (by omega) (fun q hq => (fits_get (h5 q hq)).2.2.1) hj, Option.bind_some]; change (m_spec_InTruth (rowAt r i) (colOf b j)).bind _ = _; rw [e1, Option.bind_some, e2, Option.bind_some]; cases inB (rowAt r i) (colOf b j) with
      | true => rw [cond_true, E_l3Own (by have := (rowOk_all (fits_get hfit).2.1).1; omega), Option.bind_some, app1 (by omega), Option.bind_some, ck1 (by omega), Option.bind_some]; rfl
      | false => rw [cond_false, ck1 (by omega), Option.bind_some]; simp
def inE (i m : Int) : List Pt := [⟨2, i, ⟨0, 0, ⟨#[]⟩⟩⟩, ⟨2, m, ⟨0, 0, ⟨#[]⟩⟩⟩, ⟨4, 1, ⟨0, 0, ⟨#[]⟩⟩⟩]
theorem inE_sm (i m : Int) : ptSm (inE i m) := pt_sm (by simp [inE]) (by
  intro p hp; simp only [inE, List.mem_cons, List.mem_nil_iff, or_false] at hp; rcases hp with rfl | rfl | rfl <;> exact pSz_0)
theorem exprVal_in (row : Row) (i m : Int) : exprVal row (inE i m) = vOf (cmpT 1 (rowAt row i) (rowAt row m)) := rfl
theorem colAt_get {cs : List Col} {i : Int} (h : inR cs.length i = true) : ∃ c, 0 ≤ i ∧ cs[i.toNat]? = some c ∧ c.Kind = (colAt cs i).Kind :=
  ⟨_, (inR_of h).1, inR_get (d := col0) h, rfl⟩
theorem kind_in {cs : List Col} {i m : Int} (hc : colsOk cs = true) (hi : inR cs.length i = true) (hm : inR cs.length m = true) : decide (exprKind cs (inE i m) = 3) = decide ((colAt cs i).Kind = (colAt cs m).Kind) := by
  unfold exprKind; rw [if_pos ⟨hc, by simp [inE]⟩]; have h1 := (lk_col (colAt_get hi)).2 []; have h2 := (lk_col (colAt_get hm)).2 [(colAt cs i).Kind]; unfold inE; rw [kGo_c, h1, Option.bind_some, List.nil_append, kGo_c, h2, Option.bind_some, kGo_c]; show decide (fin1 ((kStep cs [(colAt cs i).Kind, (colAt cs m).Kind] ⟨4, 1, ⟨0, 0, ⟨#[]⟩⟩⟩).bind (kGo cs [])) = 3) = _; generalize (colAt cs i).Kind = x; generalize (colAt cs m).Kind = y; unfold kStep; rw [tells_cmp (by decide)]; have ek : kindOf cs ⟨4, 1, ⟨0, 0, ⟨#[]⟩⟩⟩ ([x, y].drop ([x, y].length - takesN ⟨4, 1, ⟨0, 0, ⟨#[]⟩⟩⟩)) = (3, decide (x = y)) := rfl; rw [ek]
  by_cases e : x = y
  · rw [decide_eq_true e, if_pos ⟨rfl, Nat.le_refl 2, rfl⟩]; rfl
  · rw [decide_eq_false e, if_neg (fun h => by cases h.2.2)]; rfl
theorem E_testOk_g {ca cb : List Col} {a b : Rows} {e : List Pt} (ha : colsOk ca = true) (hb : colsOk cb = true) (sa : rsSm a) (sb : rsSm b) (he : ptSm e) : m_impl_testOk ca cb a b e = some (sidesB ca cb a b && decide (exprKind (ca ++ cb) e = 3)) := by
  have l1 := (colsOk_all ha).1; have l2 := (colsOk_all hb).1; have hk := ptSm_k he; unfold m_impl_testOk; rw [E_sidesOk ha hb sa sb, Option.bind_some]; cases sidesB ca cb a b with
  | false => rfl
  | true =>
    rw [cond_true, E_ConcatC (by omega) (by omega), Option.bind_some, E_impl_ExprKind (by simp; omega) hk.1 hk.2, Option.bind_some, beqD]; rfl
theorem sidesB_get {ca cb : List Col} {a b : Rows} (h : sidesB ca cb a b = true) : ca.length + cb.length ≤ 4 ∧ a.length ≤ 30 ∧ b.length ≤ 30 ∧ (∀ r ∈ a, rowFits ca r = true) ∧ ∀ r ∈ b, rowFits cb r = true := by
  unfold sidesB rowsOk at h; simp only [Bool.and_eq_true, decide_eq_true_eq, List.all_eq_true] at h; exact ⟨h.1, h.2.1, h.2.2.1, h.2.2.2.1.2, h.2.2.2.2.2⟩
theorem E_Semi_g {ca cb : List Col} {a b : Rows} {e : List Pt} (ha : colsOk ca = true) (hb : colsOk cb = true) (sa : rsSm a) (sb : rsSm b) (he : ptSm e) : m_impl_SemiRows ca cb a b e = some (if (sidesB ca cb a b && decide (exprKind (ca ++ cb) e = 3)) = true then a.filter (some1 b e) else []) := by
  by_cases h : (sidesB ca cb a b && decide (exprKind (ca ++ cb) e = 3)) = true
  · rw [if_pos h]
    rw [Bool.and_eq_true, decide_eq_true_eq] at h; obtain ⟨h1, h2, h3, h4, h5⟩ := sidesB_get h.1; exact E_SemiRows ⟨ha, hb, by rw [List.length_append]; exact h1, h2, h3, h4, h5, h.2, he⟩
  · unfold m_impl_SemiRows
    rw [E_testOk_g ha hb sa sb he, Option.bind_some, if_neg h]; rw [Bool.not_eq_true] at h; rw [h]; rfl
theorem vOf_yes {t : Int} : vOf t = yes ↔ t = 1 := by
  unfold vOf yes; constructor
  · intro h
    split at h
    · cases h; rfl
    · cases h
  · rintro rfl; rfl
theorem rowAt_l {r q : Row} {i : Int} (h : inR r.length i = true) : rowAt (r ++ q) i = rowAt r i := by
  unfold rowAt; have := inR_of h; rw [List.getD_eq_getElem?_getD, List.getD_eq_getElem?_getD, List.getElem?_append_left this.2]
theorem rowAt_r {r q : Row} {j : Int} (h : 0 ≤ j) : rowAt (r ++ q) ((r.length : Int) + j) = rowAt q j := by
  unfold rowAt; rw [List.getD_eq_getElem?_getD, List.getD_eq_getElem?_getD, List.getElem?_append_right (by omega)]
  congr 2
  omega
theorem some_in {ca cb : List Col} {r : Row} {b : Rows} {i j : Int} (hr : rowFits ca r = true) (hb : ∀ q ∈ b, rowFits cb q = true) (hi : inR ca.length i = true) (hj : inR cb.length j = true) (hk : (colAt ca i).Kind = (colAt cb j).Kind) :
    some1 b (inE i ((ca.length : Int) + j)) r = inB (rowAt r i) (colOf b j) := by
  have hl := (fits_get hr).2.2.1; have tv := fit_ty hr hi
  have hh : ∀ q ∈ b, holdsB (inE i ((ca.length : Int) + j)) (r ++ q) = decide (¬ (rowAt r i).Kind = 0 ∧ rowAt r i = rowAt q j) := by
    intro q hq; have tq := fit_ty (hb q hq) hj; rw [← hk] at tq; unfold holdsB; rw [exprVal_in, rowAt_l (by rw [hl]; exact hi), ← hl, rowAt_r (inR_of hj).1, Bool.eq_iff_iff, decide_eq_true_eq, decide_eq_true_eq, vOf_yes]; exact (cmp1 tv tq).2
  rw [Bool.eq_iff_iff]; unfold some1 inB parts colOf; rw [decide_eq_true_eq, Bool.and_eq_true, decide_eq_true_eq, List.any_eq_true]; constructor
  · intro h
    obtain ⟨y, hy⟩ := List.exists_mem_of_length_pos h; obtain ⟨h1, h2⟩ := List.mem_filter.1 hy; obtain ⟨q, hq, rfl⟩ := List.mem_map.1 h1; rw [hh q hq, decide_eq_true_eq] at h2; exact ⟨h2.1, rowAt q j, List.mem_map_of_mem (f := (rowAt · j)) hq, decide_eq_true h2.2⟩
  · rintro ⟨h0, x, hx, he⟩
    obtain ⟨q, hq, rfl⟩ := List.mem_map.1 hx; rw [decide_eq_true_eq] at he; exact List.length_pos_of_mem (List.mem_filter.2 ⟨List.mem_map_of_mem (f := (r ++ ·)) hq, by rw [hh q hq]; exact decide_eq_true ⟨h0, he⟩⟩)
theorem colAt_l {a b : List Col} {i : Int} (h : inR a.length i = true) : colAt (a ++ b) i = colAt a i := by
  unfold colAt; have := inR_of h; rw [List.getD_eq_getElem?_getD, List.getD_eq_getElem?_getD, List.getElem?_append_left this.2]
theorem colAt_r {a b : List Col} {j : Int} (h : 0 ≤ j) : colAt (a ++ b) ((a.length : Int) + j) = colAt b j := by
  unfold colAt; rw [List.getD_eq_getElem?_getD, List.getD_eq_getElem?_getD, List.getElem?_append_right (by omega)]
  congr 2
  omega
theorem E_semi_in {ca cb : List Col} {a b : Rows} {i j : Int} (ha : colsOk ca = true) (hb : colsOk cb = true) (sa : rsSm a) (sb : rsSm b) (hi : inR ca.length i = true) (hj : inR cb.length j = true) :
    m_impl_SemiRows ca cb a b (inE i ((ca.length : Int) + j)) = some (inRows ca cb a b i j) := by
  rw [E_Semi_g ha hb sa sb (inE_sm _ _)]
  congr 1
  unfold inRows joinB; rw [hi, hj]; cases hs : sidesB ca cb a b with
  | false => rfl
  | true =>
    obtain ⟨h1, h2, h3, h4, h5⟩ := sidesB_get hs; have hc := colsOk_app ha hb (by rw [List.length_append]; exact h1); have i1 := inR_of hi; have j1 := inR_of hj; have hi' : inR (ca ++ cb).length i = true := by unfold inR; rw [List.length_append]; simp; omega
    have hj' : inR (ca ++ cb).length ((ca.length : Int) + j) = true := by unfold inR; rw [List.length_append]; simp; omega
    rw [kind_in hc hi' hj', colAt_l hi, colAt_r j1.1]; simp only [Bool.true_and]; unfold kEq
    by_cases hk : (colAt ca i).Kind = (colAt cb j).Kind
    · rw [decide_eq_true hk, if_pos rfl, if_pos rfl]
      refine List.filter_congr fun r hr => ?_; exact some_in (h4 r hr) h5 hi hj hk
    · rw [decide_eq_false hk]; rfl
def pairOk (r : List Col × List Col × Rows × Rows × Int × Int) : Prop := colsOk r.1 = true ∧ colsOk r.2.1 = true ∧ rsSm r.2.2.1 ∧ rsSm r.2.2.2.1 ∧ r.2.2.1.length ≤ 30 ∧ (∀ x ∈ r.2.2.1, x.length ≤ 30) ∧ (-10 ≤ r.2.2.2.2.1 ∧ r.2.2.2.2.1 ≤ 10) ∧ (-10 ≤ r.2.2.2.2.2 ∧ r.2.2.2.2.2 ≤ 10)
theorem rsSm_app {a b : Rows} (ha : rsSm a) (hb : rsSm b) (h : (a ++ b).length ≤ 400000000) : rsSm (a ++ b) := ⟨h, fun r hr => (List.mem_append.1 hr).elim (ha.2 r) (hb.2 r)⟩
theorem D_Pair {o : Rd} {n : Int} (ho : 0 ≤ o.p ∧ o.p ≤ 100000000) (hn : 0 ≤ n ∧ n ≤ 1000) : Tot (m_spec_l20Pair o n) fun r => pairOk (r.1, r.2.1, r.2.2.1, r.2.2.2.1, r.2.2.2.2.1, r.2.2.2.2.2.1) := by
  unfold m_spec_l20Pair; refine Tot.bind (D_Columns (by omega)) (fun c hc => Tot.bind (T_pick (by omega)) (fun x hx => ?_)); obtain ⟨⟨c1, c2, c3⟩, c4, c5⟩ := hc; refine Tot.rem (by omega) ?_; have hm := tmod_b (m := x.1) (n := (c.1.length : Int)) (by omega) (by omega); refine Tot.ck (by omega) (by omega) (Tot.cut (by omega) ?_); rw [show (0 : Int).toNat = 0 from rfl, List.drop_zero]; have hw : 1 ≤ (1 + x.1.tmod (c.1.length : Int)).toNat ∧ (1 + x.1.tmod (c.1.length : Int)).toNat ≤ c.1.length := by omega
  generalize (1 + x.1.tmod (c.1.length : Int)).toNat = w at hw ⊢; have hca : colsOk (c.1.take w) = true := colsOk_mk (by rw [List.length_take]; omega) (fun z hz => c3 z (List.mem_of_mem_take hz)); have hcl : 1 ≤ (c.1.take w).length := by rw [List.length_take]; omega
  generalize c.1.take w = ca at hca hcl ⊢; refine Tot.bind (D_Columns (by omega)) (fun d hd => Tot.bind (T_pick (by omega)) (fun y hy => ?_)); obtain ⟨⟨d1, d2, d3⟩, d4, d5⟩ := hd; refine Tot.rem (by omega) ?_; have hm2 := tmod_b (m := y.1) (n := (d.1.length : Int)) (by omega) (by omega); refine Tot.ck (by omega) (by omega) ?_; have hv : 1 ≤ 1 + y.1.tmod (d.1.length : Int) ∧ 1 + y.1.tmod (d.1.length : Int) ≤ d.1.length := by omega
  generalize 1 + y.1.tmod (d.1.length : Int) = v at hv ⊢; rw [rng_of (by omega), Option.bind_some]; refine Tot.bind (T_pick (by omega)) (fun i hi => Tot.bind (T_pick (by omega)) (fun j hj => ?_)); obtain ⟨z, hz⟩ : ∃ z, ca[i.1.toNat]? = some z := ⟨_, List.getElem?_eq_getElem (by omega)⟩; obtain ⟨u, hu⟩ : ∃ u, d.1[j.1.toNat]? = some u := ⟨_, List.getElem?_eq_getElem (by omega)⟩; refine Tot.eq (at_z (by omega) hz) ?_; have ea : atc? d.1 0 v.toNat j.1 = some u := by unfold atc?; rw [if_pos (by omega), Nat.zero_add]; exact hu
  refine Tot.eq ea (Tot.eq (at_z (by omega) (by rw [Nat.zero_add, Int.toNat_natCast]; exact hu)) (Tot.lt ?_)); have hzk := (colsOk_all hca).2 z (List.mem_of_getElem? hz); have huk := d3 u (List.mem_of_getElem? hu)
  have hset : ∀ q ∈ (d.1.set (((0 + j.1.toNat : Nat) : Int)).toNat { u with Kind := z.Kind }), colOk q = true := by
    intro q hq; rcases List.mem_or_eq_of_mem_set hq with hq | rfl
    · exact d3 q hq
    · exact hzk
  have hsl : (d.1.set (((0 + j.1.toNat : Nat) : Int)).toNat { u with Kind := z.Kind }).length ≤ 3 := by rw [List.length_set]; exact d2
  have hsl2 : v.toNat ≤ (d.1.set (((0 + j.1.toNat : Nat) : Int)).toNat { u with Kind := z.Kind }).length := by rw [List.length_set]; omega
  generalize d.1.set (((0 + j.1.toNat : Nat) : Int)).toNat { u with Kind := z.Kind } = ds at hset hsl hsl2 ⊢; have hcb : colsOk (ds.take v.toNat) = true := colsOk_mk (by rw [List.length_take]; omega) (fun z hz => hset z (List.mem_of_mem_take hz)); unfold m_spec_l20Pair_j1; refine Tot.bind (D_Bag (by omega) hca) (fun a1 h1 => Tot.bind (D_Bag (by omega) hca) (fun a2 h2 => Tot.app (by omega) ?_)); unfold m_spec_l20Pair_j2 leN; rw [if_pos hsl2, Option.bind_some]; refine Tot.lt (Tot.bind (D_Bag (by omega) hcb) (fun b hb => ?_)); have fa : ∀ r ∈ a1.1 ++ a2.1, rowFits ca r = true := fun r hr => (List.mem_append.1 hr).elim (h1.1.2 r) (h2.1.2 r); have la : (a1.1 ++ a2.1).length ≤ 12 := by rw [List.length_append]; omega
  have sa : rsSm (a1.1 ++ a2.1) := fits_rsSm (by omega) fa; have lr : ∀ r ∈ a1.1 ++ a2.1, r.length ≤ 30 := fun r hr => by have := (rowOk_all (fits_get (fa r hr)).2.1).1; omega
  have sb : rsSm b.1 := fits_rsSm (by omega) hb.1.2; generalize a1.1 ++ a2.1 = a at la sa lr ⊢
  have j1 : ∀ (p q : Int) (o : Rd) (bs : Rows), rsSm bs → (-10 ≤ p ∧ p ≤ 10) → (-10 ≤ q ∧ q ≤ 10) → Tot (m_spec_l20Pair_j4 ca (ds.take v.toNat) p q o a bs) fun r => pairOk (r.1, r.2.1, r.2.2.1, r.2.2.2.1, r.2.2.2.2.1, r.2.2.2.2.2.1) := by
    intro p q o bs hbs hp hq; unfold m_spec_l20Pair_j4; exact Tot.ret ⟨hca, hcb, sa, hbs, by simp only; omega, lr, hp, hq⟩
  have hi10 : -10 ≤ i.1 ∧ i.1 ≤ 10 := by have := (colsOk_all hca).1; omega
  have hj10 : -10 ≤ j.1 ∧ j.1 ≤ 10 := by omega
  unfold m_spec_l20Pair_j3; refine Tot.bind (T_odd (by omega) (by omega)) (fun w hw' => Tot.bif (fun _ => ?_) (fun _ => j1 _ _ _ _ sb hi10 hj10)); refine Tot.bind (T_pick (by omega)) (fun t ht => Tot.bif (fun _ => ?_) (fun _ => Tot.bif (fun _ => ?_) (fun _ => ?_)))
  · exact Tot.bind (T_pick (by omega)) (fun e he => Tot.ck (by omega) (by omega) (j1 _ _ _ _ sb (by omega) hj10))
  · refine Tot.app (by simp only [List.length_cons, List.length_nil]; omega) (j1 _ _ _ _ (rsSm_app sb ⟨by simp, fun r hr => ?_⟩ (by rw [List.length_append, List.length_singleton]; omega)) hi10 hj10)
    rw [List.mem_singleton.1 hr]; refine ⟨by simp, fun v hv => ?_⟩; rw [List.mem_singleton.1 hv]; show ByteArray.size ⟨#[]⟩ ≤ 1100000; decide
  · exact Tot.bind (T_pick (by omega)) (fun e he => Tot.ck (by omega) (by omega) (j1 _ _ _ _ sb hi10 (by omega)))
theorem T_DrawInRows {l : List UInt8} : Tot (m_spec_DrawInRows l) pairOk := by
  unfold m_spec_DrawInRows; exact Tot.bind T_l20Open (fun o ho => Tot.bind (D_Pair (by omega) (by omega)) (fun r hr => Tot.ret hr))
theorem inRows_sub {ca cb : List Col} {a b : Rows} {i j : Int} : (inRows ca cb a b i j).length ≤ a.length ∧ ∀ r ∈ inRows ca cb a b i j, r ∈ a := by
  unfold inRows
  split
  · exact ⟨List.length_filter_le _ _, fun r hr => (List.mem_filter.1 hr).1⟩
  · exact ⟨Nat.zero_le _, fun r hr => by cases hr⟩
theorem inRows_out {ca cb : List Col} {a b : Rows} {i j : Int} (h : ¬ (inR ca.length i = true ∧ inR cb.length j = true)) : inRows ca cb a b i j = [] := by
  unfold inRows joinB; rw [if_neg]; intro hx; simp only [Bool.and_eq_true] at hx; exact h ⟨hx.2.1, hx.2.2.1⟩
theorem pure_FnInRows (l : List UInt8) : m_laws_FnInRows l = some true := by
  unfold m_laws_FnInRows; cases hlen : decide ((l.length : Int) > 1048576)
  · rw [cond_false]
    obtain ⟨⟨ca, cb, a, b, i, j⟩, hd, hca, hcb, sa, sb, la, lr, hi, hj⟩ := T_DrawInRows (l := l); simp only at hca hcb sa sb la lr hi hj; have l1 := (colsOk_all hca).1; have l2 := (colsOk_all hcb).1; obtain ⟨i1, i2⟩ := inRows_sub (ca := ca) (cb := cb) (a := a) (b := b) (i := i) (j := j)
    have es : m_laws_sameRows (inRows ca cb a b i j) (inRows ca cb a b i j) = some true := by
      rw [E_sameRows (by omega) (fun r hr => by have := lr r (i2 r hr); omega)]; simp
    rw [hd, Option.bind_some]; simp only; rw [E_impl_InRows hca hcb sa sb, Option.bind_some, E_spec_InRows hca hcb sa sb, Option.bind_some, es, Option.bind_some, Bool.not_true, cond_false]
    have out : ¬ (inR ca.length i = true ∧ inR cb.length j = true) → m_laws_FnInRows_j1 ca cb a b i j (inRows ca cb a b i j) true = some true := by
      intro h; unfold m_laws_FnInRows_j1 m_laws_FnInRows_j2; rw [cond_true, inRows_out h, show ((([] : Rows).length : Int) == 0) = true from rfl, cond_true, E_alive]; rfl
    have inn : inR ca.length i = true ∧ inR cb.length j = true → m_laws_FnInRows_j1 ca cb a b i j (inRows ca cb a b i j) false = some true := by
      rintro ⟨hi', hj'⟩; have i3 := inR_of hi'; have j3 := inR_of hj'; unfold m_laws_FnInRows_j1 m_laws_FnInRows_j3; have e := E_semi_in hca hcb sa sb hi' hj'; unfold inE at e; rw [cond_false, ckI_of (by omega) (by omega), Option.bind_some, e, Option.bind_some, es, Option.bind_some, cond_true, E_alive]; rfl
    by_cases h1 : i < 0
    · rw [decide_eq_true h1, cond_true]
      exact out fun h => by have := inR_of h.1; omega
    · rw [decide_eq_false h1, cond_false]
      by_cases h2 : i ≥ (ca.length : Int)
      · rw [decide_eq_true h2, cond_true]
        exact out fun h => by have := inR_of h.1; omega
      · rw [decide_eq_false h2, cond_false]
        by_cases h3 : j < 0
        · rw [decide_eq_true h3, cond_true]
          exact out fun h => by have := inR_of h.2; omega
        · rw [decide_eq_false h3, cond_false]
          by_cases h4 : j ≥ (cb.length : Int)
          · rw [decide_eq_true h4]
            exact out fun h => by have := inR_of h.2; omega
          · rw [decide_eq_false h4]
            exact inn ⟨by unfold inR; simp; omega, by unfold inR; simp; omega⟩
  · rfl
end Go.Proofs.Ytbaldobhhpigbaa
