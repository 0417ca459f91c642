/- What the mirrors come to, in plain Lean: the law itself at the end. -/
import Derived.Test.YtbaldobhhpigbaaXW6
import Derived.Test.YtbaldobhhpigbaaLd
set_option linter.unusedVariables false
set_option linter.unusedSimpArgs false
set_option linter.unnecessarySimpa false
namespace Go.Proofs.Ytbaldobhhpigbaa
open Go.Proofs Go.Lift
abbrev V := S_impl_Value
abbrev Row := List V
abbrev Rows := List Row
def cmpI (a b : Int) : Int := if a < b then -1 else if b < a then 1 else 0
def cmpS (a b : ByteArray) : Int := if sLt a b then -1 else if sLt a b || sEq a b then 0 else 1
def orI (l : List Int) : Int := (l.find? (· != 0)).getD 0
def lower (l : List UInt8) : Bool := l.all fun b => decide (97 ≤ b.toNat) && decide (b.toNat ≤ 122)
def vOk (v : V) : Bool :=
  if v.Kind = 0 then decide (v = ⟨0, 0, ⟨#[]⟩⟩)
  else if v.Kind = 1 then decide (v.S = ⟨#[]⟩) && (decide (-9999 ≤ v.N) && decide (v.N ≤ 9999))
  else if v.Kind = 2 then decide (v.N = 0) && decide (v.S.size ≤ 6) && lower v.S.data.toList
  else if v.Kind = 3 then decide (v.S = ⟨#[]⟩) && (decide (0 ≤ v.N) && decide (v.N ≤ 1))
  else false
def vOrd (v w : V) : Int := orI [cmpI v.Kind w.Kind, cmpI v.N w.N, cmpS v.S w.S]
def rowMany (rs : Rows) (r : Row) : Nat := rs.countP fun x => decide (x = r)
def rowOk (l : Row) : Bool := decide (l.length ≤ 4) && l.all vOk
def vSm (v : V) : Prop := v.S.size ≤ 1100000
def rSm (l : Row) : Prop := l.length ≤ 1100000 ∧ ∀ v ∈ l, vSm v
def rsSm (l : Rows) : Prop := l.length ≤ 400000000 ∧ ∀ r ∈ l, rSm r
def cmpL {α : Type} (p : α → α → Int) : List α → List α → Int
  | [], [] => 0
  | [], _ :: _ => -1
  | _ :: _, [] => 1
  | a :: x, b :: y => if p a b = 0 then cmpL p x y else p a b
def vvOrd (a b : V) : Int := if vOk a && vOk b then vOrd a b else 0
theorem E_Equal {a b : Row} (ha : a.length ≤ 900000000) : m_slices_Equal_Limpl_Value_impl_Value a b = some (decide (a = b)) := by
  unfold m_slices_Equal_Limpl_Value_impl_Value
  by_cases h : a.length = b.length
  · have hc : ((a.length : Int) != (b.length : Int)) = false := by simp [h]
    rw [hc, cond_false, ← all2_eq h]; refine scan2 a b h (fun n k => m_slices_Equal_Limpl_Value_impl_Value_l1 n a b (a.length : Int) k) (fun n k x y hx hy => ?_) (fun n => ?_) _ (by omega)
    · have := lt_of_at hx
      simp only [m_slices_Equal_Limpl_Value_impl_Value_l1, dlt this, at_of hx, at_of hy, ck1 (show k < 1000000000000 by omega), Option.bind_some, cond_true]; cases decide (x = y) <;> rfl
    · simp only [m_slices_Equal_Limpl_Value_impl_Value_l1, dnlt]; rfl
  · have hc : ((a.length : Int) != (b.length : Int)) = true := by simp; omega
    rw [hc, cond_true]; have : a ≠ b := fun e => h (by rw [e]); simp [this]
theorem E_l3Same {a b : Row} (ha : a.length ≤ 900000000) : m_spec_l3Same a b = some (decide (a = b)) := by
  unfold m_spec_l3Same
  by_cases h : a.length = b.length
  · have hc : ((a.length : Int) != (b.length : Int)) = false := by simp [h]
    rw [hc, cond_false, ← all2_eq h]; refine scan2 a b h (fun n k => m_spec_l3Same_l1 n a b k) (fun n k x y hx hy => ?_) (fun n => ?_) _ (by omega)
    · have := lt_of_at hx
      simp only [m_spec_l3Same_l1, dlt this, at_of hx, at_of hy, ck1 (show k < 1000000000000 by omega), Option.bind_some, cond_true]; cases decide (x = y) <;> rfl
    · simp only [m_spec_l3Same_l1, dnlt]; rfl
  · have hc : ((a.length : Int) != (b.length : Int)) = true := by simp; omega
    rw [hc, cond_true]; have : a ≠ b := fun e => h (by rw [e]); simp [this]
theorem E_sameRow {a b : Row} (ha : a.length ≤ 900000000) : m_laws_sameRow a b = some (decide (a = b)) := by
  unfold m_laws_sameRow
  by_cases h : a.length = b.length
  · have hc : ((a.length : Int) != (b.length : Int)) = false := by simp [h]
    rw [hc, cond_false, ← all2_eq h]; refine scan2 a b h (fun n k => m_laws_sameRow_l1 n a b k) (fun n k x y hx hy => ?_) (fun n => ?_) _ (by omega)
    · have := lt_of_at hx
      simp only [m_laws_sameRow_l1, dlt this, at_of hx, at_of hy, ck1 (show k < 1000000000000 by omega), Option.bind_some, cond_true]; cases decide (x = y) <;> rfl
    · simp only [m_laws_sameRow_l1, dnlt]; rfl
  · have hc : ((a.length : Int) != (b.length : Int)) = true := by simp; omega
    rw [hc, cond_true]; have : a ≠ b := fun e => h (by rw [e]); simp [this]
theorem E_sameRows {a b : Rows} (ha : a.length ≤ 900000000) (hr : ∀ r ∈ a, r.length ≤ 900000000) : m_laws_sameRows a b = some (decide (a = b)) := by
  unfold m_laws_sameRows
  by_cases h : a.length = b.length
  · have hc : ((a.length : Int) != (b.length : Int)) = false := by simp [h]
    rw [hc, cond_false, ← all2_eq h]; refine scan2 a b h (fun n k => m_laws_sameRows_l1 n a b k) (fun n k x y hx hy => ?_) (fun n => ?_) _ (by omega)
    · have := lt_of_at hx
      simp only [m_laws_sameRows_l1, dlt this, at_of hx, at_of hy, ck1 (show k < 1000000000000 by omega), Option.bind_some, cond_true, E_sameRow (hr x (List.mem_of_getElem? hx))]; cases decide (x = y) <;> rfl
    · simp only [m_laws_sameRows_l1, dnlt]; rfl
  · have hc : ((a.length : Int) != (b.length : Int)) = true := by simp; omega
    rw [hc, cond_true]; have : a ≠ b := fun e => h (by rw [e]); simp [this]
theorem E_impl_RowMany {rs : Rows} {r : Row} (h : rs.length ≤ 900000000) (hr : ∀ x ∈ rs, x.length ≤ 900000000) : m_impl_RowMany rs r = some (rowMany rs r : Int) := by
  unfold m_impl_RowMany rowMany; refine scanN (p := fun x => decide (x = r)) (J := fun s => some s) rs (fun n k s => m_impl_RowMany_l1 n r s rs (rs.length : Int) k) (fun n k x s hx h0 h1 => ?_) (fun n s => ?_) _ (by omega)
  · have := lt_of_at hx
    rw [m_impl_RowMany_l1, dlt this, cond_true, at_of hx, Option.bind_some, E_Equal (hr x (List.mem_of_getElem? hx)), Option.bind_some]; simp only [m_impl_RowMany_j1]; rw [ckI_of (by omega) (by omega), ck1 (show k < 1000000000000 by omega)]; cases decide (x = r) <;> rfl
  · simp only [m_impl_RowMany_l1, dnlt]; rfl
theorem E_spec_RowMany {rs : Rows} {r : Row} (h : rs.length ≤ 900000000) (hr : ∀ x ∈ rs, x.length ≤ 900000000) : m_spec_RowMany rs r = some (rowMany rs r : Int) := by
  unfold m_spec_RowMany rowMany; refine scanN (p := fun x => decide (x = r)) (J := fun s => some s) rs (fun n k s => m_spec_RowMany_l1 n rs r s k) (fun n k x s hx h0 h1 => ?_) (fun n s => ?_) _ (by omega)
  · have := lt_of_at hx
    rw [m_spec_RowMany_l1, dlt this, cond_true, at_of hx, Option.bind_some, E_l3Same (hr x (List.mem_of_getElem? hx)), Option.bind_some]; simp only [m_spec_RowMany_j1]; rw [ckI_of (by omega) (by omega), ck1 (show k < 1000000000000 by omega)]; cases decide (x = r) <;> rfl
  · simp only [m_spec_RowMany_l1, dnlt]; rfl
theorem E_IndexFunc_V {l : Row} {p : V → Option Bool} {q : V → Bool} (hl : l.length ≤ 900000000) (hp : ∀ v ∈ l, p v = some (q v)) : m_slices_ContainsFunc_Limpl_Value_impl_Value l p = some (l.any q) := by
  unfold m_slices_ContainsFunc_Limpl_Value_impl_Value m_slices_IndexFunc_Limpl_Value_impl_Value
  have key : ∀ (ys : Row) (k n : Nat), l.drop k = ys → k ≤ l.length → ys.length < n → ∃ i : Int, m_slices_IndexFunc_Limpl_Value_impl_Value_l1 p n l (l.length : Int) (k : Int) = some i ∧ decide (i ≥ 0) = ys.any q := by
    intro ys
    induction ys with
    | nil =>
      intro k n hd hk hn
      have : k = l.length := by
        have := congrArg List.length hd; simp at this; omega
      subst this; obtain ⟨m, rfl⟩ : ∃ m, n = m + 1 := ⟨n - 1, by simp at hn; omega⟩; exact ⟨-1, by simp only [m_slices_IndexFunc_Limpl_Value_impl_Value_l1, dnlt]; rfl, rfl⟩
    | cons y ys ih =>
      intro k n hd hk hn
      have hlt : k < l.length := by
        have := congrArg List.length hd; simp at this; omega
      have hc := List.drop_eq_getElem_cons hlt; rw [hd] at hc; simp only [List.cons.injEq] at hc; have hx : l[k]? = some y := by rw [List.getElem?_eq_getElem hlt, hc.1]
      obtain ⟨m, rfl⟩ : ∃ m, n = m + 1 := ⟨n - 1, by simp at hn; omega⟩; simp only [m_slices_IndexFunc_Limpl_Value_impl_Value_l1, dlt hlt, at_of hx, hp y (List.mem_of_getElem? hx), ck1 (show k < 1000000000000 by omega), Option.bind_some, cond_true]; cases hq : q y
      · obtain ⟨i, h1, h2⟩ := ih (k + 1) m hc.2.symm (by omega) (by simp at hn; omega)
        exact ⟨i, by simpa using h1, by rw [h2]; simp [hq]⟩
      · exact ⟨(k : Int), rfl, by simp [hq]⟩
  obtain ⟨i, h1, h2⟩ := key l 0 _ rfl (by omega) (show l.length < (((l.length : Int) - 0).toNat + 1) by omega); rw [show ((0 : Nat) : Int) = 0 from rfl] at h1; rw [h1]; simp only [Option.bind_some, h2]
theorem E_between (a b c : Int) : m_impl_between a b c = some (decide (b ≤ a) && decide (a ≤ c)) := by
  unfold m_impl_between m_impl_between_j1
  by_cases h : a ≥ b <;> simp [h]
theorem E_l1In (a b c : Int) : m_spec_l1In a b c = some (decide (b ≤ a) && decide (a ≤ c)) := by
  unfold m_spec_l1In m_spec_l1In_j1
  by_cases h : a ≥ b <;> simp [h]
theorem lower_any (l : List UInt8) : lower l = !(l.any fun b => !(decide (97 ≤ (b.toNat : Int)) && decide ((b.toNat : Int) ≤ 122))) := by
  unfold lower; rw [List.all_eq_not_any_not]
  congr 2
  funext b
  congr 1
  have h1 : decide (97 ≤ b.toNat) = decide (97 ≤ (b.toNat : Int)) := by rw [decide_eq_decide]; omega
  have h2 : decide (b.toNat ≤ 122) = decide ((b.toNat : Int) ≤ 122) := by rw [decide_eq_decide]; omega
  rw [h1, h2]
theorem E_letters {s : ByteArray} (h : s.size ≤ 900000000) : m_impl_letters s = some (lower s.data.toList) := by
  unfold m_impl_letters sBytes?; rw [if_pos (by omega)]; simp only [Option.bind_some]; have hl : s.data.toList.length ≤ 900000000 := h
  have := scanA (p := fun b : UInt8 => !(decide (97 ≤ (b.toNat : Int)) && decide ((b.toNat : Int) ≤ 122))) (r0 := false) (r1 := true) s.data.toList (fun n k => m_impl_letters_l1 n s.data.toList (s.data.toList.length : Int) k) (fun n k x hx => by
    have := lt_of_at hx; simp only [m_impl_letters_l1, dlt this, at_of hx, E_between, ck1 (show k < 1000000000000 by omega), Option.bind_some, cond_true]) (fun n => by simp only [m_impl_letters_l1, dnlt]; rfl) _ fuel0
  rw [this, lower_any]; cases s.data.toList.any fun b => !(decide (97 ≤ (b.toNat : Int)) && decide ((b.toNat : Int) ≤ 122)) <;> rfl
theorem sAt_of {s : ByteArray} {k : Nat} {x : UInt8} (h : s.data.toList[k]? = some x) : sAt? s (k : Int) = some x := by
  unfold sAt?; rw [if_pos (by omega)]; obtain ⟨h1, h2⟩ := List.getElem?_eq_some_iff.1 h; have hs : k < s.size := by have := h1; rwa [Array.length_toList] at this
  have : s[k]? = some (s[k]'hs) := by simp [hs]
  rw [Int.toNat_natCast, this]
  congr 1
theorem E_l1Text {s : ByteArray} (h : s.size ≤ 900000000) : m_spec_l1Text s = some (lower s.data.toList && decide (s.size ≤ 6)) := by
  unfold m_spec_l1Text; have hl : s.data.toList.length = s.size := rfl; rw [← hl]
  have := scanA (p := fun b : UInt8 => !(decide (97 ≤ (b.toNat : Int)) && decide ((b.toNat : Int) ≤ 122))) (r0 := false) (r1 := decide ((s.size : Int) ≤ 6)) s.data.toList (fun n k => m_spec_l1Text_l1 n s k) (fun n k x hx => by
    have := lt_of_at hx; have hd : decide ((k : Int) < (s.size : Int)) = true := by rw [← hl]; exact dlt this
    simp only [m_spec_l1Text_l1, m_spec_l1Text_j1, hd, sAt_of hx, ck1 (show k < 1000000000000 by omega), Option.bind_some, cond_true]; have e1 : ((97 : UInt8).toNat : Int) = 97 := rfl; have e2 : ((122 : UInt8).toNat : Int) = 122 := rfl; rw [e1, e2]
    by_cases h1 : (x.toNat : Int) < 97
    · have : ¬ (97 ≤ (x.toNat : Int)) := by omega
      simp [h1, this]
    · have h1' : 97 ≤ (x.toNat : Int) := by omega
      by_cases h2 : (x.toNat : Int) > 122
      · have : ¬ ((x.toNat : Int) ≤ 122) := by omega
        simp [h1, h2, this]
      · have : (x.toNat : Int) ≤ 122 := by omega
        simp [h1, h2, this, h1']) (fun n => by simp only [m_spec_l1Text_l1, hl, dnlt]; rfl) _ fuel0
  rw [this, lower_any]; have e : decide ((s.size : Int) ≤ 6) = decide (s.size ≤ 6) := by rw [decide_eq_decide]; omega
  rw [e]; cases s.data.toList.any fun b => !(decide (97 ≤ (b.toNat : Int)) && decide ((b.toNat : Int) ≤ 122)) <;> simp
theorem E_Value_ok {v : V} (h : v.S.size ≤ 900000000) : m_impl_Value_ok v = some (vOk v) := by
  unfold m_impl_Value_ok m_impl_Value_ok_j1 m_impl_Value_ok_j2 m_impl_Value_ok_j3 vOk; simp only [E_between, E_letters h, Option.bind_some, sEq_eq]
  by_cases h0 : v.Kind = 0
  · simp [h0]
  · by_cases h1 : v.Kind = 1
    · by_cases hs : v.S = ⟨#[]⟩ <;> simp [beqF h0, h0, h1, hs]
    · by_cases h2 : v.Kind = 2
      · by_cases hn : v.N = 0
        · by_cases hs : v.S.size ≤ 6
          · have : (v.S.size : Int) ≤ 6 := by omega
            simp [beqF h0, beqF h1, h0, h1, h2, hn, hs, this]
          · have : ¬ (v.S.size : Int) ≤ 6 := by omega
            simp [beqF h0, beqF h1, h0, h1, h2, hn, hs, this]
        · simp [beqF h0, beqF h1, h0, h1, h2, beqF hn, hn]
      · by_cases h3 : v.Kind = 3
        · by_cases hs : v.S = ⟨#[]⟩ <;> simp [beqF h0, beqF h1, beqF h2, h0, h1, h2, h3, hs]
        · simp [beqF h0, beqF h1, beqF h2, beqF h3, h0, h1, h2, h3]
theorem E_spec_ValueOk {v : V} (h : v.S.size ≤ 900000000) : m_spec_ValueOk v = some (vOk v) := by
  unfold m_spec_ValueOk m_spec_ValueOk_j1 m_spec_ValueOk_j2 m_spec_ValueOk_j3 m_spec_ValueOk_j4 vOk; simp only [E_l1In, E_l1Text h, Option.bind_some, sEq_eq]; obtain ⟨k, n, s⟩ := v; simp only [S_impl_Value.mk.injEq]
  by_cases h0 : k = 0
  · by_cases hn : n = 0
    · simp [h0, hn]
    · simp [h0, hn, beqF hn]
  · by_cases h1 : k = 1
    · by_cases hs : s = ⟨#[]⟩ <;> by_cases ha : -9999 ≤ n <;> by_cases hb : n ≤ 9999 <;> simp [beqF h0, h0, h1, hs, ha, hb]
    · by_cases h2 : k = 2
      · by_cases hn : n = 0
        · simp [beqF h0, beqF h1, h0, h1, h2, hn, Bool.and_comm]
        · simp [beqF h0, beqF h1, h0, h1, h2, beqF hn, hn]
      · by_cases h3 : k = 3
        · by_cases hs : s = ⟨#[]⟩ <;> by_cases ha : 0 ≤ n <;> by_cases hb : n ≤ 1 <;> simp [beqF h0, beqF h1, beqF h2, h0, h1, h2, h3, hs, ha, hb]
        · simp [beqF h0, beqF h1, beqF h2, beqF h3, h0, h1, h2, h3]
theorem E_impl_RowOk {l : Row} (h : rSm l) : m_impl_RowOk l = some (rowOk l) := by
  unfold m_impl_RowOk m_impl_RowOk_j1 rowOk; obtain ⟨h1, h2⟩ := h; rw [E_IndexFunc_V (q := fun v => !(vOk v)) (by omega) (fun v hv => by unfold m_impl_RowOk_1; rw [E_Value_ok (by have := h2 v hv; unfold vSm at this; omega)]; rfl)]; simp only [Option.bind_some]; rw [List.all_eq_not_any_not]
  by_cases h : l.length ≤ 4
  · have : (l.length : Int) ≤ 4 := by omega
    simp [h, this]
  · have : ¬ (l.length : Int) ≤ 4 := by omega
    simp [h, this]
theorem E_spec_RowOk {l : Row} (h : rSm l) : m_spec_RowOk l = some (rowOk l) := by
  unfold m_spec_RowOk rowOk; obtain ⟨h1, h2⟩ := h
  have := scanA (p := fun v => !(vOk v)) (r0 := false) (r1 := decide ((l.length : Int) ≤ 4)) l (fun n k => m_spec_RowOk_l1 n l k) (fun n k x hx => by
    have := lt_of_at hx; have hsm := h2 x (List.mem_of_getElem? hx); unfold vSm at hsm; simp only [m_spec_RowOk_l1, dlt this, at_of hx, E_spec_ValueOk (show x.S.size ≤ 900000000 by omega), ck1 (show k < 1000000000000 by omega), Option.bind_some, cond_true]) (fun n => by simp only [m_spec_RowOk_l1, dnlt]; rfl) _ fuel0
  rw [this, List.all_eq_not_any_not]; have e : decide ((l.length : Int) ≤ 4) = decide (l.length ≤ 4) := by rw [decide_eq_decide]; omega
  rw [e]; cases l.any fun v => !(vOk v) <;> simp
theorem E_alive : m_laws_alive = some true := by
  unfold m_laws_alive m_laws_alive_j1 m_impl_ValueOk; rw [E_Value_ok (by decide), E_Value_ok (by decide)]; rfl
theorem E_CompareI (a b : Int) : m_cmp_Compare_int a b = some (cmpI a b) := by
  unfold m_cmp_Compare_int m_cmp_isNaN_int cmpI; have e : ∀ x : Int, (x != x) = false := fun x => by simp
  simp only [e, Option.bind_some, cond_false]
  by_cases h : a < b
  · simp [h]
  · by_cases h2 : a > b
    · simp [h, h2]
    · simp [h, h2]
theorem E_CompareS (a b : ByteArray) : m_cmp_Compare_string a b = some (cmpS a b) := by
  unfold m_cmp_Compare_string m_cmp_isNaN_string cmpS; have e : ∀ x : ByteArray, (!(sEq x x)) = false := fun x => by simp [sEq_eq]
  simp only [e, Option.bind_some, cond_false]; cases h1 : sLt a b <;> cases h2 : sEq a b <;> simp
theorem E_l1Cmp (a b : ByteArray) : m_spec_l1Cmp a b = some (cmpS a b) := by
  unfold m_spec_l1Cmp cmpS; cases h1 : sLt a b <;> cases h2 : sEq a b <;> simp
theorem E_Or {l : List Int} (h : l.length ≤ 900000000) : m_cmp_Or_int l = some (orI l) := by
  unfold m_cmp_Or_int
  rw [scanC l (fun n k (_ : Unit) => m_cmp_Or_int_l1 n 0 l (l.length : Int) k) (fun x s k => bif (x != 0) then some x else k s) (fun _ => some 0) (fun n k x s hx => by
    have := lt_of_at hx; rw [m_cmp_Or_int_l1, dlt this, cond_true, at_of hx, Option.bind_some, ck1 (show k < 1000000000000 by omega), Option.bind_some]) (fun n s => by rw [m_cmp_Or_int_l1, dnlt]; rfl) _ fuel0 ()]
  clear h; unfold orI
  induction l with
  | nil => rfl
  | cons x l ih =>
    simp only [foldC, List.find?_cons]; cases hx : (x != 0)
    · simpa using ih
    · rfl
theorem E_order (v w : V) : m_impl_Value_order v w = some (vOrd v w) := by
  unfold m_impl_Value_order vOrd; rw [E_CompareI, Option.bind_some, E_CompareI, Option.bind_some, E_CompareS, Option.bind_some, E_Or (by simp)]; rfl
def lessI (a b : Int) : Int := if a < b then 1 else 0
theorem E_Less (a b : Int) : m_spec_l1Less a b = some (lessI a b) := by
  unfold m_spec_l1Less lessI
  by_cases h : a < b <;> simp [h]
theorem less_b (a b : Int) : 0 ≤ lessI a b ∧ lessI a b ≤ 1 := by unfold lessI; split <;> omega
theorem orI_1 {x : Int} {l : List Int} (h : x ≠ 0) : orI (x :: l) = x := by simp [orI, h]
theorem orI_0 {l : List Int} : orI (0 :: l) = orI l := by simp [orI]
theorem cmpI_0 {a b : Int} : cmpI a b = 0 ↔ a = b := by unfold cmpI; split <;> (try split) <;> omega
theorem less_cmp {a b : Int} (h : a ≠ b) : 2 * lessI b a - 1 = cmpI a b := by unfold lessI cmpI; split <;> split <;> (try split) <;> omega
theorem E_ValueOrder {a b : V} (ha : vSm a) (hb : vSm b) : m_spec_ValueOrder a b = some (vvOrd a b) := by
  unfold m_spec_ValueOrder m_spec_ValueOrder_j1 vvOrd vOrd; unfold vSm at ha hb; rw [E_spec_ValueOk (by omega), Option.bind_some, E_spec_ValueOk (by omega), Option.bind_some]; cases vOk a
  · rfl
  cases vOk b
  · rfl
  simp only [Bool.not_true, cond_false, Bool.and_self, if_true, E_Less, E_l1Cmp, Option.bind_some]
  by_cases h1 : a.Kind = b.Kind
  · have : (a.Kind != b.Kind) = false := by simp [h1]
    rw [this, cond_false, cmpI_0.2 h1, orI_0]
    by_cases h2 : a.N = b.N
    · have : (a.N != b.N) = false := by simp [h2]
      rw [this, cond_false, cmpI_0.2 h2, orI_0]
      by_cases h3 : cmpS a.S b.S = 0
      · rw [h3, orI_0]; rfl
      · rw [orI_1 h3]
    · rw [beqF' h2, cond_true, orI_1 (by rw [ne_eq, cmpI_0]; exact h2), ← less_cmp h2]
      have := less_b b.N a.N; rw [ckI_of (by omega) (by omega), Option.bind_some, ckI_of (by omega) (by omega), Option.bind_some]
  · rw [beqF' h1, cond_true, orI_1 (by rw [ne_eq, cmpI_0]; exact h1), ← less_cmp h1]
    have := less_b b.Kind a.Kind; rw [ckI_of (by omega) (by omega), Option.bind_some, ckI_of (by omega) (by omega), Option.bind_some]
theorem E_clone {l : Row} (h : l.length ≤ 900000000) : m_impl_clone_impl_Value l = some l := by
  unfold m_impl_clone_impl_Value appN?; cases l with
  | nil => rfl
  | cons x l =>
    have e : (((x :: l).length : Int) == 0) = false := by simp; omega
    rw [e, cond_false, if_pos ⟨by simp, by omega⟩, Option.bind_some]; rfl
theorem foldl_snoc {α : Type} : ∀ (l a : List α), l.foldl (fun s x => s ++ [x]) a = a ++ l
  | [], a => by simp
  | x :: l, a => by rw [List.foldl_cons, foldl_snoc l]; simp
theorem E_rowsCopy {l : Rows} (h : l.length ≤ 900000000) (hr : ∀ r ∈ l, r.length ≤ 900000000) : m_impl_rowsCopy l = some l := by
  unfold m_impl_rowsCopy
  have := (scanF (f := fun (s : Rows) x => s ++ [x]) (J := fun s => some s) (fun k s => s.length = k) l (fun n k s => m_impl_rowsCopy_l1 n l (l.length : Int) k s) (fun n k x s hx hI => by
    have := lt_of_at hx; rw [m_impl_rowsCopy_l1, dlt this, cond_true, at_of hx, Option.bind_some, E_clone (hr x (List.mem_of_getElem? hx)), Option.bind_some, app_of (by simp; omega), Option.bind_some, ck1 (show k < 1000000000000 by omega), Option.bind_some]
    exact ⟨rfl, by simp [hI]⟩) (fun n s _ => by
      rw [m_impl_rowsCopy_l1, dnlt, cond_false]; unfold m_impl_rowsCopy_j1; rfl) _ fuel0 [] rfl).1
  rw [this, foldl_snoc]; rfl
theorem E_l3Own {l : Row} (h : l.length ≤ 900000000) : m_spec_l3Own l = some l := by
  unfold m_spec_l3Own; rw [app_of (by simp; omega)]; rfl
abbrev Rd := S_spec_l20Rd
def Rd.ok (o : Rd) : Prop := 0 ≤ o.p ∧ o.p ≤ 1000000000
theorem tmod_b {m n : Int} (h : 0 ≤ m) (hn : 0 < n) : 0 ≤ m.tmod n ∧ m.tmod n < n := ⟨Int.tmod_nonneg n h, Int.tmod_lt_of_pos m hn⟩
theorem tdiv_b {m n : Int} (h : 0 ≤ m) (hn : 0 < n) : 0 ≤ m.tdiv n ∧ m.tdiv n ≤ m := ⟨Int.tdiv_nonneg h (Int.le_of_lt hn), Int.tdiv_le_self _ h⟩
theorem T_pick {o : Rd} {n : Int} (ho : 0 ≤ o.p ∧ o.p ≤ 1000000000) : Tot (m_Pspec_l20Rd_pick o n) fun r => 0 ≤ r.1 ∧ (r.1 < n ∨ r.1 = 0) ∧ r.2.p = o.p + 1 := by
  unfold m_Pspec_l20Rd_pick; refine Tot.ck (by omega) (by omega) (Tot.lt ?_); refine Tot.bif (fun h => ?_) (fun h => ?_)
  · unfold m_Pspec_l20Rd_pick_j1
    exact Tot.ret ⟨Int.le_refl _, .inr rfl, rfl⟩
  · simp only [decide_eq_false_iff_not] at h
    unfold m_Pspec_l20Rd_pick_j1; refine Tot.bif (fun h2 => Tot.ret ⟨Int.le_refl _, .inr rfl, rfl⟩) (fun h2 => ?_); have hb : 0 < (o.b.length : Int) := by simp at h2; have := List.length_pos_iff.2 h2; omega
    refine Tot.ck (by simp only; omega) (by simp only; omega) ?_; have e : (o.p + 1 - 1) = o.p := by omega
    simp only [e]; refine Tot.bif (fun h3 => ?_) (fun h3 => ?_)
    · simp only [decide_eq_true_eq] at h3
      refine Tot.at (by omega) h3 (fun x _ => ?_); refine Tot.rem (by omega) (Tot.ret ?_); have := tmod_b (m := (x.toNat : Int)) (n := n) (by omega) (by omega); exact ⟨this.1, .inl this.2, rfl⟩
    · have m1 := tmod_b (m := o.p) (n := o.b.length) (by omega) hb
      refine Tot.rem (by omega) (Tot.at m1.1 m1.2 (fun x _ => ?_)); have hx := x.toNat_lt; refine Tot.ck (by omega) (by omega) (Tot.ck (by omega) (by omega) (Tot.ck (by omega) (by omega) ?_)); have m2 := tmod_b (m := o.p * 7 + 3) (n := o.b.length) (by omega) hb; refine Tot.rem (by omega) (Tot.at m2.1 m2.2 (fun y _ => ?_)); have hy := y.toNat_lt; refine Tot.ck (by omega) (by omega) (Tot.ck (by omega) (by omega) (Tot.ck (by omega) (by omega) (Tot.ck (by omega) (by omega) ?_))); have d1 := tdiv_b (m := o.p) (n := o.b.length) (by omega) hb; refine Tot.quo (by omega) (by omega) (by omega) (Tot.ck (by omega) (by omega) (Tot.ck (by omega) (by omega) ?_)); have hz : 0 ≤ (x.toNat : Int) * 131 + (y.toNat : Int) * 1117 + o.p * 29 + o.p.tdiv o.b.length * 53 ∧ (x.toNat : Int) * 131 + (y.toNat : Int) * 1117 + o.p * 29 + o.p.tdiv o.b.length * 53 < 1000000000000 := by omega
      generalize (x.toNat : Int) * 131 + (y.toNat : Int) * 1117 + o.p * 29 + o.p.tdiv o.b.length * 53 = z at hz ⊢; have d2 := tdiv_b (m := z) (n := 64) (by omega) (by omega); refine Tot.quo (by omega) (by omega) (by omega) (Tot.xor (by omega) (fun u h4 h5 => Tot.rem (by omega) (Tot.ret ?_))); have := tmod_b (m := u) (n := n) (by omega) (by omega); exact ⟨this.1, .inl this.2, rfl⟩
theorem T_odd {o : Rd} {n : Int} (ho : 0 ≤ o.p ∧ o.p ≤ 1000000000) (hn : -900000000 ≤ n ∧ n ≤ 900000000) : Tot (m_Pspec_l20Rd_odd o n) fun r => o.p ≤ r.2.p ∧ r.2.p ≤ o.p + 1 := by
  unfold m_Pspec_l20Rd_odd m_Pspec_l20Rd_odd_j1; refine Tot.bif (fun h => ?_) (fun h => Tot.ret ⟨Int.le_refl _, by simp only; omega⟩); refine Tot.bind (T_pick ho) (fun r hr => ?_); exact Tot.ck (by omega) (by omega) (Tot.ret ⟨by simp only; omega, by simp only; omega⟩)
def vDr (v : V) : Prop := v.S.size ≤ 20 ∧ -10000 ≤ v.N ∧ v.N ≤ 10000 ∧ -10 ≤ v.Kind ∧ v.Kind ≤ 10
theorem T_l20Value_j3 {n : Int} {o : Rd} {v w : V} (ho : 0 ≤ o.p ∧ o.p ≤ 1000000000 - 10) (hn : -900000000 ≤ n ∧ n ≤ 900000000) (hv : w.S.size ≤ 10 ∧ -10000 ≤ w.N ∧ w.N ≤ 10000 ∧ -10 ≤ w.Kind ∧ w.Kind ≤ 10) : Tot (m_spec_l20Value_j3 n o v w) fun r => vDr r.1 ∧ o.p ≤ r.2.p ∧ r.2.p ≤ o.p + 5 := by
  unfold m_spec_l20Value_j3 m_spec_l20Value_j4; refine Tot.bind (T_odd (by omega) hn) (fun r hr => ?_); refine Tot.bif (fun _ => ?_) (fun _ => ?_)
  · refine Tot.bind (T_pick (by omega)) (fun q hq => ?_)
    refine Tot.bif (fun _ => ?_) (fun _ => Tot.bif (fun _ => ?_) (fun _ => Tot.bif (fun _ => ?_) (fun _ => ?_)))
    · refine Tot.lt (Tot.lt (Tot.ret ⟨⟨by simp only; omega, by simp only; omega, by simp only; omega, by simp only; omega, by simp only; omega⟩, by simp only; omega, by simp only; omega⟩))
    · refine Tot.cat (by rw [show ByteArray.size ⟨#[97, 98, 99, 100, 101, 102, 103]⟩ = 7 from rfl]; omega) (Tot.lt (Tot.lt (Tot.ret ⟨⟨?_, by simp only; omega, by simp only; omega, by simp only; omega, by simp only; omega⟩, by simp only; omega, by simp only; omega⟩)))
      simp only [ByteArray.size_append]; rw [show ByteArray.size ⟨#[97, 98, 99, 100, 101, 102, 103]⟩ = 7 from rfl]; omega
    · refine Tot.bind (T_pick (by omega)) (fun u hu => ?_)
      refine Tot.ck (by omega) (by omega) (Tot.lt (Tot.lt (Tot.ret ⟨⟨by simp only; omega, by simp only; omega, by simp only; omega, by simp only; omega, by simp only; omega⟩, by simp only; omega, by simp only; omega⟩)))
    · refine Tot.cat (by rw [show ByteArray.size ⟨#[65]⟩ = 1 from rfl]; omega) (Tot.lt (Tot.lt (Tot.ret ⟨⟨?_, by simp only; omega, by simp only; omega, by simp only; omega, by simp only; omega⟩, by simp only; omega, by simp only; omega⟩)))
      simp only [ByteArray.size_append]; rw [show ByteArray.size ⟨#[65]⟩ = 1 from rfl]; omega
  · exact Tot.lt (Tot.ret ⟨⟨by simp only; omega, by simp only; omega, by simp only; omega, by simp only; omega, by simp only; omega⟩, by simp only; omega, by simp only; omega⟩)
theorem T_l20Value_l1 {n : Int} {v : V} (hn : -900000000 ≤ n ∧ n ≤ 900000000) {p : Int} (hp : 0 ≤ p ∧ p ≤ 1000000000 - 20) : ∀ (f : Nat) (t : Int) (s : Rd × V), 0 ≤ t → t < f → (t ≤ 4 ∧ p ≤ s.1.p ∧ s.1.p + t ≤ p + 4 ∧ (s.2.S.size : Int) + t ≤ 4 ∧ -10000 ≤ s.2.N ∧ s.2.N ≤ 10000 ∧ -10 ≤ s.2.Kind ∧ s.2.Kind ≤ 10) →
    Tot (m_spec_l20Value_l1 f n t s.1 v s.2) fun r => vDr r.1 ∧ p ≤ r.2.p ∧ r.2.p ≤ p + 9 := by
  refine Tot.down (fun f t (s : Rd × V) => m_spec_l20Value_l1 f n t s.1 v s.2) _ (fun f s h => ?_) (fun f t s ht h ih => ?_)
  · rw [m_spec_l20Value_l1, show decide ((0 : Int) > 0) = false from rfl, cond_false]
    exact (T_l20Value_j3 (by omega) hn ⟨by omega, by omega, by omega, by omega, by omega⟩).mono fun r hr => ⟨hr.1, by omega, by omega⟩
  · rw [m_spec_l20Value_l1, decide_eq_true (show t > 0 by omega), cond_true]
    refine Tot.bind (T_pick (by omega)) (fun r hr => ?_); refine Tot.ck (by omega) (by omega) (Tot.cat ?_ (Tot.lt (Tot.ck (by omega) (by omega) ?_)))
    · rw [show (bStr [Lift.byteOf (97 + r.1)]).size = 1 from rfl]; omega
    · refine ih (r.2, { s.2 with S := s.2.S ++ bStr [Lift.byteOf (97 + r.1)] }) ⟨by omega, by simp only; omega, by simp only; omega, ?_, by simp only; omega, by simp only; omega, by simp only; omega, by simp only; omega⟩
      simp only [ByteArray.size_append]; rw [show (bStr [Lift.byteOf (97 + r.1)]).size = 1 from rfl]; omega
theorem T_l20Value {o : Rd} {n : Int} (ho : 0 ≤ o.p ∧ o.p ≤ 1000000000 - 100) (hn : -900000000 ≤ n ∧ n ≤ 900000000) : Tot (m_spec_l20Value o n) fun r => vDr r.1 ∧ o.p ≤ r.2.p ∧ r.2.p ≤ o.p + 15 := by
  unfold m_spec_l20Value; have e0 : ByteArray.size ⟨#[]⟩ = 0 := rfl
  have j2 : ∀ (b : Bool) (q : Rd) (v w : V), o.p ≤ q.p → q.p ≤ o.p + 2 → w.S.size = 0 → w.N = 0 → w.Kind = 0 → Tot (m_spec_l20Value_j2 n b q v w) fun r => vDr r.1 ∧ o.p ≤ r.2.p ∧ r.2.p ≤ o.p + 15 := by
    intro b q v w h1 h2 h3 h4 h5; unfold m_spec_l20Value_j2; refine Tot.bif (fun _ => Tot.lt ?_) (fun _ => ?_)
    · refine Tot.bind (T_pick (by omega)) (fun r hr => ?_)
      exact (T_l20Value_l1 (v := v) hn (p := r.2.p) (by omega) _ r.1 (r.2, ⟨2, 0, ⟨#[]⟩⟩) (by omega) (by omega) ⟨by omega, by simp only; omega, by simp only; omega, by simp only [e0]; omega, by first | decide | omega | (simp only; omega), by first | decide | omega | (simp only; omega), by first | decide | omega | (simp only; omega), by first | decide | omega | (simp only; omega)⟩).mono fun x hx => ⟨hx.1, by omega, by omega⟩
    · refine Tot.bind (T_pick (by omega)) (fun r hr => Tot.lt ?_)
      exact (T_l20Value_j3 (by omega) hn ⟨by simp only [e0]; omega, by simp only; omega, by simp only; omega, by first | decide | omega | (simp only; omega), by first | decide | omega | (simp only; omega)⟩).mono fun x hx => ⟨hx.1, by omega, by omega⟩
  have j1 : ∀ (t : Int) (b : Bool) (q : Rd) (v w : V), o.p ≤ q.p → q.p ≤ o.p + 1 → w.S.size = 0 → w.N = 0 → w.Kind = 0 → Tot (m_spec_l20Value_j1 n t b q v w) fun r => vDr r.1 ∧ o.p ≤ r.2.p ∧ r.2.p ≤ o.p + 15 := by
    intro t b q v w h1 h2 h3 h4 h5; unfold m_spec_l20Value_j1; refine Tot.bif (fun _ => ?_) (fun _ => Tot.bif (fun _ => j2 _ _ _ _ h1 (by omega) h3 h4 h5) (fun _ => j2 _ _ _ _ h1 (by omega) h3 h4 h5)); refine Tot.bind (T_pick (by omega)) (fun r hr => Tot.ck (by omega) (by omega) (Tot.lt ?_)); refine Tot.bind (T_pick (by omega)) (fun u hu => Tot.bif (fun _ => ?_) (fun _ => ?_))
    · refine Tot.bind (T_pick (by omega)) (fun x hx => Tot.at (by omega) (by simp only [List.length_cons, List.length_nil]; omega) (fun y hy => Tot.lt ?_))
      have hy' : -10000 ≤ y ∧ y ≤ 10000 := by simp at hy; omega
      exact (T_l20Value_j3 (by omega) hn ⟨by simp only [e0]; omega, by simp only; omega, by simp only; omega, by first | decide | omega | (simp only; omega), by first | decide | omega | (simp only; omega)⟩).mono fun x hx => ⟨hx.1, by omega, by omega⟩
    · exact (T_l20Value_j3 (by omega) hn ⟨by simp only [e0]; omega, by simp only; omega, by simp only; omega, by first | decide | omega | (simp only; omega), by first | decide | omega | (simp only; omega)⟩).mono fun x hx => ⟨hx.1, by omega, by omega⟩
  refine Tot.lt (Tot.bind (T_pick (by omega)) (fun r hr => ?_)); refine Tot.bif (fun _ => ?_) (fun _ => Tot.bif (fun _ => ?_) (fun _ => Tot.bif (fun _ => ?_) (fun _ => ?_)))
  · exact (T_l20Value_j3 (by omega) hn ⟨by simp only [e0]; omega, by simp only; omega, by simp only; omega, by first | decide | omega | (simp only; omega), by first | decide | omega | (simp only; omega)⟩).mono fun x hx => ⟨hx.1, by omega, by omega⟩
  · exact j1 _ _ _ _ _ (by omega) (by omega) rfl rfl rfl
  · exact j1 _ _ _ _ _ (by omega) (by omega) rfl rfl rfl
  · exact j1 _ _ _ _ _ (by omega) (by omega) rfl rfl rfl
def cDr (c : S_impl_Column) : Prop := -10 ≤ c.Kind ∧ c.Kind ≤ 10
theorem T_l20Like {o : Rd} {c : S_impl_Column} (ho : 0 ≤ o.p ∧ o.p ≤ 1000000000 - 100) : Tot (m_spec_l20Like o c) fun r => vDr r.1 ∧ o.p ≤ r.2.p ∧ r.2.p ≤ o.p + 3 := by
  unfold m_spec_l20Like; have e0 : ByteArray.size ⟨#[]⟩ = 0 := rfl
  have j1 : ∀ (b : Bool) (q : Rd) (v : V), o.p ≤ q.p → q.p ≤ o.p + 1 → Tot (m_spec_l20Like_j1 c b q v) fun r => vDr r.1 ∧ o.p ≤ r.2.p ∧ r.2.p ≤ o.p + 3 := by
    intro b q v h1 h2; unfold m_spec_l20Like_j1; refine Tot.bif (fun _ => Tot.lt (Tot.ret ⟨⟨by first | decide | omega | (simp only; omega), by first | decide | omega | (simp only; omega), by first | decide | omega | (simp only; omega), by first | decide | omega | (simp only; omega), by first | decide | omega | (simp only; omega)⟩, h1, by simp only; omega⟩)) (fun _ => Tot.bif (fun _ => ?_) (fun _ => Tot.bif (fun _ => ?_) (fun _ => ?_)))
    · refine Tot.bind (T_pick (by omega)) (fun r hr => Tot.lt (Tot.ret ⟨⟨by simp only [e0]; omega, by simp only; omega, by simp only; omega, by simp only; omega, by simp only; omega⟩, by simp only; omega, by simp only; omega⟩))
    · refine Tot.bind (T_pick (by omega)) (fun r hr => Tot.at (by omega) (by simp only [List.length_cons, List.length_nil]; omega) (fun y hy => Tot.lt (Tot.ret ⟨⟨?_, by simp only; omega, by simp only; omega, by simp only; omega, by simp only; omega⟩, by simp only; omega, by simp only; omega⟩)))
      simp only [List.mem_cons, List.mem_nil_iff, or_false] at hy; rcases hy with rfl | rfl | rfl | rfl <;> exact Nat.le_of_ble_eq_true rfl
    · refine Tot.bind (T_pick (by omega)) (fun r hr => Tot.lt (Tot.ret ⟨⟨by simp only [e0]; omega, by simp only; omega, by simp only; omega, by simp only; omega, by simp only; omega⟩, by simp only; omega, by simp only; omega⟩))
  refine Tot.bif (fun _ => Tot.bind (T_pick (by omega)) (fun r hr => j1 _ _ _ (by omega) (by omega))) (fun _ => j1 _ _ _ (by omega) (by omega))
theorem T_l20Columns {o : Rd} {n : Int} (ho : 0 ≤ o.p ∧ o.p ≤ 1000000000 - 100) (hn : -900000000 ≤ n ∧ n ≤ 900000000) : Tot (m_spec_l20Columns o n) fun r => (1 ≤ r.1.length ∧ r.1.length ≤ 6 ∧ ∀ c ∈ r.1, cDr c) ∧ o.p ≤ r.2.p ∧ r.2.p ≤ o.p + 20 := by
  unfold m_spec_l20Columns; refine Tot.bind (T_pick (by omega)) (fun r hr => Tot.ck (by omega) (by omega) ?_); refine Tot.down (fun f t (s : Rd × List S_impl_Column) => m_spec_l20Columns_l1 f n t s.1 s.2) (fun t s => t ≤ 3 ∧ r.2.p ≤ s.1.p ∧ s.1.p + 2 * t ≤ r.2.p + 6 ∧ (s.2.length : Int) + t = 1 + r.1 ∧ ∀ c ∈ s.2, cDr c) (fun f s h => ?_) (fun f t s ht h ih => ?_) _ (1 + r.1) (r.2, []) (by omega) (by omega) ⟨by omega, by simp only; omega, by simp only; omega, by first | (simp; done) | (simp; omega), by simp⟩
  · obtain ⟨g1, g2, g3, g4, g5⟩ := h
    rw [m_spec_l20Columns_l1, show decide ((0 : Int) > 0) = false from rfl, cond_false]; unfold m_spec_l20Columns_j1 m_spec_l20Columns_j2; refine Tot.bind (T_odd (by omega) hn) (fun q hq => Tot.bif (fun _ => ?_) (fun _ => Tot.ret ⟨⟨by simp only; omega, by simp only; omega, g5⟩, by simp only; omega, by simp only; omega⟩)); refine Tot.bind (T_pick (by omega)) (fun u hu => Tot.ck (by omega) (by omega) (Tot.app (by simp only [List.length_cons, List.length_nil]; omega) (Tot.ret ⟨⟨by first | (simp; done) | (simp; omega), by first | (simp; done) | (simp; omega), ?_⟩, by simp only; omega, by simp only; omega⟩))); intro c hc; simp only [List.mem_append, List.mem_cons, List.mem_nil_iff, or_false] at hc; rcases hc with hc | rfl | rfl | rfl
    · exact g5 c hc
    · exact ⟨by simp only; omega, by simp only; omega⟩
    · exact ⟨by first | decide | omega | (simp only; omega), by first | decide | omega | (simp only; omega)⟩
    · exact ⟨by first | decide | omega | (simp only; omega), by first | decide | omega | (simp only; omega)⟩
  · obtain ⟨g1, g2, g3, g4, g5⟩ := h
    rw [m_spec_l20Columns_l1, decide_eq_true (show t > 0 by omega), cond_true]; refine Tot.bind (T_pick (by omega)) (fun x hx => Tot.at (by omega) (by simp only [List.length_cons, List.length_nil]; omega) (fun y hy => ?_)); have hy' : -10 ≤ y ∧ y ≤ 10 := by simp at hy; omega
    refine Tot.bind (T_pick (by omega)) (fun z hz => Tot.app (by simp only [List.length_cons, List.length_nil]; omega) (Tot.ck (by omega) (by omega) ?_)); refine ih (z.2, s.2 ++ [⟨y, decide (z.1 > 0)⟩]) ⟨by omega, by simp only; omega, by simp only; omega, by first | (simp; done) | (simp; omega), ?_⟩; intro c hc; simp only [List.mem_append, List.mem_cons, List.mem_nil_iff, or_false] at hc; rcases hc with hc | rfl
    · exact g5 c hc
    · exact hy'
def rDr (r : Row) : Prop := r.length ≤ 9 ∧ ∀ v ∈ r, vDr v
theorem T_l20Fit {o : Rd} {cs : List S_impl_Column} {n : Int} (ho : 0 ≤ o.p ∧ o.p ≤ 1000000000 - 1000) (hn : -900000000 ≤ n ∧ n ≤ 900000000) (hc : cs.length ≤ 6) : Tot (m_spec_l20Fit o cs n) fun r => rDr r.1 ∧ o.p ≤ r.2.p ∧ r.2.p ≤ o.p + 80 := by
  unfold m_spec_l20Fit; refine Tot.up (cs.length : Int) (fun f t (s : Rd × Row) => m_spec_l20Fit_l1 f cs n t s.1 s.2) (fun t s => o.p ≤ s.1.p ∧ s.1.p ≤ o.p + 3 * t ∧ (s.2.length : Int) = t ∧ ∀ v ∈ s.2, vDr v) (fun f s h => ?_) (fun f t s h0 ht h ih => ?_) _ 0 (o, []) (by omega) (by omega) (by omega) ⟨by simp only; omega, by simp only; omega, by simp, by simp⟩
  · obtain ⟨g1, g2, g3, g4⟩ := h
    rw [m_spec_l20Fit_l1, show decide ((cs.length : Int) < cs.length) = false by simp, cond_false]; unfold m_spec_l20Fit_j1 m_spec_l20Fit_j2; refine Tot.bind (T_odd (by omega) hn) (fun q hq => Tot.bif (fun _ => ?_) (fun _ => Tot.ret ⟨⟨by simp only; omega, g4⟩, by simp only; omega, by simp only; omega⟩)); refine Tot.bind (T_pick (by omega)) (fun u hu => Tot.bif (fun _ => ?_) (fun _ => Tot.bif (fun _ => ?_) (fun _ => ?_)))
    · refine Tot.app (by simp only [List.length_cons, List.length_nil]; omega) (Tot.ret ⟨⟨by first | (simp; done) | (simp; omega), ?_⟩, by simp only; omega, by simp only; omega⟩)
      intro c hc; simp only [List.mem_append, List.mem_cons, List.mem_nil_iff, or_false] at hc; rcases hc with hc | rfl
      · exact g4 c hc
      · exact ⟨by first | decide | omega | (simp only; omega), by first | decide | omega | (simp only; omega), by first | decide | omega | (simp only; omega), by first | decide | omega | (simp only; omega), by first | decide | omega | (simp only; omega)⟩
    · refine Tot.bif (fun h3 => ?_) (fun _ => Tot.ret ⟨⟨by simp only; omega, g4⟩, by simp only; omega, by simp only; omega⟩)
      simp only [gt_iff_lt, decide_eq_true_eq] at h3; refine Tot.bind (T_pick (by omega)) (fun x hx => Tot.bind (T_l20Value (by omega) (by omega)) (fun y hy => Tot.at (by omega) (by omega) (fun _ _ => Tot.at (by omega) (by omega) (fun _ _ => Tot.lt (Tot.ret ⟨⟨by first | (simp; done) | (simp; omega), ?_⟩, by simp only; omega, by simp only; omega⟩))))); intro c hc; rcases List.mem_or_eq_of_mem_set hc with hc | rfl
      · exact g4 c hc
      · exact hy.1
    · refine Tot.bind (T_l20Value (by omega) (by omega)) (fun x hx => Tot.bind (T_l20Value (by omega) (by omega)) (fun y hy => Tot.bind (T_l20Value (by omega) (by omega)) (fun z hz => Tot.app (by simp only [List.length_cons, List.length_nil]; omega) (Tot.ret ⟨⟨by first | (simp; done) | (simp; omega), ?_⟩, by simp only; omega, by simp only; omega⟩))))
      intro c hc; simp only [List.mem_append, List.mem_cons, List.mem_nil_iff, or_false] at hc; rcases hc with hc | rfl | rfl | rfl
      · exact g4 c hc
      · exact hx.1
      · exact hy.1
      · exact hz.1
  · obtain ⟨g1, g2, g3, g4⟩ := h
    rw [m_spec_l20Fit_l1, decide_eq_true ht, cond_true]; refine Tot.at h0 ht (fun c hc => Tot.bind (T_l20Like (by omega)) (fun x hx => Tot.app (by simp only [List.length_cons, List.length_nil]; omega) (Tot.ck (by omega) (by omega) ?_))); refine ih (x.2, s.2 ++ [x.1]) ⟨by simp only; omega, by simp only; omega, by first | (simp; done) | (simp; omega), ?_⟩; intro c hc; simp only [List.mem_append, List.mem_cons, List.mem_nil_iff, or_false] at hc; rcases hc with hc | rfl
    · exact g4 c hc
    · exact hx.1
def rsDr (n : Nat) (rs : Rows) : Prop := rs.length ≤ n ∧ ∀ r ∈ rs, rDr r
theorem T_l20Bag {o : Rd} {cs : List S_impl_Column} {n : Int} (ho : 0 ≤ o.p ∧ o.p ≤ 1000000000 - 10000) (hn : -900000000 ≤ n ∧ n ≤ 900000000) (hc : cs.length ≤ 6) : Tot (m_spec_l20Bag o cs n) fun r => rsDr 6 r.1 ∧ o.p ≤ r.2.p ∧ r.2.p ≤ o.p + 600 := by
  unfold m_spec_l20Bag; refine Tot.bind (T_pick (by omega)) (fun r hr => ?_); refine Tot.down (fun f t (s : Rd × Rows) => m_spec_l20Bag_l1 f cs n t s.1 s.2) (fun t s => t ≤ r.1 ∧ o.p ≤ s.1.p ∧ s.1.p + 90 * t ≤ o.p + 1 + 90 * r.1 ∧ (s.2.length : Int) + t = r.1 ∧ ∀ x ∈ s.2, rDr x) (fun f s h => ?_) (fun f t s ht h ih => ?_) _ r.1 (r.2, []) (by omega) (by omega) ⟨by omega, by simp only; omega, by simp only; omega, by simp, by simp⟩
  · obtain ⟨g1, g2, g3, g4, g5⟩ := h
    rw [m_spec_l20Bag_l1, show decide ((0 : Int) > 0) = false from rfl, cond_false]; exact Tot.ret ⟨⟨by simp only; omega, g5⟩, by simp only; omega, by simp only; omega⟩
  · obtain ⟨g1, g2, g3, g4, g5⟩ := h
    rw [m_spec_l20Bag_l1, decide_eq_true (show t > 0 by omega), cond_true]
    have j2 : ∀ (q : Rd) (x : Row), s.1.p ≤ q.p → q.p ≤ s.1.p + 90 → rDr x → Tot (m_spec_l20Bag_j2 (m_spec_l20Bag_l1 f) cs n t q (s.2 ++ [x])) fun r => rsDr 6 r.1 ∧ o.p ≤ r.2.p ∧ r.2.p ≤ o.p + 600 := by
      intro q x h1 h2 h3; unfold m_spec_l20Bag_j2; refine Tot.ck (by omega) (by omega) ?_; refine ih (q, s.2 ++ [x]) ⟨by omega, by simp only; omega, by simp only; omega, by first | (simp; done) | (simp; omega), ?_⟩; intro c hc; simp only [List.mem_append, List.mem_cons, List.mem_nil_iff, or_false] at hc; rcases hc with hc | rfl
      · exact g5 c hc
      · exact h3
    have j1 : ∀ (b : Bool) (q : Rd), s.1.p ≤ q.p → q.p ≤ s.1.p + 2 → (b = true → 0 < s.2.length) → Tot (m_spec_l20Bag_j1 (m_spec_l20Bag_l1 f) cs n t b q s.2) fun r => rsDr 6 r.1 ∧ o.p ≤ r.2.p ∧ r.2.p ≤ o.p + 600 := by
      intro b q h1 h2 h3; unfold m_spec_l20Bag_j1; refine Tot.bif (fun hb => ?_) (fun _ => ?_)
      · have := h3 hb
        refine Tot.bind (T_pick (by omega)) (fun x hx => Tot.at (by omega) (by omega) (fun _ _ => Tot.at (by omega) (by omega) (fun y hy => ?_))); have hy' := g5 y hy; refine Tot.eq (E_l3Own (by have := hy'.1; omega)) (Tot.app (by simp only [List.length_cons, List.length_nil]; omega) (j2 _ _ (by omega) (by omega) hy'))
      · refine Tot.bind (T_l20Fit (by omega) hn hc) (fun x hx => Tot.app (by simp only [List.length_cons, List.length_nil]; omega) (j2 _ _ (by omega) (by omega) hx.1))
    refine Tot.bif (fun h3 => ?_) (fun _ => j1 _ _ (by omega) (by omega) (by intro e; cases e)); simp only [gt_iff_lt, decide_eq_true_eq] at h3; refine Tot.bind (T_pick (by omega)) (fun x hx => j1 _ _ (by omega) (by omega) (fun _ => by omega))
theorem rDr_sm {r : Row} (h : rDr r) : rSm r := ⟨by have := h.1; omega, fun v hv => by have := (h.2 v hv).1; unfold vSm; omega⟩
theorem rsDr_sm {n : Nat} {rs : Rows} (h : rsDr n rs) (hn : n ≤ 100000) : rsSm rs := ⟨by have := h.1; omega, fun r hr => rDr_sm (h.2 r hr)⟩
theorem T_l20Open {l : List UInt8} : Tot (m_spec_l20Open l) fun r => r.p = 0 := by
  unfold m_spec_l20Open m_spec_l20Open_j1; refine Tot.bif (fun h => ?_) (fun _ => Tot.ret rfl); simp only [gt_iff_lt, decide_eq_true_eq] at h; exact Tot.cut (by omega) (Tot.ret rfl)
structure TO {α : Type} (p : α → α → Int) : Prop where
  eq0 : ∀ a b, p a b = 0 ↔ a = b
  anti : ∀ a b, p a b < 0 ↔ 0 < p b a
  trans : ∀ a b c, p a b < 0 → p b c < 0 → p a c < 0
theorem TO.comap {α β : Type} {p : β → β → Int} (h : TO p) (f : α → β) (hf : ∀ a b, f a = f b → a = b) : TO fun a b => p (f a) (f b) where
  eq0 a b := ⟨fun e => hf a b ((h.eq0 _ _).1 e), fun e => (h.eq0 _ _).2 (by rw [e])⟩
  anti a b := h.anti _ _
  trans a b c := h.trans _ _ _
theorem TO.le_trans {α : Type} {p : α → α → Int} (h : TO p) {a b c : α} (h1 : p a b ≤ 0) (h2 : p b c ≤ 0) : p a c ≤ 0 := by
  rcases Int.lt_or_eq_of_le h1 with h1 | h1
  · rcases Int.lt_or_eq_of_le h2 with h2 | h2
    · exact Int.le_of_lt (h.trans _ _ _ h1 h2)
    · rw [← (h.eq0 _ _).1 h2]; omega
  · rw [(h.eq0 _ _).1 h1]; exact h2
theorem TO.total {α : Type} {p : α → α → Int} (h : TO p) (a b : α) : 0 < p a b ↔ p b a < 0 := (h.anti b a).symm
def lx (x y : Int) : Int := if x = 0 then y else x
theorem TO.lex {α β : Type} {p : α → α → Int} {q : β → β → Int} (h : TO p) (k : TO q) : TO fun (a b : α × β) => lx (p a.1 b.1) (q a.2 b.2) where
  eq0 a b := by
    have h1 := h.eq0 a.1 b.1; have h2 := k.eq0 a.2 b.2; unfold lx
    split
    · rename_i e; rw [h2]; exact ⟨fun e2 => Prod.ext (h1.1 e) e2, fun e2 => by rw [e2]⟩
    · rename_i e; exact ⟨fun e2 => absurd e2 e, fun e2 => absurd (h1.2 (by rw [e2])) e⟩
  anti a b := by
    have h1 := h.anti a.1 b.1; have h2 := k.anti a.2 b.2; have h3 := h.eq0 a.1 b.1; have h4 := h.eq0 b.1 a.1; unfold lx
    by_cases e : a.1 = b.1
    · rw [if_pos (h3.2 e), if_pos (h4.2 e.symm)]; exact h2
    · rw [if_neg (fun x => e (h3.1 x)), if_neg (fun x => e (h4.1 x).symm)]; exact h1
  trans a b c := by
    have h1 := h.trans a.1 b.1 c.1; have h2 := k.trans a.2 b.2 c.2; unfold lx
    by_cases e1 : a.1 = b.1
    · rw [if_pos ((h.eq0 _ _).2 e1), e1]
      by_cases e2 : b.1 = c.1
      · rw [if_pos ((h.eq0 _ _).2 e2), if_pos ((h.eq0 _ _).2 e2)]; exact h2
      · rw [if_neg (fun x => e2 ((h.eq0 _ _).1 x)), if_neg (fun x => e2 ((h.eq0 _ _).1 x))]; exact fun _ g => g
    · rw [if_neg (fun x => e1 ((h.eq0 _ _).1 x))]
      by_cases e2 : b.1 = c.1
      · rw [← e2, if_pos ((h.eq0 _ _).2 rfl), if_neg (fun x => e1 ((h.eq0 _ _).1 x))]; exact fun g _ => g
      · rw [if_neg (fun x => e2 ((h.eq0 _ _).1 x))]
        intro g1 g2; have := h1 g1 g2; rw [if_neg (by omega)]; exact this
theorem TO_int : TO cmpI where
  eq0 a b := by unfold cmpI; split <;> (try split) <;> omega
  anti a b := by unfold cmpI; split <;> split <;> (try split) <;> (try split) <;> omega
  trans a b c := by unfold cmpI; split <;> split <;> (try split) <;> (try split) <;> (try split) <;> omega
def cmpB : List UInt8 → List UInt8 → Int
  | [], [] => 0
  | [], _ :: _ => -1
  | _ :: _, [] => 1
  | a :: x, b :: y => lx (cmpI a.toNat b.toNat) (cmpB x y)
theorem cmpB_less : ∀ a b : List UInt8, (if Op.bytesLess a b then (-1 : Int) else if Op.bytesLess a b || a == b then 0 else 1) = cmpB a b
  | [], [] => rfl
  | [], _ :: _ => rfl
  | _ :: _, [] => rfl
  | a :: x, b :: y => by
    have ih := cmpB_less x y; simp only [cmpB, ← ih]; unfold lx cmpI; simp only [Op.bytesLess]; rcases Nat.lt_trichotomy a.toNat b.toNat with h | h | h
    · have h' : a < b := UInt8.lt_iff_toNat_lt.2 h
      have h2 : (a.toNat : Int) < b.toNat := by omega
      simp [h', h2]
    · have h' : a = b := UInt8.toNat_inj.1 h
      subst h'; simp
    · have h' : ¬ a < b := fun e => by have := UInt8.lt_iff_toNat_lt.1 e; omega
      have h2 : ¬ (a.toNat : Int) < b.toNat := by omega
      have h3 : (b.toNat : Int) < a.toNat := by omega
      have h4 : ¬ a = b := fun e => by rw [e] at h; omega
      simp [h', h2, h3, h4]
theorem TO_list {α : Type} {p : α → α → Int} (h : TO p) : TO (cmpL p) where
  eq0 := by
    intro a
    induction a with
    | nil => intro b; cases b <;> simp [cmpL]
    | cons x a ih =>
      intro b; cases b with
      | nil => simp [cmpL]
      | cons y b =>
        simp only [cmpL]
        split
        · rename_i e; rw [ih b, List.cons.injEq]; exact ⟨fun e2 => ⟨(h.eq0 _ _).1 e, e2⟩, fun e2 => e2.2⟩
        · rename_i e; rw [List.cons.injEq]; exact ⟨fun e2 => absurd e2 e, fun e2 => absurd ((h.eq0 _ _).2 e2.1) e⟩
  anti := by
    intro a
    induction a with
    | nil => intro b; cases b <;> simp [cmpL]
    | cons x a ih =>
      intro b; cases b with
      | nil => simp [cmpL]
      | cons y b =>
        simp only [cmpL]
        by_cases e : x = y
        · rw [if_pos ((h.eq0 _ _).2 e), if_pos ((h.eq0 _ _).2 e.symm)]; exact ih b
        · rw [if_neg (fun g => e ((h.eq0 _ _).1 g)), if_neg (fun g => e ((h.eq0 _ _).1 g).symm)]; exact h.anti x y
  trans := by
    intro a
    induction a with
    | nil => intro b c; cases b <;> cases c <;> simp [cmpL]
    | cons x a ih =>
      intro b c; cases b with
      | nil => simp [cmpL]
      | cons y b =>
        cases c with
        | nil => simp [cmpL]
        | cons z c =>
          simp only [cmpL]
          by_cases e1 : x = y
          · rw [if_pos ((h.eq0 _ _).2 e1), e1]
            by_cases e2 : y = z
            · rw [if_pos ((h.eq0 _ _).2 e2), if_pos ((h.eq0 _ _).2 e2)]; exact ih b c
            · rw [if_neg (fun g => e2 ((h.eq0 _ _).1 g)), if_neg (fun g => e2 ((h.eq0 _ _).1 g))]; exact fun _ g => g
          · rw [if_neg (fun g => e1 ((h.eq0 _ _).1 g))]
            by_cases e2 : y = z
            · rw [← e2, if_pos ((h.eq0 _ _).2 rfl), if_neg (fun g => e1 ((h.eq0 _ _).1 g))]; exact fun g _ => g
            · rw [if_neg (fun g => e2 ((h.eq0 _ _).1 g))]
              intro g1 g2; have := h.trans x y z g1 g2; rw [if_neg (by omega)]; exact this
theorem TO_byte : TO fun (a b : UInt8) => cmpI a.toNat b.toNat := TO_int.comap (fun b : UInt8 => (b.toNat : Int)) fun a b h => UInt8.toNat_inj.1 (by omega)
theorem cmpB_L : ∀ a b : List UInt8, cmpB a b = cmpL (fun (a b : UInt8) => cmpI a.toNat b.toNat) a b
  | [], [] => rfl
  | [], _ :: _ => rfl
  | _ :: _, [] => rfl
  | a :: x, b :: y => by simp only [cmpB, cmpL, lx, cmpB_L x y]
theorem TO_str : TO cmpS := by
  have h := (TO_list TO_byte).comap (fun s : ByteArray => s.data.toList) (fun a b h => ByteArray.ext (Array.toList_inj.1 h))
  have e : cmpS = fun a b : ByteArray => cmpL (fun (a b : UInt8) => cmpI a.toNat b.toNat) a.data.toList b.data.toList := by
    funext a b
    unfold cmpS sLt sEq; rw [ByteArray.toList_eq, ByteArray.toList_eq, cmpB_less, cmpB_L]
  rw [e]; exact h
theorem orI_2 (a b : Int) : orI [a, b] = lx a b := by
  unfold lx; split
  · rename_i h; subst h; rw [orI_0]
    by_cases h : b = 0
    · subst h; rfl
    · rw [orI_1 h]
  · rename_i h; rw [orI_1 h]
theorem orI_3 (a b c : Int) : orI [a, b, c] = lx a (lx b c) := by
  by_cases h : a = 0
  · subst h; rw [orI_0, orI_2]; rfl
  · rw [orI_1 h]; unfold lx; rw [if_neg h]
theorem TO_value : TO vOrd := by
  have h := (TO_int.lex (TO_int.lex TO_str)).comap (fun v : V => (v.Kind, (v.N, v.S))) (fun a b h => by
    cases a; cases b; simp only [Prod.mk.injEq] at h; simp [h])
  have e : vOrd = fun a b : V => lx (cmpI a.Kind b.Kind) (lx (cmpI a.N b.N) (cmpS a.S b.S)) := by
    funext a b; unfold vOrd; rw [orI_3]
  rw [e]; exact h
theorem rowMany_count (rs : Rows) (r : Row) : rowMany rs r = rs.count r := by
  unfold rowMany List.count
  congr 1
  funext x
  rw [Bool.eq_iff_iff]; simp
theorem L_slices_IndexFunc_Limpl_Column_impl_Column {l : List S_impl_Column} {p : S_impl_Column → Option Bool} {q : S_impl_Column → Bool} (hl : l.length ≤ 900000000) (hp : ∀ v ∈ l, p v = some (q v)) : m_slices_IndexFunc_Limpl_Column_impl_Column l p = some (idxI q l) := by
  unfold m_slices_IndexFunc_Limpl_Column_impl_Column
  exact scanI (q := q) (g := fun i => some i) l (fun n k => m_slices_IndexFunc_Limpl_Column_impl_Column_l1 p n l (l.length : Int) k) (fun n k x hx => by
    have := lt_of_at hx; rw [m_slices_IndexFunc_Limpl_Column_impl_Column_l1, dlt this, cond_true]; simp only [at_of hx, Option.bind_some, hp x (List.mem_of_getElem? hx), ck1 (show k < 1000000000000 by omega)]) (fun n => by rw [m_slices_IndexFunc_Limpl_Column_impl_Column_l1, dnlt]; rfl) _ fuel0
theorem L_slices_ContainsFunc_Limpl_Column_impl_Column {l : List S_impl_Column} {p : S_impl_Column → Option Bool} {q : S_impl_Column → Bool} (hl : l.length ≤ 900000000) (hp : ∀ v ∈ l, p v = some (q v)) : m_slices_ContainsFunc_Limpl_Column_impl_Column l p = some (l.any q) := by
  unfold m_slices_ContainsFunc_Limpl_Column_impl_Column; rw [L_slices_IndexFunc_Limpl_Column_impl_Column hl hp, Option.bind_some, (idxI_ge q l).2.2]
theorem L_slices_IndexFunc_Lint_int {l : List Int} {p : Int → Option Bool} {q : Int → Bool} (hl : l.length ≤ 900000000) (hp : ∀ v ∈ l, p v = some (q v)) : m_slices_IndexFunc_Lint_int l p = some (idxI q l) := by
  unfold m_slices_IndexFunc_Lint_int
  exact scanI (q := q) (g := fun i => some i) l (fun n k => m_slices_IndexFunc_Lint_int_l1 p n l (l.length : Int) k) (fun n k x hx => by
    have := lt_of_at hx; rw [m_slices_IndexFunc_Lint_int_l1, dlt this, cond_true]; simp only [at_of hx, Option.bind_some, hp x (List.mem_of_getElem? hx), ck1 (show k < 1000000000000 by omega)]) (fun n => by rw [m_slices_IndexFunc_Lint_int_l1, dnlt]; rfl) _ fuel0
theorem L_slices_ContainsFunc_Lint_int {l : List Int} {p : Int → Option Bool} {q : Int → Bool} (hl : l.length ≤ 900000000) (hp : ∀ v ∈ l, p v = some (q v)) : m_slices_ContainsFunc_Lint_int l p = some (l.any q) := by
  unfold m_slices_ContainsFunc_Lint_int; rw [L_slices_IndexFunc_Lint_int hl hp, Option.bind_some, (idxI_ge q l).2.2]
theorem L_slices_IndexFunc_LLimpl_Value_Limpl_Value {l : List (List S_impl_Value)} {p : (List S_impl_Value) → Option Bool} {q : (List S_impl_Value) → Bool} (hl : l.length ≤ 900000000) (hp : ∀ v ∈ l, p v = some (q v)) : m_slices_IndexFunc_LLimpl_Value_Limpl_Value l p = some (idxI q l) := by
  unfold m_slices_IndexFunc_LLimpl_Value_Limpl_Value
  exact scanI (q := q) (g := fun i => some i) l (fun n k => m_slices_IndexFunc_LLimpl_Value_Limpl_Value_l1 p n l (l.length : Int) k) (fun n k x hx => by
    have := lt_of_at hx; rw [m_slices_IndexFunc_LLimpl_Value_Limpl_Value_l1, dlt this, cond_true]; simp only [at_of hx, Option.bind_some, hp x (List.mem_of_getElem? hx), ck1 (show k < 1000000000000 by omega)]) (fun n => by rw [m_slices_IndexFunc_LLimpl_Value_Limpl_Value_l1, dnlt]; rfl) _ fuel0
theorem L_slices_ContainsFunc_LLimpl_Value_Limpl_Value {l : List (List S_impl_Value)} {p : (List S_impl_Value) → Option Bool} {q : (List S_impl_Value) → Bool} (hl : l.length ≤ 900000000) (hp : ∀ v ∈ l, p v = some (q v)) : m_slices_ContainsFunc_LLimpl_Value_Limpl_Value l p = some (l.any q) := by
  unfold m_slices_ContainsFunc_LLimpl_Value_Limpl_Value; rw [L_slices_IndexFunc_LLimpl_Value_Limpl_Value hl hp, Option.bind_some, (idxI_ge q l).2.2]
theorem L_slices_IndexFunc_Limpl_group_impl_group {l : List S_impl_group} {p : S_impl_group → Option Bool} {q : S_impl_group → Bool} (hl : l.length ≤ 900000000) (hp : ∀ v ∈ l, p v = some (q v)) : m_slices_IndexFunc_Limpl_group_impl_group l p = some (idxI q l) := by
  unfold m_slices_IndexFunc_Limpl_group_impl_group
  exact scanI (q := q) (g := fun i => some i) l (fun n k => m_slices_IndexFunc_Limpl_group_impl_group_l1 p n l (l.length : Int) k) (fun n k x hx => by
    have := lt_of_at hx; rw [m_slices_IndexFunc_Limpl_group_impl_group_l1, dlt this, cond_true]; simp only [at_of hx, Option.bind_some, hp x (List.mem_of_getElem? hx), ck1 (show k < 1000000000000 by omega)]) (fun n => by rw [m_slices_IndexFunc_Limpl_group_impl_group_l1, dnlt]; rfl) _ fuel0
theorem L_slices_Clip_Limpl_Column_impl_Column {l : List S_impl_Column} : m_slices_Clip_Limpl_Column_impl_Column l = some l := by
  unfold m_slices_Clip_Limpl_Column_impl_Column cut3?; rw [if_pos (by omega)]; simp
abbrev Col := S_impl_Column
def colOk (c : Col) : Bool := decide (1 ≤ c.Kind) && decide (c.Kind ≤ 3)
def colsOk (cs : List Col) : Bool := decide (cs.length ≤ 4) && cs.all colOk
def vFit (v : V) (c : Col) : Bool := decide (v.Kind = c.Kind) || (decide (v.Kind = 0) && c.Empty)
def rowFits (cs : List Col) (r : Row) : Bool := colsOk cs && (rowOk r && (decide (r.length = cs.length) && all2 vFit r cs))
def rowsOk (cs : List Col) (rs : Rows) : Bool := colsOk cs && rs.all (rowFits cs)
theorem lenD (n m : Nat) : decide ((n : Int) ≤ (m : Int)) = decide (n ≤ m) := by rw [decide_eq_decide]; omega
theorem E_impl_ColumnsOk {cs : List Col} (h : cs.length ≤ 900000000) : m_impl_ColumnsOk cs = some (colsOk cs) := by
  unfold m_impl_ColumnsOk m_impl_ColumnsOk_j1 colsOk
  rw [L_slices_ContainsFunc_Limpl_Column_impl_Column (q := fun c => !(colOk c)) h (fun c _ => by unfold m_impl_ColumnsOk_1; rw [E_between]; rfl), Option.bind_some,
    show (4 : Int) = ((4 : Nat) : Int) from rfl, lenD, List.all_eq_not_any_not]
  cases decide (cs.length ≤ 4) <;> rfl
theorem E_spec_ColumnsOk {cs : List Col} (h : cs.length ≤ 900000000) : m_spec_ColumnsOk cs = some (colsOk cs) := by
  unfold m_spec_ColumnsOk colsOk
  rw [scanA (p := fun c => !(colOk c)) (r0 := false) (r1 := decide ((cs.length : Int) ≤ 4)) cs (fun n k => m_spec_ColumnsOk_l1 n cs k) (fun n k x hx => by
    have := lt_of_at hx; rw [m_spec_ColumnsOk_l1, dlt this, cond_true]; simp only [at_of hx, E_l1In, Option.bind_some, ck1 (show k < 1000000000000 by omega)]; rfl) (fun n => by rw [m_spec_ColumnsOk_l1, dnlt]; rfl) _ fuel0, List.all_eq_not_any_not, show (4 : Int) = ((4 : Nat) : Int) from rfl, lenD]
  cases cs.any fun c => !(colOk c) <;> simp
theorem E_impl_RowFits {cs : List Col} {r : Row} (h : cs.length ≤ 900000000) (hr : rSm r) : m_impl_RowFits cs r = some (rowFits cs r) := by
  unfold m_impl_RowFits rowFits; rw [E_impl_ColumnsOk h, Option.bind_some]; cases colsOk cs
  · rfl
  rw [Bool.not_true, cond_false, E_impl_RowOk hr, Option.bind_some]; cases rowOk r
  · rfl
  rw [Bool.not_true, cond_false]; unfold m_impl_RowFits_j1; rw [neN]
  by_cases hl : r.length = cs.length
  · rw [decide_eq_true hl, Bool.not_true, cond_false]
    simp only [Bool.true_and]
    exact scan2 (q := vFit) r cs hl (fun n k => m_impl_RowFits_l1 n cs r (r.length : Int) k) (fun n k x y hx hy => by
      have := lt_of_at hx; have hrl := hr.1; rw [m_impl_RowFits_l1, dlt this, cond_true]; simp only [at_of hx, at_of hy, Option.bind_some, Go.Lift.lt]; unfold m_impl_RowFits_j2; rw [ck1 (show k < 1000000000000 by omega), Option.bind_some]; unfold vFit; rw [neB, neB]; cases decide (x.Kind = y.Kind) <;> cases decide (x.Kind = 0) <;> cases y.Empty <;> rfl) (fun n => by rw [m_impl_RowFits_l1, dnlt]; rfl) _ fuel0
  · rw [decide_eq_false hl]; rfl
theorem E_spec_RowFits {cs : List Col} {r : Row} (h : cs.length ≤ 900000000) (hr : rSm r) : m_spec_RowFits cs r = some (rowFits cs r) := by
  unfold m_spec_RowFits rowFits; rw [E_spec_ColumnsOk h, Option.bind_some]; cases colsOk cs
  · rfl
  rw [Bool.not_true, cond_false, E_spec_RowOk hr, Option.bind_some]; cases rowOk r
  · rfl
  rw [Bool.not_true, cond_false]; unfold m_spec_RowFits_j1; rw [neN]
  by_cases hl : r.length = cs.length
  · rw [decide_eq_true hl, Bool.not_true, cond_false]
    simp only [Bool.true_and]
    exact scan2 (q := vFit) r cs hl (fun n k => m_spec_RowFits_l1 n cs r k) (fun n k x y hx hy => by
      have := lt_of_at hx; have hrl := hr.1; rw [m_spec_RowFits_l1, dlt this, cond_true]; simp only [at_of hx, at_of hy, Option.bind_some]; unfold m_spec_RowFits_j2; rw [ck1 (show k < 1000000000000 by omega), Option.bind_some]; unfold vFit; rw [neB, neB]; cases decide (x.Kind = y.Kind) <;> cases decide (x.Kind = 0) <;> cases y.Empty <;> rfl) (fun n => by rw [m_spec_RowFits_l1, dnlt]; rfl) _ fuel0
  · rw [decide_eq_false hl]; rfl
theorem E_impl_RowsOk {cs : List Col} {rs : Rows} (h : cs.length ≤ 900000000) (hr : rsSm rs) : m_impl_RowsOk cs rs = some (rowsOk cs rs) := by
  unfold m_impl_RowsOk m_impl_RowsOk_j1 rowsOk; obtain ⟨h1, h2⟩ := hr; rw [E_impl_ColumnsOk h, Option.bind_some, L_slices_ContainsFunc_LLimpl_Value_Limpl_Value (q := fun r => !(rowFits cs r)) (by omega) (fun r hr => by unfold m_impl_RowsOk_1; rw [E_impl_RowFits h (h2 r hr)]; rfl), Option.bind_some, List.all_eq_not_any_not]; cases colsOk cs <;> rfl
theorem E_spec_RowsOk {cs : List Col} {rs : Rows} (h : cs.length ≤ 900000000) (hr : rsSm rs) : m_spec_RowsOk cs rs = some (rowsOk cs rs) := by
  unfold m_spec_RowsOk rowsOk; obtain ⟨h1, h2⟩ := hr
  rw [scanA (p := fun r => !(rowFits cs r)) (r0 := false) (r1 := colsOk cs) rs (fun n k => m_spec_RowsOk_l1 n cs rs k) (fun n k x hx => by
    have := lt_of_at hx; rw [m_spec_RowsOk_l1, dlt this, cond_true]; simp only [at_of hx, E_spec_RowFits h (h2 x (List.mem_of_getElem? hx)), Option.bind_some, ck1 (show k < 1000000000000 by omega)]) (fun n => by
    rw [m_spec_RowsOk_l1, dnlt, cond_false]; unfold m_spec_RowsOk_j1; rw [E_spec_ColumnsOk h]; rfl) _ fuel0, List.all_eq_not_any_not]
  cases rs.any fun r => !(rowFits cs r) <;> cases colsOk cs <;> rfl
theorem rowsOk_fits {cs : List Col} {rs : Rows} (h : rowsOk cs rs = true) {r : Row} (hr : r ∈ rs) : rowOk r = true ∧ r.length = cs.length := by
  unfold rowsOk at h; rw [Bool.and_eq_true, List.all_eq_true] at h; have := h.2 r hr; unfold rowFits at this; simp only [Bool.and_eq_true, decide_eq_true_eq] at this; exact ⟨this.2.1, this.2.2.1⟩
def v0 : V := ⟨0, 0, ⟨#[]⟩⟩
theorem getD_mem {r : Row} {i : Nat} (h : i < r.length) : r.getD i v0 ∈ r := by rw [List.getD_eq_getElem?_getD, List.getElem?_eq_getElem h]; exact List.getElem_mem _
theorem vOk_getD {r : Row} {i : Nat} (hr : rowOk r = true) (h : i < r.length) : vOk (r.getD i v0) = true := by
  unfold rowOk at hr; rw [Bool.and_eq_true, List.all_eq_true] at hr; exact hr.2 _ (getD_mem h)
def total (left : List Rows) : Nat := left.flatten.length
theorem E_joined {a b : Rows} (ha : a.length ≤ 900000000) (hb : b.length ≤ 900000000) : m_laws_joined a b = some (a ++ b) := by
  unfold m_laws_joined; rw [app_of (by simp; omega), Option.bind_some, List.nil_append, app_of (by omega), Option.bind_some]
def onceR (rs : Rows) : Rows := rs.foldl (fun out r => if r ∈ out then out else out ++ [r]) []
theorem E_rowsHas {out : Rows} {r : Row} (h : rsSm out) : m_impl_rowsHas out r = some (decide (r ∈ out)) := by
  unfold m_impl_rowsHas; rw [E_impl_RowMany (by have := h.1; omega) (fun x hx => by have := (h.2 x hx).1; omega), Option.bind_some, rowMany_count]
  congr 1
  rw [decide_eq_decide]; have : 0 < out.count r ↔ r ∈ out := List.count_pos_iff; rw [← this]; omega
theorem E_impl_RowsOnce {rs : Rows} (h : rsSm rs) : m_impl_RowsOnce rs = some (onceR rs) := by
  obtain ⟨h1, h2⟩ := h; unfold m_impl_RowsOnce
  have hh := scanF (f := fun (out : Rows) r => if r ∈ out then out else out ++ [r]) (J := fun s => m_impl_RowsOnce_j2 s) (fun k s => s.length ≤ k ∧ ∀ x ∈ s, rSm x) rs (fun n k s => m_impl_RowsOnce_l1 n rs (rs.length : Int) k s) (fun n k x s hx hI => by
    have hlt := lt_of_at hx; obtain ⟨hI1, hI2⟩ := hI; have hxs := h2 x (List.mem_of_getElem? hx); rw [m_impl_RowsOnce_l1, dlt hlt, cond_true, at_of hx, Option.bind_some, E_rowsHas ⟨by omega, hI2⟩, Option.bind_some]; unfold m_impl_RowsOnce_j1
    by_cases hm : x ∈ s
    · rw [decide_eq_true hm, Bool.not_true, cond_false, ck1 (by omega), Option.bind_some, if_pos hm]
      exact ⟨rfl, by omega, hI2⟩
    · rw [decide_eq_false hm, Bool.not_false, cond_true, app_of (by simp; omega), Option.bind_some, ck1 (by omega), Option.bind_some, if_neg hm]
      refine ⟨rfl, by simp; omega, fun y hy => ?_⟩; rcases List.mem_append.1 hy with hy | hy
      · exact hI2 y hy
      · rw [List.mem_singleton.1 hy]; exact hxs) (fun n s _ => by rw [m_impl_RowsOnce_l1, dnlt, cond_false]) _ fuel0 [] ⟨by simp, by simp⟩
  rw [hh.1]; unfold m_impl_RowsOnce_j2; rw [E_rowsCopy (by have := hh.2.1; omega) (fun r hr => by have := (hh.2.2 r hr).1; omega)]; rfl
theorem vOk_1 {v : V} (h : vOk v = true) (k : v.Kind = 1) : -9999 ≤ v.N ∧ v.N ≤ 9999 ∧ v.S = ⟨#[]⟩ := by
  unfold vOk at h; rw [if_neg (by omega), if_pos k] at h; simp at h; exact ⟨h.2.1, h.2.2, h.1⟩
theorem vOk_2 {v : V} (h : vOk v = true) (k : v.Kind = 2) : v.N = 0 ∧ v.S.size ≤ 6 := by
  unfold vOk at h; rw [if_neg (by omega), if_neg (by omega), if_pos k] at h; simp at h; exact ⟨h.1.1, h.1.2⟩
theorem vOk_3 {v : V} (h : vOk v = true) (k : v.Kind = 3) : 0 ≤ v.N ∧ v.N ≤ 1 ∧ v.S = ⟨#[]⟩ := by
  unfold vOk at h; rw [if_neg (by omega), if_neg (by omega), if_neg (by omega), if_pos k] at h; simp at h; exact ⟨h.2.1, h.2.2, h.1⟩
theorem vOk_k {v : V} (h : vOk v = true) : v.Kind = 0 ∨ v.Kind = 1 ∨ v.Kind = 2 ∨ v.Kind = 3 := by
  unfold vOk at h
  by_cases h0 : v.Kind = 0
  · exact .inl h0
  · by_cases h1 : v.Kind = 1
    · exact .inr (.inl h1)
    · by_cases h2 : v.Kind = 2
      · exact .inr (.inr (.inl h2))
      · by_cases h3 : v.Kind = 3
        · exact .inr (.inr (.inr h3))
        · rw [if_neg h0, if_neg h1, if_neg h2, if_neg h3] at h; cases h
theorem rowOk_bb {r : Row} (h : rowOk r = true) : r.length ≤ 4 ∧ ∀ v ∈ r, vOk v = true := by
  unfold rowOk at h; rw [Bool.and_eq_true, decide_eq_true_eq, List.all_eq_true] at h; exact h
theorem vOk_sm {v : V} (h : vOk v = true) : vSm v := by
  unfold vSm; rcases vOk_k h with k | k | k | k
  · unfold vOk at h; rw [if_pos k] at h; have := of_decide_eq_true h; rw [this]; decide
  · rw [(vOk_1 h k).2.2]; decide
  · have := (vOk_2 h k).2; omega
  · rw [(vOk_3 h k).2.2]; decide
theorem vOk_num (n : Int) : vOk ⟨1, n, ⟨#[]⟩⟩ = (decide (-9999 ≤ n) && decide (n ≤ 9999)) := by
  unfold vOk; rw [if_neg (show ¬ (1 : Int) = 0 by decide), if_pos rfl, decide_eq_true (show (⟨#[]⟩ : ByteArray) = ⟨#[]⟩ from rfl), Bool.true_and]
theorem at_z {α : Type} {l : List α} {i : Int} {x : α} (h0 : 0 ≤ i) (h : l[i.toNat]? = some x) : at? l i = some x := by
  have := at_of h
  rwa [Int.toNat_of_nonneg h0] at this
def inR (n : Nat) (k : Int) : Bool := decide (0 ≤ k) && decide (k ≤ (n : Int) - 1)
theorem inR_of {n : Nat} {k : Int} (h : inR n k = true) : 0 ≤ k ∧ k.toNat < n := by
  unfold inR at h; rw [Bool.and_eq_true, decide_eq_true_eq, decide_eq_true_eq] at h; omega
def tyV (v : V) (k : Int) : Prop := vOk v = true ∧ (v.Kind = k ∨ v.Kind = 0)
inductive Typed : List V → List Int → Prop
  | nil : Typed [] []
  | cons {v : V} {k : Int} {vs : List V} {ks : List Int} : tyV v k → Typed vs ks → Typed (v :: vs) (k :: ks)
theorem Typed.len {vs : List V} {ks : List Int} (h : Typed vs ks) : vs.length = ks.length := by
  induction h with
  | nil => rfl
  | cons _ _ ih => simp [ih]
theorem Typed.ok {vs : List V} {ks : List Int} (h : Typed vs ks) : ∀ v ∈ vs, vOk v = true := by
  induction h with
  | nil => simp
  | cons h _ ih =>
    intro v hv; rcases List.mem_cons.1 hv with rfl | hv
    · exact h.1
    · exact ih v hv
theorem Typed.drop {vs : List V} {ks : List Int} (h : Typed vs ks) (n : Nat) : Typed (vs.drop n) (ks.drop n) := by
  induction h generalizing n with
  | nil => simp; exact .nil
  | cons h h2 ih =>
    cases n with
    | zero => exact .cons h h2
    | succ n => exact ih n
theorem vOk_v0 : vOk v0 = true := by decide
theorem vOrd_self (v : V) : vOrd v v = 0 := (TO_value.eq0 v v).2 rfl
def col0 : Col := ⟨0, false⟩
def takeOk (n : Nat) (l : List Int) : Bool := l.all (inR n)
def colAt (cs : List Col) (n : Int) : Col := cs.getD n.toNat col0
theorem getD_in {α : Type} {l : List α} {n : Int} {d : α} (h : inR l.length n = true) : at? l n = some (l.getD n.toNat d) := by
  have h2 := inR_of h; exact at_z h2.1 (by rw [List.getD_eq_getElem?_getD, List.getElem?_eq_getElem h2.2]; rfl)
theorem getD_mem' {α : Type} {l : List α} {n : Int} {d : α} (h : inR l.length n = true) : l.getD n.toNat d ∈ l := by
  have h2 := inR_of h; rw [List.getD_eq_getElem?_getD, List.getElem?_eq_getElem h2.2]; simp
def rowAt (r : Row) (n : Int) : V := r.getD n.toNat v0
theorem get_zip {α β : Type} : ∀ {a : List α} {b : List β} {i : Nat} {x : α} {y : β}, a[i]? = some x → b[i]? = some y → (x, y) ∈ a.zip b
  | [], _, _, _, _, h, _ => by simp at h
  | _ :: _, [], _, _, _, _, h => by simp at h
  | u :: a, v :: b, 0, x, y, h1, h2 => by simp at h1 h2; subst h1; subst h2; simp
  | u :: a, v :: b, i + 1, x, y, h1, h2 => by
    rw [List.zip_cons_cons]; exact List.mem_cons_of_mem _ (get_zip (by simpa using h1) (by simpa using h2))
theorem all2_get {α β : Type} {q : α → β → Bool} {a : List α} {b : List β} (h : all2 q a b = true) {i : Nat} {x : α} {y : β} (h1 : a[i]? = some x) (h2 : b[i]? = some y) : q x y = true := by
  unfold all2 at h; rw [List.all_eq_true] at h; exact h (x, y) (get_zip h1 h2)
theorem rowOk_mk {r : Row} (h : r.length ≤ 4) (h2 : ∀ v ∈ r, vOk v = true) : rowOk r = true := by
  unfold rowOk; rw [decide_eq_true h, List.all_eq_true.2 h2]; rfl
theorem colsOk_mk {cs : List Col} (h : cs.length ≤ 4) (h2 : ∀ c ∈ cs, colOk c = true) : colsOk cs = true := by
  unfold colsOk; rw [decide_eq_true h, List.all_eq_true.2 h2]; rfl
theorem onceR_go : ∀ (rs out : Rows), (∀ x, x ∈ rs.foldl (fun out r => if r ∈ out then out else out ++ [r]) out ↔ x ∈ out ∨ x ∈ rs) ∧ (rs.foldl (fun out r => if r ∈ out then out else out ++ [r]) out).length ≤ out.length + rs.length
  | [], out => ⟨by simp, by simp⟩
  | r :: rs, out => by
    rw [List.foldl_cons]; obtain ⟨h1, h2⟩ := onceR_go rs (if r ∈ out then out else out ++ [r]); refine ⟨fun x => ?_, ?_⟩
    · rw [h1]
      split
      · rename_i h
        simp only [List.mem_cons]; constructor
        · rintro (h | h)
          · exact .inl h
          · exact .inr (.inr h)
        · rintro (h | rfl | h)
          · exact .inl h
          · exact .inl (by assumption)
          · exact .inr h
      · simp only [List.mem_append, List.mem_cons]; grind
    · refine Nat.le_trans h2 ?_
      split
      · simp only [List.length_cons]; omega
      · simp only [List.length_append, List.length_cons, List.length_nil]; omega
theorem onceR_mem {rs : Rows} {x : Row} : x ∈ onceR rs ↔ x ∈ rs := by
  have := (onceR_go rs []).1 x; simpa [onceR] using this
theorem onceR_len {rs : Rows} : (onceR rs).length ≤ rs.length := by
  have := (onceR_go rs []).2; simpa [onceR] using this
abbrev Kn := S_impl_Known
abbrev Gp := S_impl_group
def kn0 : Kn := ⟨0, 0, ⟨0, 0, ⟨#[]⟩⟩, ⟨0, 0, ⟨#[]⟩⟩⟩
def knSm (k : Kn) : Prop := vSm k.Least ∧ vSm k.Most
def knOk (k : Kn) : Bool :=
  if k.Many = 0 then decide (k = kn0)
  else (decide (1 ≤ k.Many) && decide (k.Many ≤ 100)) && ((decide (-9999 * k.Many ≤ k.Sum) && decide (k.Sum ≤ 9999 * k.Many)) && (vOk k.Least && (vOk k.Most && ((k.Least.Kind == k.Most.Kind) && ((k.Least.Kind != 0) && (decide (vOrd k.Least k.Most ≤ 0) && ((k.Least.Kind == 1) || (k.Sum == 0))))))))
theorem E_impl_KnownOk {k : Kn} (h : knSm k) : m_impl_KnownOk k = some (knOk k) := by
  unfold m_impl_KnownOk m_impl_KnownOk_j1 knOk
  by_cases h0 : k.Many = 0
  · rw [if_pos h0, show (k.Many == 0) = true by simp [h0], cond_true]; rfl
  · rw [if_neg h0, beqF h0, cond_false, E_between, Option.bind_some]
    have e1 := E_Value_ok (v := k.Least) (by have := h.1; unfold vSm at this; omega); have e2 := E_Value_ok (v := k.Most) (by have := h.2; unfold vSm at this; omega)
    by_cases h1 : 1 ≤ k.Many ∧ k.Many ≤ 100
    · rw [decide_eq_true h1.1, decide_eq_true h1.2, Bool.and_self, cond_true, ckI_of (by omega) (by omega), Option.bind_some, ckI_of (by omega) (by omega), Option.bind_some, E_between, Option.bind_some, e1, Option.bind_some, e2, Option.bind_some, E_order, Option.bind_some]
      generalize (decide (-9999 * k.Many ≤ k.Sum) && decide (k.Sum ≤ 9999 * k.Many)) = b1; generalize vOk k.Least = b2; generalize vOk k.Most = b3; generalize (k.Least.Kind == k.Most.Kind) = b4; generalize (k.Least.Kind != 0) = b5; generalize decide (vOrd k.Least k.Most ≤ 0) = b6; generalize (k.Least.Kind == 1) = b7; generalize (k.Sum == 0) = b8; cases b1 <;> cases b2 <;> cases b3 <;> cases b4 <;> cases b5 <;> cases b6 <;> cases b7 <;> rfl
    · have : (decide (1 ≤ k.Many) && decide (k.Many ≤ 100)) = false := by rw [Bool.and_eq_false_iff, decide_eq_false_iff_not, decide_eq_false_iff_not]; omega
      rw [this]; rfl
theorem E_spec_KnownOk {k : Kn} (h : knSm k) : m_spec_KnownOk k = some (knOk k) := by
  unfold m_spec_KnownOk m_spec_KnownOk_j1 m_spec_KnownOk_j2 knOk
  by_cases h0 : k.Many = 0
  · rw [if_pos h0, show (k.Many == 0) = true by simp [h0], cond_true]; rfl
  · rw [if_neg h0, beqF h0, cond_false, E_l1In, Option.bind_some]
    have e1 := E_spec_ValueOk (v := k.Least) (by have := h.1; unfold vSm at this; omega); have e2 := E_spec_ValueOk (v := k.Most) (by have := h.2; unfold vSm at this; omega)
    by_cases h1 : 1 ≤ k.Many ∧ k.Many ≤ 100
    · rw [decide_eq_true h1.1, decide_eq_true h1.2, Bool.and_self, Bool.not_true, cond_false, e1, Option.bind_some, e2, Option.bind_some]
      simp only [E_ValueOrder h.1 h.2, ckI_of (show (-9223372036854775808 : Int) ≤ -9999 * k.Many by omega) (by omega), ckI_of (show (-9223372036854775808 : Int) ≤ 9999 * k.Many by omega) (by omega), Option.bind_some, E_l1In]; unfold vvOrd; generalize (decide (-9999 * k.Many ≤ k.Sum) && decide (k.Sum ≤ 9999 * k.Many)) = b1; rw [bne, bne]; generalize (k.Least.Kind == k.Most.Kind) = b4; generalize (k.Least.Kind == 0) = b5; generalize (k.Least.Kind == 1) = b7; generalize (k.Sum == 0) = b8; cases vOk k.Least
      · cases b1 <;> rfl
      cases vOk k.Most
      · cases b1 <;> rfl
      simp only [Bool.and_self, eq_self_iff_true, if_true]; generalize decide (vOrd k.Least k.Most ≤ 0) = b6; cases b1 <;> cases b4 <;> cases b5 <;> cases b6 <;> cases b7 <;> rfl
    · have : (decide (1 ≤ k.Many) && decide (k.Many ≤ 100)) = false := by rw [Bool.and_eq_false_iff, decide_eq_false_iff_not, decide_eq_false_iff_not]; omega
      rw [this]; rfl
theorem knOk_b {k : Kn} (h : knOk k = true) : (0 ≤ k.Many ∧ k.Many ≤ 100) ∧ (-999900 ≤ k.Sum ∧ k.Sum ≤ 999900) ∧ vOk k.Least = true ∧ vOk k.Most = true := by
  unfold knOk at h
  split at h
  · rw [of_decide_eq_true h]; unfold kn0; exact ⟨by simp, by simp, by decide, by decide⟩
  · simp only [Bool.and_eq_true, decide_eq_true_eq] at h
    obtain ⟨h1, h2, h3, h4, _⟩ := h; exact ⟨by omega, by omega, h3, h4⟩
def kOf (v : V) : Kn := if vOk v = true ∧ v.Kind ≠ 0 then ⟨1, if v.Kind = 1 then v.N else 0, v, v⟩ else kn0
theorem kOf_sm {v : V} (h : vSm v) : knSm (kOf v) := by
  unfold kOf
  split
  · exact ⟨h, h⟩
  · exact ⟨by unfold vSm kn0; decide, by unfold vSm kn0; decide⟩
theorem E_impl_KnownOf {v : V} (h : vSm v) : m_impl_KnownOf v = some (kOf v) := by
  unfold m_impl_KnownOf m_impl_KnownOf_j1 m_impl_KnownOf_j2 kOf; rw [E_Value_ok (by unfold vSm at h; omega), Option.bind_some]; cases vOk v with
  | false => simp [Lift.lt]; rfl
  | true =>
    by_cases h0 : v.Kind = 0
    · simp [Lift.lt, h0]; rfl
    · by_cases h1 : v.Kind = 1
      · simp [Lift.lt, h0, h1]
      · simp [Lift.lt, h0, h1, beqF h0, beqF h1]
theorem E_spec_KnownOf {v : V} (h : vSm v) : m_spec_KnownOf v = some (kOf v) := by
  unfold m_spec_KnownOf m_spec_KnownOf_j1 m_spec_KnownOf_j2 kOf; rw [E_spec_ValueOk (by unfold vSm at h; omega), Option.bind_some]; cases vOk v with
  | false => simp [Lift.lt]; rfl
  | true =>
    by_cases h0 : v.Kind = 0
    · simp [Lift.lt, h0]; rfl
    · by_cases h1 : v.Kind = 1
      · simp [Lift.lt, h0, h1]
      · simp [Lift.lt, h0, h1, beqF h0, beqF h1]
def kB (a b : Kn) : Kn :=
  if (knOk a && knOk b) = false then kn0
  else if a.Many = 0 then b
  else if b.Many = 0 then a
  else if a.Least.Kind ≠ b.Least.Kind then kn0
  else if a.Many + b.Many > 100 then kn0
  else ⟨a.Many + b.Many, a.Sum + b.Sum, if vOrd b.Least a.Least < 0 then b.Least else a.Least, if vOrd b.Most a.Most > 0 then b.Most else a.Most⟩
theorem kn0_sm : knSm kn0 := ⟨by unfold vSm kn0; decide, by unfold vSm kn0; decide⟩
theorem kB_sm {a b : Kn} (ha : knSm a) (hb : knSm b) : knSm (kB a b) := by
  unfold kB
  split; · exact kn0_sm
  split; · exact hb
  split; · exact ha
  split; · exact kn0_sm
  split; · exact kn0_sm
  refine ⟨?_, ?_⟩
  · show vSm (if _ then _ else _)
    split
    · exact hb.1
    · exact ha.1
  · show vSm (if _ then _ else _)
    split
    · exact hb.2
    · exact ha.2
theorem E_Min2 (x y : V) : m_slices_MinFunc_Limpl_Value_impl_Value ([x, y] : List V) (fun b0_ b1_ => m_impl_Value_order b0_ b1_) = some (if vOrd y x < 0 then y else x) := by
  have hp : (fun b0_ b1_ => m_impl_Value_order b0_ b1_) = fun a b => some (vOrd a b) := by funext a b; exact E_order _ _
  rw [hp]
  have : m_slices_MinFunc_Limpl_Value_impl_Value ([x, y] : List V) (fun a b => some (vOrd a b)) = bif decide (vOrd y x < 0) then some y else some x := by
    by_cases h : vOrd y x < 0
    · rw [decide_eq_true h, cond_true]
      unfold m_slices_MinFunc_Limpl_Value_impl_Value; rw [show decide ((([x, y] : List V).length : Int) < 1) = false from rfl, cond_false, show at? ([x, y] : List V) (0 : Int) = some x from rfl, Option.bind_some, show ((([x, y] : List V).length : Int) - 1).toNat + 1 = 2 from rfl]; simp [m_slices_MinFunc_Limpl_Value_impl_Value_l1, m_slices_MinFunc_Limpl_Value_impl_Value_j1, m_slices_MinFunc_Limpl_Value_impl_Value_j2, at?, Lift.lt, h, ckI]
    · rw [decide_eq_false h, cond_false]
      unfold m_slices_MinFunc_Limpl_Value_impl_Value; rw [show decide ((([x, y] : List V).length : Int) < 1) = false from rfl, cond_false, show at? ([x, y] : List V) (0 : Int) = some x from rfl, Option.bind_some, show ((([x, y] : List V).length : Int) - 1).toNat + 1 = 2 from rfl]; simp [m_slices_MinFunc_Limpl_Value_impl_Value_l1, m_slices_MinFunc_Limpl_Value_impl_Value_j1, m_slices_MinFunc_Limpl_Value_impl_Value_j2, at?, Lift.lt, h, ckI]
  rw [this]
  by_cases h : vOrd y x < 0
  · rw [if_pos h, decide_eq_true h]; rfl
  · rw [if_neg h, decide_eq_false h]; rfl
theorem E_Max2 (x y : V) : m_slices_MaxFunc_Limpl_Value_impl_Value ([x, y] : List V) (fun b0_ b1_ => m_impl_Value_order b0_ b1_) = some (if vOrd y x > 0 then y else x) := by
  have hp : (fun b0_ b1_ => m_impl_Value_order b0_ b1_) = fun a b => some (vOrd a b) := by funext a b; exact E_order _ _
  rw [hp]; unfold m_slices_MaxFunc_Limpl_Value_impl_Value; rw [show decide ((([x, y] : List V).length : Int) < 1) = false from rfl, cond_false, show at? ([x, y] : List V) (0 : Int) = some x from rfl, Option.bind_some, show ((([x, y] : List V).length : Int) - 1).toNat + 1 = 2 from rfl]
  by_cases h : vOrd y x > 0
  · simp [m_slices_MaxFunc_Limpl_Value_impl_Value_l1, m_slices_MaxFunc_Limpl_Value_impl_Value_j1, m_slices_MaxFunc_Limpl_Value_impl_Value_j2, at?, Lift.lt, h, ckI]
  · simp [m_slices_MaxFunc_Limpl_Value_impl_Value_l1, m_slices_MaxFunc_Limpl_Value_impl_Value_j1, m_slices_MaxFunc_Limpl_Value_impl_Value_j2, at?, Lift.lt, h, ckI]
theorem E_impl_KnownBoth {a b : Kn} (ha : knSm a) (hb : knSm b) : m_impl_KnownBoth a b = some (kB a b) := by
  unfold m_impl_KnownBoth m_impl_KnownBoth_j1 m_impl_KnownBoth_j2 kB; rw [E_impl_KnownOk ha, Option.bind_some, E_impl_KnownOk hb, Option.bind_some]; cases h1 : knOk a with
  | false => rfl
  | true =>
    cases h2 : knOk b with
    | false => rfl
    | true =>
      obtain ⟨a1, a2, a3, a4⟩ := knOk_b h1; obtain ⟨b1, b2, b3, b4⟩ := knOk_b h2; rw [if_neg (by simp), Bool.not_true, cond_false, cond_false]
      by_cases h0 : a.Many = 0
      · rw [show (a.Many == 0) = true by simp [h0], cond_true, if_pos h0]; rfl
      rw [beqF h0, cond_false, if_neg h0]
      by_cases h3 : b.Many = 0
      · rw [show (b.Many == 0) = true by simp [h3], cond_true, if_pos h3]; rfl
      rw [beqF h3, cond_false, if_neg h3]
      by_cases h4 : a.Least.Kind = b.Least.Kind
      · rw [show (a.Least.Kind != b.Least.Kind) = false by simp [h4], cond_false, if_neg (by simpa using h4), ckI_of (by omega) (by omega), Option.bind_some]
        by_cases h5 : a.Many + b.Many > 100
        · rw [decide_eq_true h5, cond_true, if_pos h5]; rfl
        · rw [decide_eq_false h5, cond_false, if_neg h5, ckI_of (by omega) (by omega), Option.bind_some, E_Min2, Option.bind_some, E_Max2, Option.bind_some]; rfl
      · rw [beqF' h4, cond_true, if_pos h4]; rfl
theorem E_spec_KnownBoth {a b : Kn} (ha : knSm a) (hb : knSm b) : m_spec_KnownBoth a b = some (kB a b) := by
  unfold m_spec_KnownBoth m_spec_KnownBoth_j1 m_spec_KnownBoth_j2 m_spec_KnownBoth_j3 m_spec_KnownBoth_j4 kB; rw [E_spec_KnownOk ha, Option.bind_some, E_spec_KnownOk hb, Option.bind_some]; cases h1 : knOk a with
  | false => rfl
  | true =>
    cases h2 : knOk b with
    | false => rfl
    | true =>
      obtain ⟨a1, a2, a3, a4⟩ := knOk_b h1; obtain ⟨b1, b2, b3, b4⟩ := knOk_b h2; rw [if_neg (by simp), Bool.not_true, cond_false, cond_false]
      by_cases h0 : a.Many = 0
      · rw [show (a.Many == 0) = true by simp [h0], cond_true, if_pos h0]; rfl
      rw [beqF h0, cond_false, if_neg h0]
      by_cases h3 : b.Many = 0
      · rw [show (b.Many == 0) = true by simp [h3], cond_true, if_pos h3]; rfl
      rw [beqF h3, cond_false, if_neg h3]
      by_cases h4 : a.Least.Kind = b.Least.Kind
      · rw [show (a.Least.Kind != b.Least.Kind) = false by simp [h4], cond_false, if_neg (by simpa using h4), ckI_of (by omega) (by omega), Option.bind_some]
        by_cases h5 : a.Many + b.Many > 100
        · rw [decide_eq_true h5, cond_true, if_pos h5]; rfl
        · rw [decide_eq_false h5, cond_false, if_neg h5, ckI_of (by omega) (by omega), Option.bind_some]
          simp only [Lift.lt, E_ValueOrder hb.1 ha.1, E_ValueOrder hb.2 ha.2, Option.bind_some]; unfold vvOrd; rw [a3, a4, b3, b4, Bool.and_self, if_pos rfl, if_pos rfl]
          by_cases h6 : vOrd b.Least a.Least < 0
          · by_cases h7 : vOrd b.Most a.Most > 0 <;> simp [h6, h7]
          · by_cases h7 : vOrd b.Most a.Most > 0 <;> simp [h6, h7]
      · rw [beqF' h4, cond_true, if_pos h4]; rfl
def knT (k : Kn) (t : Int) : V :=
  if knOk k = false then v0
  else if t = 1 then ⟨1, k.Many, ⟨#[]⟩⟩
  else if t = 2 then (if k.Least.Kind = 1 ∧ -9999 ≤ k.Sum ∧ k.Sum ≤ 9999 then ⟨1, k.Sum, ⟨#[]⟩⟩ else v0)
  else if t = 3 then k.Least
  else if t = 4 then k.Most
  else v0
theorem knT_ok (k : Kn) (t : Int) : vOk (knT k t) = true := by
  unfold knT; cases h : knOk k with
  | false => rw [if_pos rfl]; exact vOk_v0
  | true =>
    obtain ⟨a1, a2, a3, a4⟩ := knOk_b h; rw [if_neg (by simp)]
    split; · rw [vOk_num, decide_eq_true (by omega), decide_eq_true (by omega)]; rfl
    split
    · split
      · rename_i h; rw [vOk_num, decide_eq_true h.2.1, decide_eq_true h.2.2]; rfl
      · exact vOk_v0
    split; · exact a3
    split; · exact a4
    exact vOk_v0
theorem E_numOfG (n : Int) : m_impl_numOf n = some (if -9999 ≤ n ∧ n ≤ 9999 then ⟨1, n, ⟨#[]⟩⟩ else v0) := by
  unfold m_impl_numOf; simp only [Lift.lt]; rw [E_Value_ok (by show (0 : Nat) ≤ _; decide), Option.bind_some, vOk_num]
  by_cases h : -9999 ≤ n ∧ n ≤ 9999
  · rw [decide_eq_true h.1, decide_eq_true h.2, if_pos h]; rfl
  · rw [if_neg h, show (decide (-9999 ≤ n) && decide (n ≤ 9999)) = false by rw [Bool.and_eq_false_iff, decide_eq_false_iff_not, decide_eq_false_iff_not]; omega]; rfl
theorem E_impl_KnownTell {k : Kn} {t : Int} (h : knSm k) : m_impl_KnownTell k t = some (knT k t) := by
  unfold m_impl_KnownTell m_impl_KnownTell_j1 knT; rw [E_impl_KnownOk h, Option.bind_some]; cases hk : knOk k with
  | false => rfl
  | true =>
    obtain ⟨a1, a2, a3, a4⟩ := knOk_b hk; rw [if_neg (by simp), Bool.not_true, cond_false, E_numOfG, Option.bind_some, E_numOfG, Option.bind_some, if_pos (by omega)]; simp only [Lift.lt]
    by_cases h1 : t = 1
    · simp [h1]
    by_cases h2 : t = 2
    · by_cases h3 : k.Least.Kind = 1
      · simp [h1, h2, h3]
      · simp [h1, h2, h3, beqF h3]; rfl
    by_cases h3 : t = 3
    · simp [h3]
    by_cases h4 : t = 4
    · simp [h4]
    simp [h1, h2, h3, h4, beqF h1, beqF h2, beqF h3, beqF h4]; rfl
theorem E_spec_KnownTell {k : Kn} {t : Int} (h : knSm k) : m_spec_KnownTell k t = some (knT k t) := by
  unfold m_spec_KnownTell m_spec_KnownTell_j1 knT; rw [E_spec_KnownOk h, Option.bind_some]; cases hk : knOk k with
  | false => rfl
  | true =>
    obtain ⟨a1, a2, a3, a4⟩ := knOk_b hk; rw [if_neg (by simp), Bool.not_true, cond_false, E_l1In, Option.bind_some]; simp only [Lift.lt]
    by_cases h1 : t = 1
    · simp [h1]
    by_cases h2 : t = 2
    · by_cases h3 : k.Least.Kind = 1
      · by_cases h4 : -9999 ≤ k.Sum ∧ k.Sum ≤ 9999
        · simp [h1, h2, h3, h4]
        · have : (decide (-9999 ≤ k.Sum) && decide (k.Sum ≤ 9999)) = false := by rw [Bool.and_eq_false_iff, decide_eq_false_iff_not, decide_eq_false_iff_not]; omega
          simp [h1, h2, h3, h4, this]; rfl
      · simp [h1, h2, h3, beqF h3]; rfl
    by_cases h3 : t = 3
    · simp [h3]
    by_cases h4 : t = 4
    · simp [h4]
    simp [h1, h2, h3, h4, beqF h1, beqF h2, beqF h3, beqF h4]; rfl
def gKey (by' : List Int) (r : Row) : Row := by'.map (rowAt r)
def knF (by' : List Int) (i : Int) (rows : Rows) (key : Row) : Kn := rows.foldl (fun k r => if gKey by' r = key then kB k (kOf (rowAt r i)) else k) kn0
def gpsG (by' : List Int) (i : Int) (rows : Rows) : List Gp := (onceR (rows.map (gKey by'))).map fun k => ⟨k, knF by' i rows k⟩
def rowsG (by' : List Int) (i : Int) (rows : Rows) (t : Int) : Rows := (onceR (rows.map (gKey by'))).map fun k => k ++ [knT (knF by' i rows k) t]
structure gOk (n : Nat) (by' : List Int) (i : Int) (rows : Rows) : Prop where
  many : rows.length ≤ 100
  row : ∀ r ∈ rows, r.length = n ∧ rowOk r = true
  bys : takeOk n by' = true
  len : by'.length ≤ 3
  idx : inR n i = true
theorem gOk.at {n : Nat} {by' : List Int} {i : Int} {rows : Rows} (h : gOk n by' i rows) {r : Row} (hr : r ∈ rows) {k : Int} (hk : inR n k = true) : vOk (rowAt r k) = true := by
  obtain ⟨h1, h2⟩ := h.row r hr; have := inR_of hk; unfold rowAt; exact vOk_getD h2 (by omega)
theorem gOk.key {n : Nat} {by' : List Int} {i : Int} {rows : Rows} (h : gOk n by' i rows) {r : Row} (hr : r ∈ rows) : (gKey by' r).length ≤ 3 ∧ ∀ v ∈ gKey by' r, vOk v = true := by
  have hb := h.bys; unfold takeOk at hb; unfold gKey; refine ⟨by rw [List.length_map]; exact h.len, fun v hv => ?_⟩; obtain ⟨k, hk, rfl⟩ := List.mem_map.1 hv; exact h.at hr (List.all_eq_true.1 hb k hk)
theorem gOk.ks {n : Nat} {by' : List Int} {i : Int} {rows : Rows} (h : gOk n by' i rows) {k : Row} (hk : k ∈ rows.map (gKey by')) : k.length ≤ 3 ∧ (∀ v ∈ k, vOk v = true) ∧ rSm k := by
  obtain ⟨r, hr, rfl⟩ := List.mem_map.1 hk; have := h.key hr; exact ⟨this.1, this.2, by omega, fun v hv => vOk_sm (this.2 v hv)⟩
theorem E_clone_x {l : Row} (h : l.length ≤ 900000000) : m_impl_clone_impl_Value_x l = some l := by
  unfold m_impl_clone_impl_Value_x appN?; cases l with
  | nil => rfl
  | cons x l =>
    have e : (((x :: l).length : Int) == 0) = false := by simp; omega
    rw [e, cond_false, if_pos ⟨by simp, by omega⟩, Option.bind_some]
theorem E_taken_x {r : Row} {l : List Int} (h : takeOk r.length l = true) (hl : l.length ≤ 1100000) : m_impl_taken_x r l = some (l.map (rowAt r)) := by
  unfold m_impl_taken_x; have e := scanM (f := rowAt r) (J := fun o => m_impl_taken_x_j1 o) l (fun n k o => m_impl_taken_x_l1 n r l (l.length : Int) k o) (fun n k x o hx ho => ?_) (fun n o ho => by rw [m_impl_taken_x_l1, dnlt, cond_false]) _ fuel0
  · rw [e]
    unfold m_impl_taken_x_j1; rw [E_clone_x (by simp; omega)]; rfl
  · have hk := lt_of_at hx
    have hi : inR r.length x = true := by unfold takeOk at h; exact List.all_eq_true.1 h x (List.mem_of_getElem? hx)
    rw [m_impl_taken_x_l1, dlt hk, cond_true, at_of hx, Option.bind_some, getD_in (d := v0) hi, Option.bind_some, app_of (by simp; omega), Option.bind_some, ck1 (by omega), Option.bind_some]; rfl
theorem E_l6Taken {r : Row} {l : List Int} (h : takeOk r.length l = true) (hl : l.length ≤ 1100000) : m_spec_l6Taken r l = some (l.map (rowAt r)) := by
  unfold m_spec_l6Taken; have e := scanM (f := rowAt r) (J := fun o => m_spec_l6Taken_j1 o) l (fun n k o => m_spec_l6Taken_l1 n r l k o) (fun n k x o hx ho => ?_) (fun n o ho => by rw [m_spec_l6Taken_l1, dnlt, cond_false]) _ fuel0
  · rw [e]; rfl
  · have hk := lt_of_at hx
    have hi : inR r.length x = true := by unfold takeOk at h; exact List.all_eq_true.1 h x (List.mem_of_getElem? hx)
    rw [m_spec_l6Taken_l1, dlt hk, cond_true, at_of hx, Option.bind_some, getD_in (d := v0) hi, Option.bind_some, app_of (by simp; omega), Option.bind_some, ck1 (by omega), Option.bind_some]; rfl
theorem knF_snoc {by' : List Int} {i : Int} {d : Rows} {r key : Row} : knF by' i (d ++ [r]) key = if gKey by' r = key then kB (knF by' i d key) (kOf (rowAt r i)) else knF by' i d key := by
  unfold knF; rw [List.foldl_append]; rfl
theorem knF_none {by' : List Int} {i : Int} {key : Row} : ∀ {d : Rows}, key ∉ d.map (gKey by') → knF by' i d key = kn0 := by
  intro d; unfold knF
  induction d with
  | nil => intro _; rfl
  | cons r d ih =>
    intro h; rw [List.map_cons, List.mem_cons, not_or] at h; rw [List.foldl_cons, if_neg (fun e => h.1 e.symm)]; exact ih h.2
theorem E_l10Known {n : Nat} {by' : List Int} {i : Int} {rows : Rows} {key : Row} (h : gOk n by' i rows) : m_spec_l10Known rows by' i key = some (knF by' i rows key) ∧ knSm (knF by' i rows key) := by
  unfold m_spec_l10Known; simp only [Lift.lt]; have hl := h.many
  have hh := scanF (f := fun (k : Kn) r => if gKey by' r = key then kB k (kOf (rowAt r i)) else k) (J := fun s => some s) (fun _ s => knSm s) rows (fun n k s => m_spec_l10Known_l1 n rows by' i key k kn0 s) (fun m k r s hx hs => by
    have hlt := lt_of_at hx; have hm := List.mem_of_getElem? hx; obtain ⟨r1, r2⟩ := h.row r hm; have hb := h.bys; have hi := h.idx; rw [← r1] at hb hi; have hv := vOk_sm (h.at hm h.idx); have h3 := h.len; rw [m_spec_l10Known_l1, dlt hlt, cond_true, at_of hx, Option.bind_some, Option.bind_some, E_l6Taken hb (by omega), Option.bind_some, E_l3Same (by rw [List.length_map]; omega), Option.bind_some, getD_in (d := v0) hi, Option.bind_some]; show (bif decide (gKey by' r = key) then _ else _) = _ ∧ _; unfold m_spec_l10Known_j1; rw [ck1 (by omega), Option.bind_some, show r.getD i.toNat v0 = rowAt r i from rfl, E_spec_KnownOf hv, Option.bind_some, E_spec_KnownBoth hs (kOf_sm hv), Option.bind_some]; simp only [Lift.lt, Option.bind_some]
    by_cases hk : gKey by' r = key
    · rw [decide_eq_true hk, cond_true, if_pos hk]
      exact ⟨rfl, kB_sm hs (kOf_sm hv)⟩
    · rw [decide_eq_false hk, cond_false, if_neg hk]
      exact ⟨rfl, hs⟩) (fun m s _ => by rw [m_spec_l10Known_l1, dnlt, cond_false]; rfl) _ fuel0 kn0 kn0_sm
  exact ⟨hh.1, hh.2⟩
theorem E_spec_RowsOnce {rs : Rows} (h : rsSm rs) : m_spec_RowsOnce rs = some (onceR rs) := by
  obtain ⟨h1, h2⟩ := h; unfold m_spec_RowsOnce
  have hh := scanF (f := fun (out : Rows) r => if r ∈ out then out else out ++ [r]) (J := fun s => m_spec_RowsOnce_j2 s) (fun k s => s.length ≤ k ∧ ∀ x ∈ s, rSm x) rs (fun n k s => m_spec_RowsOnce_l1 n rs k s) (fun n k x s hx hI => by
    have hlt := lt_of_at hx; obtain ⟨hI1, hI2⟩ := hI; have hxs := h2 x (List.mem_of_getElem? hx); rw [m_spec_RowsOnce_l1, dlt hlt, cond_true, at_of hx, Option.bind_some, E_spec_RowMany (by omega) (fun y hy => by have := (hI2 y hy).1; omega), Option.bind_some, rowMany_count]; unfold m_spec_RowsOnce_j1; have hc : 0 < s.count x ↔ x ∈ s := List.count_pos_iff
    by_cases hm : x ∈ s
    · have : ((s.count x : Nat) : Int) ≠ 0 := by have := hc.2 hm; omega
      rw [beqF this, cond_false, ck1 (by omega), Option.bind_some, if_pos hm]; exact ⟨rfl, by omega, hI2⟩
    · have h0 : s.count x = 0 := by
        rcases Nat.eq_zero_or_pos (s.count x) with h | h
        · exact h
        · exact absurd (hc.1 h) hm
      rw [h0, show (((0 : Nat) : Int) == 0) = true from rfl, cond_true, Option.bind_some, E_l3Own (by have := hxs.1; omega), Option.bind_some, app_of (by simp; omega), Option.bind_some, ck1 (by omega), Option.bind_some, if_neg hm]; refine ⟨rfl, by simp; omega, fun y hy => ?_⟩; rcases List.mem_append.1 hy with hy | hy
      · exact hI2 y hy
      · rw [List.mem_singleton.1 hy]; exact hxs) (fun n s _ => by rw [m_spec_RowsOnce_l1, dnlt, cond_false]) _ fuel0 [] ⟨by simp, by simp⟩
  rw [hh.1]; rfl
theorem onceR_snoc {d : Rows} {k : Row} : onceR (d ++ [k]) = if k ∈ onceR d then onceR d else onceR d ++ [k] := by
  unfold onceR; rw [List.foldl_append]; rfl
theorem onceR_ndG {d : Rows} : (onceR d).Nodup := by
  have key : ∀ (l out : Rows), out.Nodup → (l.foldl (fun out r => if r ∈ out then out else out ++ [r]) out).Nodup := by
    intro l
    induction l with
    | nil => intro out h; exact h
    | cons x l ih =>
      intro out h; rw [List.foldl_cons]; refine ih _ ?_
      split
      · exact h
      · rename_i hx
        rw [List.nodup_append]; exact ⟨h, by simp, by intro a ha b hb e; exact hx (by rw [← List.mem_singleton.1 hb, ← e]; exact ha)⟩
  exact key d [] List.nodup_nil
def gStep (by' : List Int) (i : Int) (S : List Gp) (r : Row) : List Gp :=
  if gKey by' r ∈ S.map (·.f_by) then S.map fun g => if g.f_by = gKey by' r then { g with known := kB g.known (kOf (rowAt r i)) } else g
  else S ++ [⟨gKey by' r, kB kn0 (kOf (rowAt r i))⟩]
theorem gps_by {by' : List Int} {i : Int} {d : Rows} : (gpsG by' i d).map (·.f_by) = onceR (d.map (gKey by')) := by
  unfold gpsG; rw [List.map_map]; exact List.map_id _
theorem gStep_gps {by' : List Int} {i : Int} {d : Rows} {r : Row} : gStep by' i (gpsG by' i d) r = gpsG by' i (d ++ [r]) := by
  unfold gStep; rw [gps_by]; unfold gpsG; rw [List.map_append, List.map_singleton, onceR_snoc]
  by_cases h : gKey by' r ∈ onceR (d.map (gKey by'))
  · rw [if_pos h, if_pos h, List.map_map]
    refine List.map_congr_left fun k hk => ?_; show (if k = gKey by' r then _ else _) = _; rw [knF_snoc]
    by_cases e : k = gKey by' r
    · rw [if_pos e, if_pos e.symm]
    · rw [if_neg e, if_neg (fun h => e h.symm)]
  · rw [if_neg h, if_neg h, List.map_append, List.map_singleton, knF_snoc, if_pos rfl, knF_none (fun hm => h (onceR_mem.2 hm))]
    congr 1
    refine List.map_congr_left fun k hk => ?_; have hne : gKey by' r ≠ k := fun e => h (by rw [e]; exact hk)
    rw [knF_snoc, if_neg hne]
theorem foldl_gStep {by' : List Int} {i : Int} : ∀ (r d : Rows), r.foldl (gStep by' i) (gpsG by' i d) = gpsG by' i (d ++ r)
  | [], d => by simp
  | x :: r, d => by rw [List.foldl_cons, gStep_gps, foldl_gStep r]; simp
theorem idxI_at {α : Type} {q : α → Bool} : ∀ {l : List α}, 0 ≤ idxI q l → ∃ x, l[(idxI q l).toNat]? = some x ∧ q x = true
  | [], h => by simp [idxI] at h
  | x :: l, h => by
    cases hq : q x with
    | true => rw [idxI_pos hq]; exact ⟨x, rfl, hq⟩
    | false =>
      rw [idxI_neg hq] at h ⊢
      by_cases h0 : idxI q l < 0
      · rw [if_pos h0] at h; omega
      · rw [if_neg h0] at h ⊢
        obtain ⟨y, h1, h2⟩ := idxI_at (q := q) (l := l) (by omega); refine ⟨y, ?_, h2⟩; rw [show (idxI q l + 1).toNat = (idxI q l).toNat + 1 by omega]; simpa using h1
theorem set_map {u : Gp → Gp} {key : Row} {g : Gp} : ∀ {S : List Gp} {j : Nat}, (S.map (·.f_by)).Nodup → S[j]? = some g → g.f_by = key → S.set j (u g) = S.map fun g => if g.f_by = key then u g else g
  | [], _, _, h, _ => by simp at h
  | x :: S, 0, hn, h, hk => by
    simp only [List.getElem?_cons_zero, Option.some.injEq] at h; subst h; rw [List.map_cons, List.nodup_cons] at hn; rw [List.set_cons_zero, List.map_cons, if_pos hk]
    congr 1
    refine (List.map_id S).symm.trans (List.map_congr_left fun y hy => ?_); rw [if_neg (fun e => hn.1 (by rw [hk, ← e]; exact List.mem_map.2 ⟨y, hy, rfl⟩))]; rfl
  | x :: S, j + 1, hn, h, hk => by
    rw [List.map_cons, List.nodup_cons] at hn; rw [List.getElem?_cons_succ] at h; rw [List.set_cons_succ, List.map_cons, set_map hn.2 h hk, if_neg (fun e => hn.1 (by rw [e, ← hk]; exact List.mem_map.2 ⟨g, List.mem_of_getElem? h, rfl⟩))]
def gQ (key : Row) (g : Gp) : Bool := decide (g.f_by = key)
theorem E_groups_1 {g : Gp} {key : Row} (h : g.f_by.length ≤ 3) : m_impl_groups_1 g key = some (gQ key g) := by
  unfold m_impl_groups_1 gQ; rw [E_Equal (by omega), Option.bind_some]
def gInv (k : Nat) (s : List Gp) : Prop := s.length ≤ k ∧ (s.map (·.f_by)).Nodup ∧ (∀ g ∈ s, knSm g.known) ∧ ∀ g ∈ s, g.f_by.length ≤ 3
theorem gStep_inv {by' : List Int} {i : Int} {k : Nat} {s : List Gp} {r : Row} (h : gInv k s) (hv : vSm (rowAt r i)) (hkl : (gKey by' r).length ≤ 3) : gInv (k + 1) (gStep by' i s r) := by
  obtain ⟨I1, I2, I3, I4⟩ := h; unfold gStep
  by_cases hmem : gKey by' r ∈ s.map (·.f_by)
  · rw [if_pos hmem]
    refine ⟨by rw [List.length_map]; omega, ?_, ?_, ?_⟩
    · rw [List.map_map]
      have : ((fun g : Gp => g.f_by) ∘ fun g : Gp => if g.f_by = gKey by' r then { g with known := kB g.known (kOf (rowAt r i)) } else g) = fun g => g.f_by := by
        funext g
        show (if _ then _ else _ : Gp).f_by = _
        split <;> rfl
      rw [this]; exact I2
    · intro g hg
      obtain ⟨y, hy, rfl⟩ := List.mem_map.1 hg
      split
      · exact kB_sm (I3 y hy) (kOf_sm hv)
      · exact I3 y hy
    · intro g hg
      obtain ⟨y, hy, rfl⟩ := List.mem_map.1 hg
      split <;> exact I4 y hy
  · rw [if_neg hmem]
    refine ⟨by simp; omega, ?_, ?_, ?_⟩
    · rw [List.map_append, List.nodup_append]
      refine ⟨I2, by simp, ?_⟩; intro a ha b hb e; rw [List.map_singleton, List.mem_singleton] at hb; have hb' : b = gKey by' r := hb
      exact hmem (by rw [← hb', ← e]; exact ha)
    · intro g hg
      rcases List.mem_append.1 hg with hg | hg
      · exact I3 g hg
      · rw [List.mem_singleton.1 hg]; exact kB_sm kn0_sm (kOf_sm hv)
    · intro g hg
      rcases List.mem_append.1 hg with hg | hg
      · exact I4 g hg
      · rw [List.mem_singleton.1 hg]; exact hkl
theorem E_gfind {s : List Gp} {key : Row} (h : ∀ g ∈ s, g.f_by.length ≤ 3) (hl : s.length ≤ 1000) : m_slices_IndexFunc_Limpl_group_impl_group s (fun b0_ => m_impl_groups_1 b0_ key) = some (idxI (gQ key) s) :=
  L_slices_IndexFunc_Limpl_group_impl_group (q := gQ key) (by omega) (fun g hg => E_groups_1 (h g hg))
theorem E_groups_j1 {k1 : List Int → Int → Rows → Int → Int → List Gp → Option (List Gp)} {by' : List Int} {i : Int} {rows : Rows} {r : Row} {S : List Gp} {g : Gp} {j : Int} {n k : Nat} (hk : k < 1000) (hi : inR r.length i = true) (hv : vSm (rowAt r i)) (h0 : 0 ≤ j) (hg : S[j.toNat]? = some g) (hs : knSm g.known) :
    m_impl_groups_j1 k1 by' i r j rows (n : Int) (k : Int) S = k1 by' i rows n ((k : Int) + 1) (S.set j.toNat { g with known := kB g.known (kOf (rowAt r i)) }) := by
  unfold m_impl_groups_j1; rw [at_z h0 hg, Option.bind_some, Option.bind_some, getD_in (d := v0) hi, Option.bind_some, show r.getD i.toNat v0 = rowAt r i from rfl, E_impl_KnownOf hv, Option.bind_some, E_impl_KnownBoth hs (kOf_sm hv), Option.bind_some, Option.bind_some, Option.bind_some, ck1 (by omega)]; rfl
theorem E_groups_l1 {by' : List Int} {i : Int} {rows : Rows} {r : Row} {s : List Gp} {m n k : Nat} (hI : gInv k s) (hk : k < 1000) (hx : rows[k]? = some r) (hlt : k < n) (hb : takeOk r.length by' = true) (hbl : by'.length ≤ 3) (hi : inR r.length i = true) (hv : vSm (rowAt r i)) :
    m_impl_groups_l1 (m + 1) by' i rows (n : Int) (k : Int) s = m_impl_groups_l1 m by' i rows (n : Int) ((k : Int) + 1) (gStep by' i s r) := by
  obtain ⟨I1, I2, I3, I4⟩ := hI; rw [m_impl_groups_l1, dlt hlt, cond_true, at_of hx, Option.bind_some, E_taken_x hb (by omega), Option.bind_some, ltE, show by'.map (rowAt r) = gKey by' r from rfl, E_gfind I4 (by omega), Option.bind_some]; have hix := idxI_ge (gQ (gKey by' r)) s; unfold gStep
  by_cases hmem : gKey by' r ∈ s.map (·.f_by)
  · rw [if_pos hmem]
    have hany : s.any (gQ (gKey by' r)) = true := by
      obtain ⟨g, hg, e⟩ := List.mem_map.1 hmem; exact List.any_eq_true.2 ⟨g, hg, decide_eq_true e⟩
    rw [hany, decide_eq_true_eq] at hix; obtain ⟨g, hg1, hg2⟩ := idxI_at hix.2.2; unfold gQ at hg2; rw [decide_eq_true_eq] at hg2; rw [decide_eq_false (by omega), cond_false, E_groups_j1 hk hi hv hix.2.2 hg1 (I3 g (List.mem_of_getElem? hg1)), set_map (u := fun g => { g with known := kB g.known (kOf (rowAt r i)) }) I2 hg1 hg2]
  · rw [if_neg hmem]
    have hany : s.any (gQ (gKey by' r)) = false := by
      rw [List.any_eq_false]; intro g hg e; exact hmem (List.mem_map.2 ⟨g, hg, of_decide_eq_true e⟩)
    rw [hany, decide_eq_false_iff_not] at hix; rw [decide_eq_true (by omega), cond_true, app_of (by simp; omega), Option.bind_some]; have hat : (s ++ [(⟨gKey by' r, kn0⟩ : Gp)])[((s.length : Nat) : Int).toNat]? = some ⟨gKey by' r, kn0⟩ := by simp
    refine (E_groups_j1 hk hi hv (by omega) hat kn0_sm).trans ?_; rw [Int.toNat_natCast, List.set_append_right _ _ (Nat.le_refl _), Nat.sub_self]; rfl
theorem E_groups {n : Nat} {by' : List Int} {i : Int} {rows : Rows} (h : gOk n by' i rows) : m_impl_groups rows by' i = some (gpsG by' i rows) ∧ ∀ g ∈ gpsG by' i rows, knSm g.known := by
  unfold m_impl_groups; have hl := h.many; have h3 := h.len
  have hh := scanF (f := gStep by' i) (J := fun s => some s) gInv rows (fun n k s => m_impl_groups_l1 n by' i rows (rows.length : Int) k s) (fun m k r s hx hI => by
    have hlt := lt_of_at hx; have hm := List.mem_of_getElem? hx; obtain ⟨r1, r2⟩ := h.row r hm; have hb := h.bys; have hi := h.idx; rw [← r1] at hb hi; have hv := vOk_sm (h.at hm h.idx); exact ⟨E_groups_l1 hI (by omega) hx hlt hb h3 hi hv, gStep_inv hI hv (h.key hm).1⟩) (fun m s _ => by rw [m_impl_groups_l1, dnlt, cond_false]; rfl) _ fuel0 [] ⟨by simp, by simp, by simp, by simp⟩
  have e := foldl_gStep (by' := by') (i := i) rows []; rw [show gpsG by' i [] = [] from rfl, List.nil_append] at e; rw [e] at hh; exact ⟨hh.1, hh.2.2.2.1⟩
def rdyI (cs : List Col) (by' : List Int) (i t : Int) : Bool :=
  colsOk cs && (decide (by'.length ≤ 3) && (takeOk cs.length by' && (inR cs.length i && ((decide (1 ≤ t) && decide (t ≤ 4)) && ((t != 2) || ((colAt cs i).Kind == 1))))))
def groupG (cs : List Col) (rows : Rows) (by' : List Int) (i t : Int) : Rows := if rdyI cs by' i t = true ∧ rows.length ≤ 100 ∧ rowsOk cs rows = true then rowsG by' i rows t else []
theorem rdy_g {cs : List Col} {rows : Rows} {by' : List Int} {i t : Int} (h : rdyI cs by' i t = true ∧ rows.length ≤ 100 ∧ rowsOk cs rows = true) : gOk cs.length by' i rows := by
  obtain ⟨h1, h2, h3⟩ := h; unfold rdyI at h1; simp only [Bool.and_eq_true, decide_eq_true_eq] at h1; obtain ⟨_, h4, h5, h6, _⟩ := h1; exact ⟨h2, fun r hr => ⟨(rowsOk_fits h3 hr).2, (rowsOk_fits h3 hr).1⟩, h5, h4, h6⟩
theorem E_impl_groupsOk {cs : List Col} {by' : List Int} {i t : Int} (hc : cs.length ≤ 1100000) (hb : by'.length ≤ 1100000) : m_impl_groupsOk cs by' i t = some (rdyI cs by' i t) := by
  unfold m_impl_groupsOk m_impl_groupsOk_j1 rdyI; rw [E_impl_ColumnsOk (by omega), Option.bind_some]; cases colsOk cs with
  | false => rfl
  | true =>
    rw [cond_true, show decide ((by'.length : Int) ≤ 3) = decide (by'.length ≤ 3) from lenD by'.length 3, Bool.true_and]; cases decide (by'.length ≤ 3) with
    | false => rfl
    | true =>
      rw [cond_true, L_slices_ContainsFunc_Lint_int (q := fun n => !(inR cs.length n)) (by omega) (fun n hn => by
        unfold m_impl_groupsOk_1; rw [ckI_of (by omega) (by omega), Option.bind_some, E_between, Option.bind_some]; rfl), Option.bind_some, Bool.true_and]
      have e : takeOk cs.length by' = !(by'.any fun n => !(inR cs.length n)) := by unfold takeOk; rw [List.all_eq_not_any_not]
      rw [← e]; cases takeOk cs.length by' with
      | false => rfl
      | true =>
        rw [cond_true, ckI_of (by omega) (by omega), Option.bind_some, E_between, Option.bind_some, Bool.true_and, show (decide ((0 : Int) ≤ i) && decide (i ≤ (cs.length : Int) - 1)) = inR cs.length i from rfl]; cases hi : inR cs.length i with
        | false => rfl
        | true =>
          rw [cond_true, E_between, Option.bind_some, Bool.true_and]; cases (decide (1 ≤ t) && decide (t ≤ 4)) with
          | false => rfl
          | true =>
            rw [cond_true, getD_in (d := col0) hi, Option.bind_some, Bool.true_and]; cases (t != 2) <;> rfl
theorem E_spec_l10Ready {cs : List Col} {rows : Rows} {by' : List Int} {i t : Int} (hc : cs.length ≤ 1100000) (hb : by'.length ≤ 1100000) (hs : rsSm rows) : m_spec_l10Ready cs rows by' i t = some (decide (rdyI cs by' i t = true ∧ rows.length ≤ 100 ∧ rowsOk cs rows = true)) := by
  unfold m_spec_l10Ready; have hrc : rowsOk cs rows = true → colsOk cs = true := by unfold rowsOk; rw [Bool.and_eq_true]; exact fun h => h.1
  have e := scanA (p := fun n => !(inR cs.length n)) (r0 := false) (r1 := rowsOk cs rows && (decide (rows.length ≤ 100) && (decide (by'.length ≤ 3) && (inR cs.length i && ((decide (1 ≤ t) && decide (t ≤ 4)) && ((t != 2) || ((colAt cs i).Kind == 1))))))) by' (fun n k => m_spec_l10Ready_l1 n cs rows by' i t k) (fun n k x hx => by
    have := lt_of_at hx; rw [m_spec_l10Ready_l1, dlt this, cond_true, at_of hx, Option.bind_some, ckI_of (by omega) (by omega), Option.bind_some, E_l1In, Option.bind_some, ck1 (by omega), Option.bind_some]; rfl) (fun n => by
    rw [m_spec_l10Ready_l1, dnlt, cond_false]; unfold m_spec_l10Ready_j1 m_spec_l10Ready_j2; rw [E_spec_RowsOk (by omega) hs, Option.bind_some]; cases rowsOk cs rows with
    | false => rfl
    | true =>
      rw [cond_true, show decide ((rows.length : Int) ≤ 100) = decide (rows.length ≤ 100) from lenD rows.length 100, Bool.true_and]; cases decide (rows.length ≤ 100) with
      | false => rfl
      | true =>
        have e3 : decide ((by'.length : Int) < 4) = decide (by'.length ≤ 3) := by rw [decide_eq_decide]; omega
        rw [cond_true, e3, Bool.true_and]; cases decide (by'.length ≤ 3) with
        | false => rfl
        | true =>
          rw [cond_true, ckI_of (by omega) (by omega), Option.bind_some, E_l1In, Option.bind_some, Bool.true_and, show (decide ((0 : Int) ≤ i) && decide (i ≤ (cs.length : Int) - 1)) = inR cs.length i from rfl]; cases hi : inR cs.length i with
          | false => rfl
          | true =>
            rw [cond_true, E_l1In, Option.bind_some, Bool.true_and]; cases (decide (1 ≤ t) && decide (t ≤ 4)) with
            | false => rfl
            | true =>
              rw [cond_true, getD_in (d := col0) hi, Option.bind_some, Bool.true_and]; cases (t != 2) <;> rfl) _ fuel0
  rw [e]
  congr 1
  have e2 : takeOk cs.length by' = !(by'.any fun n => !(inR cs.length n)) := by unfold takeOk; rw [List.all_eq_not_any_not]
  unfold rdyI; rw [Bool.eq_iff_iff, decide_eq_true_eq, e2]; cases by'.any fun n => !(inR cs.length n) with
  | true => simp
  | false =>
    simp only [cond_false, Bool.and_eq_true, decide_eq_true_eq, Bool.not_false, true_and]; constructor
    · rintro ⟨h1, h2, h3, h4, h5, h6⟩
      exact ⟨⟨hrc h1, h3, h4, h5, h6⟩, h2, h1⟩
    · rintro ⟨⟨h1, h3, h4, h5, h6⟩, h2, h7⟩
      exact ⟨h7, h2, h3, h4, h5, h6⟩
theorem appN_1 {α : Type} (x : α) : appN? [x] = some [x] := by unfold appN?; rw [if_pos ⟨by simp, by simp⟩]
theorem E_impl_GroupRows {cs : List Col} {rows : Rows} {by' : List Int} {i t : Int} (hc : cs.length ≤ 1100000) (hb : by'.length ≤ 1100000) (hs : rsSm rows) : m_impl_GroupRows cs rows by' i t = some (groupG cs rows by' i t) := by
  unfold m_impl_GroupRows m_impl_GroupRows_j1 groupG; rw [E_impl_groupsOk hc hb, Option.bind_some]; cases h1 : rdyI cs by' i t with
  | false => rw [if_neg (by simp)]; rfl
  | true =>
    rw [Bool.not_true, cond_false]
    by_cases h2 : rows.length ≤ 100
    · rw [decide_eq_false (by omega), cond_false, E_impl_RowsOk (by omega) hs, Option.bind_some]
      cases h3 : rowsOk cs rows with
      | false => rw [if_neg (by simp)]; rfl
      | true =>
        rw [if_pos ⟨rfl, h2, rfl⟩, Bool.not_true, cond_false]; have hg := rdy_g ⟨h1, h2, h3⟩; obtain ⟨e1, e2⟩ := E_groups hg; rw [e1, Option.bind_some]
        have hlen : (gpsG by' i rows).length ≤ 100 := by
          unfold gpsG; rw [List.length_map]; have := onceR_len (rs := rows.map (gKey by')); rw [List.length_map] at this; omega
        have hby : ∀ g ∈ gpsG by' i rows, g.f_by.length ≤ 3 := by
          intro g hg'; obtain ⟨k, hk, rfl⟩ := List.mem_map.1 hg'; exact (hg.ks (onceR_mem.1 hk)).1
        have e := scanM (f := fun g : Gp => g.f_by ++ [knT g.known t]) (J := fun o => m_impl_GroupRows_j2 o) (gpsG by' i rows) (fun n k o => m_impl_GroupRows_l1 n t (gpsG by' i rows) ((gpsG by' i rows).length : Int) k o) (fun n k g o hx ho => by
          have hlt := lt_of_at hx; have hm := List.mem_of_getElem? hx; rw [m_impl_GroupRows_l1, dlt hlt, cond_true, at_of hx, Option.bind_some, ltE, E_impl_KnownTell (e2 g hm), Option.bind_some, appN_1, Option.bind_some, app_of (by have := hby g hm; simp; omega), Option.bind_some, app_of (by simp; omega), Option.bind_some, ck1 (by omega), Option.bind_some]) (fun n o ho => by rw [m_impl_GroupRows_l1, dnlt, cond_false]) _ fuel0
        rw [e]; unfold m_impl_GroupRows_j2
        rw [E_rowsCopy (by rw [List.length_map]; omega) (fun r hr => by
          obtain ⟨g, hg', rfl⟩ := List.mem_map.1 hr; have := hby g hg'; simp; omega)]
        unfold gpsG rowsG; rw [List.map_map]; rfl
    · rw [decide_eq_true (by omega), cond_true, if_neg (fun h => h2 h.2.1)]; rfl
theorem E_spec_GroupRows {cs : List Col} {rows : Rows} {by' : List Int} {i t : Int} (hc : cs.length ≤ 1100000) (hb : by'.length ≤ 1100000) (hs : rsSm rows) : m_spec_GroupRows cs rows by' i t = some (groupG cs rows by' i t) := by
  unfold m_spec_GroupRows groupG; rw [E_spec_l10Ready hc hb hs, Option.bind_some]
  by_cases h : rdyI cs by' i t = true ∧ rows.length ≤ 100 ∧ rowsOk cs rows = true
  · rw [decide_eq_true h, Bool.not_true, cond_false, if_pos h]
    have hg := rdy_g h; have h2 := hg.many
    have e := scanM (f := gKey by') (J := fun o => m_spec_GroupRows_j1 rows by' i t [] o) rows (fun n k o => m_spec_GroupRows_l1 n rows by' i t k [] o) (fun n k r o hx ho => by
      have hlt := lt_of_at hx; obtain ⟨r1, r2⟩ := hg.row r (List.mem_of_getElem? hx); have hbk := hg.bys; rw [← r1] at hbk; rw [m_spec_GroupRows_l1, dlt hlt, cond_true, at_of hx, Option.bind_some, E_l6Taken hbk (by omega), Option.bind_some, app_of (by simp; omega), Option.bind_some, ck1 (by omega), Option.bind_some]; rfl) (fun n o ho => by rw [m_spec_GroupRows_l1, dnlt, cond_false]) _ fuel0
    rw [e]; unfold m_spec_GroupRows_j1; have hks : rsSm (rows.map (gKey by')) := ⟨by rw [List.length_map]; omega, fun k hk => (hg.ks hk).2.2⟩; rw [E_spec_RowsOnce hks, Option.bind_some]
    have hlen : (onceR (rows.map (gKey by'))).length ≤ 100 := by
      have := onceR_len (rs := rows.map (gKey by')); rw [List.length_map] at this; omega
    have e2 := scanM (f := fun k : Row => k ++ [knT (knF by' i rows k) t]) (J := fun o => m_spec_GroupRows_j2 o) (onceR (rows.map (gKey by'))) (fun n k o => m_spec_GroupRows_l2 n rows by' i t k o (onceR (rows.map (gKey by')))) (fun n k g o hx ho => by
      have hlt := lt_of_at hx; have hk3 := (hg.ks (onceR_mem.1 (List.mem_of_getElem? hx))).1; obtain ⟨k1, k2⟩ := E_l10Known (key := g) hg; rw [m_spec_GroupRows_l2, dlt hlt, cond_true, at_of hx, Option.bind_some, Option.bind_some, E_l3Own (by omega), Option.bind_some, Option.bind_some, Option.bind_some, k1, Option.bind_some, E_spec_KnownTell k2, Option.bind_some, app_of (by simp; omega), Option.bind_some, app_of (by simp; omega), Option.bind_some, ck1 (by omega), Option.bind_some]) (fun n o ho => by rw [m_spec_GroupRows_l2, dnlt, cond_false]) _ fuel0
    rw [e2]; rfl
  · rw [decide_eq_false h, if_neg h]; rfl
theorem groupG_ok {cs : List Col} {rows : Rows} {by' : List Int} {i t : Int} : (groupG cs rows by' i t).length ≤ 100 ∧ ∀ r ∈ groupG cs rows by' i t, rowOk r = true := by
  unfold groupG
  split
  · rename_i h
    have hg := rdy_g h; have h2 := hg.many; unfold rowsG; refine ⟨?_, fun r hr => ?_⟩
    · rw [List.length_map]
      have := onceR_len (rs := rows.map (gKey by')); rw [List.length_map] at this; omega
    · obtain ⟨k, hk, rfl⟩ := List.mem_map.1 hr
      obtain ⟨k1, k2, _⟩ := hg.ks (onceR_mem.1 hk); refine rowOk_mk (by simp; omega) fun v hv => ?_; rcases List.mem_append.1 hv with hv | hv
      · exact k2 v hv
      · rw [List.mem_singleton.1 hv]; exact knT_ok _ _
  · exact ⟨by simp, by simp⟩
theorem D_Group {o : Rd} (ho : o.p = 0) : Tot (m_spec_l20Group o 9) fun r => r.1.length ≤ 6 ∧ rsDr 13 r.2.1 ∧ r.2.2.1.length ≤ 4 := by
  unfold m_spec_l20Group; refine Tot.bind (T_l20Columns (by omega) (by omega)) (fun c hc => ?_); obtain ⟨⟨c1, c2, c3⟩, c4⟩ := hc; refine Tot.bind (T_l20Bag (by omega) (by omega) (by omega)) (fun a ha => Tot.bind (T_l20Bag (by omega) (by omega) (by omega)) (fun b hb => Tot.app (by have := ha.1.1; have := hb.1.1; omega) (Tot.bind (T_pick (by omega)) (fun n hn => ?_)))); have hr : rsDr 12 (a.1 ++ b.1) := ⟨by have := ha.1.1; have := hb.1.1; rw [List.length_append]; omega, fun r hr => (List.mem_append.1 hr).elim (ha.1.2 r) (hb.1.2 r)⟩; generalize a.1 ++ b.1 = rows at hr ⊢
  have j2 : ∀ (x y : Int) (q : Rd) (R : Rows) (by' : List Int), rsDr 13 R → by'.length ≤ 4 → Tot (m_spec_l20Group_j2 c.1 x y q R by') fun r => r.1.length ≤ 6 ∧ rsDr 13 r.2.1 ∧ r.2.2.1.length ≤ 4 := by
    intro x y q R by' h1 h2
    unfold m_spec_l20Group_j2; exact Tot.ret ⟨c2, h1, h2⟩
  have hr13 : rsDr 13 rows := ⟨by have := hr.1; omega, hr.2⟩
  have j1 : ∀ (q : Rd) (by' : List Int), 0 ≤ q.p → q.p ≤ 100000 → by'.length ≤ 3 → Tot (m_spec_l20Group_j1 9 c.1 q rows by') fun r => r.1.length ≤ 6 ∧ rsDr 13 r.2.1 ∧ r.2.2.1.length ≤ 4 := by
    intro q by' h0 h1 h2
    unfold m_spec_l20Group_j1; refine Tot.bind (T_pick (by omega)) (fun i hi => Tot.bind (T_pick (by omega)) (fun t ht => Tot.ck (by omega) (by omega) (Tot.bind (T_odd (by omega) (by omega)) (fun w hw => Tot.bif (fun _ => ?_) (fun _ => j2 _ _ _ _ _ hr13 (by omega)))))); refine Tot.bind (T_pick (by omega)) (fun u hu => Tot.bif (fun _ => ?_) (fun _ => Tot.bif (fun _ => ?_) (fun _ => Tot.bif (fun _ => ?_) (fun _ => ?_))))
    · exact Tot.bind (T_pick (by omega)) (fun z hz => Tot.ck (by omega) (by omega) (Tot.app (by simp only [List.length_cons, List.length_nil]; omega) (j2 _ _ _ _ _ hr13 (by simp; omega))))
    · exact Tot.bind (T_pick (by omega)) (fun z hz => Tot.ck (by omega) (by omega) (j2 _ _ _ _ _ hr13 (by omega)))
    · exact Tot.bind (T_pick (by omega)) (fun z hz => j2 _ _ _ _ _ hr13 (by omega))
    · refine Tot.app (by have := hr.1; simp only [List.length_cons, List.length_nil]; omega) (j2 _ _ _ _ _ ⟨by have := hr.1; simp; omega, fun r hr' => ?_⟩ (by omega))
      rcases List.mem_append.1 hr' with h | h
      · exact hr.2 r h
      · rw [List.mem_singleton.1 h]; exact ⟨by simp, by simp⟩
  refine Tot.down (fun f t (s : Rd × List Int) => m_spec_l20Group_l1 f 9 c.1 t s.1 rows s.2) (fun t s => t ≤ n.1 ∧ 0 ≤ s.1.p ∧ s.1.p + t ≤ n.2.p + n.1 ∧ (s.2.length : Int) + t = n.1) (fun f s h => ?_) (fun f t s ht h ih => ?_) _ n.1 (n.2, []) (by omega) (by omega) ⟨by omega, by simp only; omega, by simp only; omega, by simp⟩
  · obtain ⟨h1, h2, h3, h4⟩ := h
    rw [m_spec_l20Group_l1, show decide ((0 : Int) > 0) = false from rfl, cond_false]; exact j1 _ _ (by omega) (by omega) (by omega)
  · obtain ⟨h1, h2, h3, h4⟩ := h
    rw [m_spec_l20Group_l1, decide_eq_true (show t > 0 by omega), cond_true]; exact Tot.bind (T_pick (by omega)) (fun z hz => Tot.app (by simp only [List.length_cons, List.length_nil]; omega) (Tot.ck (by omega) (by omega) (ih (z.2, s.2 ++ [z.1]) ⟨by omega, by simp only; omega, by simp only; omega, by simp; omega⟩)))
theorem T_DrawGroupRows {l : List UInt8} : Tot (m_spec_DrawGroupRows l) fun r => r.1.length ≤ 6 ∧ rsDr 13 r.2.1 ∧ r.2.2.1.length ≤ 4 := by
  unfold m_spec_DrawGroupRows; exact Tot.bind T_l20Open (fun o ho => Tot.bind (D_Group ho) (fun r hr => Tot.ret hr))
structure kInv (K : Int) (k : Kn) (m : Nat) : Prop where
  ok : knOk k = true
  many : k.Many = m
  least : m ≠ 0 → k.Least.Kind = K
  most : m ≠ 0 → k.Most.Kind = K
theorem knOk_0 : knOk kn0 = true := by decide
theorem kInv_0 (K : Int) : kInv K kn0 0 := ⟨knOk_0, rfl, fun h => absurd rfl h, fun h => absurd rfl h⟩
theorem kn_0 {k : Kn} (h : knOk k = true) (h0 : k.Many = 0) : k = kn0 := by
  unfold knOk at h; rw [if_pos h0] at h; exact of_decide_eq_true h
theorem kB_0 {k : Kn} (h : knOk k = true) : kB k kn0 = k := by
  unfold kB; rw [h, knOk_0, if_neg (by simp)]
  by_cases h0 : k.Many = 0
  · rw [if_pos h0, kn_0 h h0]
  · rw [if_neg h0, if_pos (show kn0.Many = 0 from rfl)]
theorem kOf_0 {v : V} (h : v.Kind = 0) : kOf v = kn0 := by unfold kOf; rw [if_neg (fun k => k.2 h)]
theorem kOf_1 {v : V} (hv : vOk v = true) (h : v.Kind ≠ 0) : kOf v = ⟨1, if v.Kind = 1 then v.N else 0, v, v⟩ := by unfold kOf; rw [if_pos ⟨hv, h⟩]
theorem kOf_ok {v : V} (hv : vOk v = true) (h : v.Kind ≠ 0) : knOk (kOf v) = true := by
  rw [kOf_1 hv h]; unfold knOk; rw [if_neg (show ¬ (1 : Int) = 0 by decide)]; simp only [hv, vOrd_self, Bool.true_and, Bool.and_eq_true, Bool.or_eq_true, decide_eq_true_eq, beq_iff_eq, bne_iff_ne]
  by_cases h1 : v.Kind = 1
  · have := vOk_1 hv h1
    rw [if_pos h1]; exact ⟨by omega, by omega, trivial, h, by omega, .inl h1⟩
  · rw [if_neg h1]
    exact ⟨by omega, by omega, trivial, h, by omega, .inr rfl⟩
theorem v_flip {a b : V} (h : ¬ vOrd a b < 0) : vOrd b a ≤ 0 := by have := TO_value.anti a b; omega
theorem kB_step {K : Int} {k : Kn} {m : Nat} {v : V} (hK : K ≠ 0) (h : kInv K k m) (hv : vOk v = true) (hk : v.Kind = K) (hm : m < 100) :
    kInv K (kB k (kOf v)) (m + 1) ∧ vOrd (kB k (kOf v)).Least v ≤ 0 ∧ vOrd v (kB k (kOf v)).Most ≤ 0 ∧ (m ≠ 0 → vOrd (kB k (kOf v)).Least k.Least ≤ 0 ∧ vOrd k.Most (kB k (kOf v)).Most ≤ 0) ∧
      (m ≠ 0 → vOrd k.Least v ≤ 0 → vOrd v k.Most ≤ 0 → (kB k (kOf v)).Least = k.Least ∧ (kB k (kOf v)).Most = k.Most) := by
  have h0 : v.Kind ≠ 0 := by omega
  have ho := kOf_ok hv h0; have e1 := kOf_1 hv h0; obtain ⟨h1, h2, h3, h4⟩ := h
  by_cases hz : m = 0
  · subst hz
    have e : kB k (kOf v) = kOf v := by
      unfold kB; rw [h1, ho, if_neg (by simp), if_pos (by omega)]
    rw [e]; refine ⟨⟨ho, by rw [e1]; rfl, fun _ => by rw [e1]; exact hk, fun _ => by rw [e1]; exact hk⟩, ?_, ?_, fun h => absurd rfl h, fun h => absurd rfl h⟩
    · rw [e1]; show vOrd v v ≤ 0; rw [vOrd_self]; decide
    · rw [e1]; show vOrd v v ≤ 0; rw [vOrd_self]; decide
  · have hm0 : ¬ k.Many = 0 := by omega
    have e : kB k (kOf v) = ⟨k.Many + 1, k.Sum + (if v.Kind = 1 then v.N else 0), if vOrd v k.Least < 0 then v else k.Least, if vOrd v k.Most > 0 then v else k.Most⟩ := by
      unfold kB; rw [h1, ho, if_neg (by simp), if_neg hm0, e1, if_neg (show ¬ (1 : Int) = 0 by decide), if_neg (show ¬ k.Least.Kind ≠ v.Kind by rw [h3 hz, hk]; simp), if_neg (show ¬ k.Many + 1 > 100 by omega)]
    have hok := h1; unfold knOk at hok; rw [if_neg hm0] at hok; simp only [Bool.and_eq_true, Bool.or_eq_true, decide_eq_true_eq, beq_iff_eq, bne_iff_ne] at hok; obtain ⟨g1, g2, g3, g4, g5, g6, g7, g8⟩ := hok; have hvv : vOrd v v = 0 := vOrd_self v
    have hL : vOk (if vOrd v k.Least < 0 then v else k.Least) = true ∧ (if vOrd v k.Least < 0 then v else k.Least).Kind = K ∧ vOrd (if vOrd v k.Least < 0 then v else k.Least) v ≤ 0 ∧ vOrd (if vOrd v k.Least < 0 then v else k.Least) k.Least ≤ 0 := by
      split
      · exact ⟨hv, hk, by omega, by omega⟩
      · rename_i hn; exact ⟨g3, h3 hz, v_flip hn, by rw [vOrd_self]; decide⟩
    have hM : vOk (if vOrd v k.Most > 0 then v else k.Most) = true ∧ (if vOrd v k.Most > 0 then v else k.Most).Kind = K ∧ vOrd v (if vOrd v k.Most > 0 then v else k.Most) ≤ 0 ∧ vOrd k.Most (if vOrd v k.Most > 0 then v else k.Most) ≤ 0 := by
      have ha := TO_value.anti v k.Most
      split
      · exact ⟨hv, hk, by omega, by omega⟩
      · exact ⟨g4, h4 hz, by omega, by rw [vOrd_self]; decide⟩
    rw [e]; refine ⟨⟨?_, by show k.Many + 1 = _; omega, fun _ => hL.2.1, fun _ => hM.2.1⟩, hL.2.2.1, hM.2.2.1, fun _ => ⟨hL.2.2.2, hM.2.2.2⟩, fun _ a1 a2 => ?_⟩
    · unfold knOk
      rw [if_neg (show ¬ k.Many + 1 = 0 by omega)]; simp only [Bool.and_eq_true, Bool.or_eq_true, decide_eq_true_eq, beq_iff_eq, bne_iff_ne]; refine ⟨by omega, ?_, hL.1, hM.1, by rw [hL.2.1, hM.2.1], by rw [hL.2.1]; exact hK, TO_value.le_trans hL.2.2.1 hM.2.2.1, ?_⟩
      · by_cases hq : v.Kind = 1
        · have := vOk_1 hv hq
          rw [if_pos hq]; omega
        · rw [if_neg hq]; omega
      · rw [hL.2.1]
        by_cases hq : K = 1
        · exact .inl hq
        · rw [if_neg (by rw [hk]; exact hq)]
          rcases g8 with g8 | g8
          · rw [h3 hz] at g8; exact absurd g8 hq
          · exact .inr (by omega)
    · have b1 := TO_value.anti v k.Least
      exact ⟨by show (if _ then _ else _ : V) = _; rw [if_neg (by omega)], by show (if _ then _ else _ : V) = _; rw [if_neg (by omega)]⟩
def kk (K : Int) (v : V) : Prop := vOk v = true ∧ (v.Kind = 0 ∨ v.Kind = K)
def hitB (by' : List Int) (i : Int) (key : Row) (r : Row) : Bool := decide (gKey by' r = key) && decide ((rowAt r i).Kind ≠ 0)
abbrev foldK (by' : List Int) (i : Int) (key : Row) (k : Kn) (rows : Rows) : Kn := rows.foldl (fun k r => if gKey by' r = key then kB k (kOf (rowAt r i)) else k) k
theorem fold_step {K : Int} {by' : List Int} {i : Int} {key r : Row} {k : Kn} {m : Nat} (h : kInv K k m) (hv : kk K (rowAt r i)) (hn : hitB by' i key r = false) : (if gKey by' r = key then kB k (kOf (rowAt r i)) else k) = k := by
  split
  · rename_i e
    unfold hitB at hn; rw [decide_eq_true e, Bool.true_and, decide_eq_false_iff_not] at hn; rw [kOf_0 (by simpa using hn), kB_0 h.ok]
  · rfl
theorem fold_inv {K : Int} {by' : List Int} {i : Int} {key : Row} (hK : K ≠ 0) : ∀ (rows : Rows) (k : Kn) (m : Nat), kInv K k m → (∀ r ∈ rows, kk K (rowAt r i)) → m + rows.length ≤ 100 →
    kInv K (foldK by' i key k rows) (m + rows.countP (hitB by' i key)) ∧
      (∀ r ∈ rows, hitB by' i key r = true → vOrd (foldK by' i key k rows).Least (rowAt r i) ≤ 0 ∧ vOrd (rowAt r i) (foldK by' i key k rows).Most ≤ 0) ∧
      (m ≠ 0 → vOrd (foldK by' i key k rows).Least k.Least ≤ 0 ∧ vOrd k.Most (foldK by' i key k rows).Most ≤ 0)
  | [], k, m, h, _, _ => ⟨h, by simp, fun _ => by show vOrd k.Least k.Least ≤ 0 ∧ vOrd k.Most k.Most ≤ 0; rw [vOrd_self, vOrd_self]; decide⟩
  | r :: rows, k, m, h, hv, hm => by
    rw [List.length_cons] at hm; have hvr := hv r (by simp); show kInv K (foldK by' i key (if gKey by' r = key then kB k (kOf (rowAt r i)) else k) rows) _ ∧ _ ∧ _; have e0 : foldK by' i key k (r :: rows) = foldK by' i key (if gKey by' r = key then kB k (kOf (rowAt r i)) else k) rows := rfl
    cases hh : hitB by' i key r with
    | false =>
      have e := fold_step h hvr hh; rw [e0, e, List.countP_cons_of_neg (by rw [hh]; simp)]; obtain ⟨i1, i2, i3⟩ := fold_inv hK rows k m h (fun x hx => hv x (by simp [hx])) (by omega); refine ⟨i1, fun x hx hxh => ?_, i3⟩; rcases List.mem_cons.1 hx with rfl | hx
      · rw [hh] at hxh; cases hxh
      · exact i2 x hx hxh
    | true =>
      have h2 := hh; unfold hitB at h2; rw [Bool.and_eq_true, decide_eq_true_eq, decide_eq_true_eq] at h2; have hkd : (rowAt r i).Kind = K := hvr.2.resolve_left h2.2; obtain ⟨s1, s2, s3, s4, s5⟩ := kB_step hK h hvr.1 hkd (by omega); rw [e0, if_pos h2.1, List.countP_cons_of_pos hh]; obtain ⟨i1, i2, i3⟩ := fold_inv hK rows _ (m + 1) s1 (fun x hx => hv x (by simp [hx])) (by omega); have i3' := i3 (by omega); refine ⟨by rw [show m + (rows.countP (hitB by' i key) + 1) = m + 1 + rows.countP (hitB by' i key) by omega]; exact i1, fun x hx hxh => ?_, fun hm0 => ⟨TO_value.le_trans i3'.1 (s4 hm0).1, TO_value.le_trans (s4 hm0).2 i3'.2⟩⟩; rcases List.mem_cons.1 hx with rfl | hx
      · exact ⟨TO_value.le_trans i3'.1 s2, TO_value.le_trans s3 i3'.2⟩
      · exact i2 x hx hxh
theorem fold_same {K : Int} {by' : List Int} {i : Int} {key : Row} (hK : K ≠ 0) : ∀ (rows : Rows) (k : Kn) (m : Nat), kInv K k m → (∀ r ∈ rows, kk K (rowAt r i)) → m + rows.length ≤ 100 →
    (∀ r ∈ rows, hitB by' i key r = true → m ≠ 0 ∧ vOrd k.Least (rowAt r i) ≤ 0 ∧ vOrd (rowAt r i) k.Most ≤ 0) →
    (foldK by' i key k rows).Least = k.Least ∧ (foldK by' i key k rows).Most = k.Most
  | [], k, m, h, _, _, _ => ⟨rfl, rfl⟩
  | r :: rows, k, m, h, hv, hm, hb => by
    rw [List.length_cons] at hm; have hvr := hv r (by simp); have e0 : foldK by' i key k (r :: rows) = foldK by' i key (if gKey by' r = key then kB k (kOf (rowAt r i)) else k) rows := rfl
    cases hh : hitB by' i key r with
    | false =>
      rw [e0, fold_step h hvr hh]; exact fold_same hK rows k m h (fun x hx => hv x (by simp [hx])) (by omega) (fun x hx => hb x (by simp [hx]))
    | true =>
      have h2 := hh; unfold hitB at h2; rw [Bool.and_eq_true, decide_eq_true_eq, decide_eq_true_eq] at h2; have hkd : (rowAt r i).Kind = K := hvr.2.resolve_left h2.2; obtain ⟨b1, b2, b3⟩ := hb r (by simp) hh; obtain ⟨s1, s2, s3, s4, s5⟩ := kB_step hK h hvr.1 hkd (by omega); obtain ⟨c1, c2⟩ := s5 b1 b2 b3; rw [e0, if_pos h2.1]
      obtain ⟨d1, d2⟩ := fold_same hK rows _ (m + 1) s1 (fun x hx => hv x (by simp [hx])) (by omega) (fun x hx hxh => by
        obtain ⟨g1, g2, g3⟩ := hb x (by simp [hx]) hxh; rw [c1, c2]; exact ⟨by omega, g2, g3⟩)
      exact ⟨d1.trans c1, d2.trans c2⟩
theorem knF_inv {K : Int} {by' : List Int} {i : Int} {rows : Rows} {key : Row} (hK : K ≠ 0) (hv : ∀ r ∈ rows, kk K (rowAt r i)) (hm : rows.length ≤ 100) : kInv K (knF by' i rows key) (rows.countP (hitB by' i key)) := by
  have := (fold_inv (by' := by') (key := key) hK rows kn0 0 (kInv_0 K) hv (by omega)).1; rw [Nat.zero_add] at this; exact this
theorem knF_twice {K : Int} {by' : List Int} {i : Int} {rows : Rows} {key : Row} (hK : K ≠ 0) (hv : ∀ r ∈ rows, kk K (rowAt r i)) (hm : rows.length ≤ 50) :
    (knF by' i (rows ++ rows) key).Least = (knF by' i rows key).Least ∧ (knF by' i (rows ++ rows) key).Most = (knF by' i rows key).Most := by
  obtain ⟨h1, h2, _⟩ := fold_inv (by' := by') (key := key) hK rows kn0 0 (kInv_0 K) hv (by omega); rw [Nat.zero_add] at h1; have hc : rows.countP (hitB by' i key) ≤ rows.length := List.countP_le_length; have e : knF by' i (rows ++ rows) key = foldK by' i key (knF by' i rows key) rows := by unfold knF; rw [List.foldl_append]
  rw [e]; refine fold_same hK rows _ _ h1 hv (by omega) fun r hr hh => ⟨?_, h2 r hr hh⟩; have : 0 < rows.countP (hitB by' i key) := List.countP_pos_iff.2 ⟨r, hr, hh⟩; omega
theorem sum_one {f : Row → Nat} {a : Row} {p : Bool} : ∀ {L : Rows}, L.Nodup → a ∈ L → (L.map fun k => f k + (if decide (a = k) && p then 1 else 0)).sum = (L.map f).sum + (if p then 1 else 0)
  | x :: L, hn, h => by
    rw [List.nodup_cons] at hn; rw [List.map_cons, List.sum_cons, List.map_cons, List.sum_cons]
    by_cases e : a = x
    · subst e
      have : (L.map fun k => f k + (if decide (a = k) && p then 1 else 0)) = L.map f := List.map_congr_left fun k hk => by
        have hne : ¬ a = k := fun e => hn.1 (by rw [e]; exact hk); rw [decide_eq_false hne, Bool.false_and, if_neg (by simp), Nat.add_zero]
      rw [this, decide_eq_true rfl, Bool.true_and]; omega
    · rw [sum_one hn.2 ((List.mem_cons.1 h).resolve_left e), decide_eq_false e, Bool.false_and, if_neg (by simp)]
      omega
theorem sum_hits {by' : List Int} {i : Int} {L : Rows} (hn : L.Nodup) : ∀ (rows : Rows), (∀ r ∈ rows, gKey by' r ∈ L) → (L.map fun k => rows.countP (hitB by' i k)).sum = rows.countP fun r => decide ((rowAt r i).Kind ≠ 0)
  | [], _ => by
    have : ∀ L : Rows, (L.map fun _ => (0 : Nat)).sum = 0 := by intro L; induction L with
      | nil => rfl
      | cons x L ih => rw [List.map_cons, List.sum_cons, ih]
    simpa using this L
  | r :: rows, h => by
    have ih := sum_hits (i := i) hn rows fun x hx => h x (by simp [hx]); rw [List.countP_cons, ← ih, ← sum_one (f := fun k => rows.countP (hitB by' i k)) (a := gKey by' r) (p := decide ((rowAt r i).Kind ≠ 0)) hn (h r (by simp))]
    congr 1
    refine List.map_congr_left fun k hk => ?_; rw [List.countP_cons]; unfold hitB; rfl
theorem once_all : ∀ (l out : Rows), (∀ x ∈ l, x ∈ out) → l.foldl (fun out r => if r ∈ out then out else out ++ [r]) out = out
  | [], out, _ => rfl
  | x :: l, out, h => by rw [List.foldl_cons, if_pos (h x (by simp))]; exact once_all l out fun y hy => h y (by simp [hy])
theorem onceR_twice {l : Rows} : onceR (l ++ l) = onceR l := by
  have := once_all l (onceR l) fun x hx => onceR_mem.2 hx; rw [← this]; unfold onceR; rw [List.foldl_append]
def lastG (cs : List Col) (i t : Int) : Col := if t = 1 then ⟨1, false⟩ else ⟨(colAt cs i).Kind, true⟩
def colsG (cs : List Col) (by' : List Int) (i t : Int) : List Col := by'.map (colAt cs) ++ [lastG cs i t]
theorem E_cloneCG {l : List Col} (h : l.length ≤ 900000000) : m_impl_clone_impl_Column l = some l := by
  unfold m_impl_clone_impl_Column appN?; cases l with
  | nil => rfl
  | cons x l =>
    have e : (((x :: l).length : Int) == 0) = false := by simp; omega
    rw [e, cond_false, if_pos ⟨by simp, by omega⟩, Option.bind_some]
    first | rfl | (rw [L_slices_Clip_Limpl_Column_impl_Column]; rfl)
theorem E_impl_GroupColumns {cs : List Col} {by' : List Int} {i t : Int} (hc : cs.length ≤ 1100000) (hb : by'.length ≤ 1100000) : m_impl_GroupColumns cs by' i t = some (if rdyI cs by' i t = true then colsG cs by' i t else []) := by
  unfold m_impl_GroupColumns; rw [E_impl_groupsOk hc hb, Option.bind_some]; cases h : rdyI cs by' i t with
  | false => rw [if_neg (by simp)]; rfl
  | true =>
    rw [if_pos rfl, Bool.not_true, cond_false]; unfold rdyI at h; simp only [Bool.and_eq_true, decide_eq_true_eq] at h; obtain ⟨_, h4, h5, h6, _⟩ := h
    have e := scanM (f := colAt cs) (J := fun o => m_impl_GroupColumns_j1 cs i t o) by' (fun n k o => m_impl_GroupColumns_l1 n cs i t by' (by'.length : Int) k o) (fun n k x o hx ho => by
      have hk := lt_of_at hx; have hi : inR cs.length x = true := by unfold takeOk at h5; exact List.all_eq_true.1 h5 x (List.mem_of_getElem? hx)
      rw [m_impl_GroupColumns_l1, dlt hk, cond_true, at_of hx, Option.bind_some, getD_in (d := col0) hi, Option.bind_some, app_of (by simp; omega), Option.bind_some, ck1 (by omega), Option.bind_some]; rfl) (fun n o ho => by rw [m_impl_GroupColumns_l1, dnlt, cond_false]) _ fuel0
    rw [e]; unfold m_impl_GroupColumns_j1 colsG lastG
    by_cases h1 : t = 1
    · rw [show (t == 1) = true by simp [h1], cond_true, app_of (by simp; omega), Option.bind_some, E_cloneCG (by simp; omega), Option.bind_some, if_pos h1]
    · rw [beqF h1, cond_false, getD_in (d := col0) h6, Option.bind_some, app_of (by simp; omega), Option.bind_some, E_cloneCG (by simp; omega), Option.bind_some, if_neg h1]; rfl
theorem fit_at {cs : List Col} {r : Row} {n : Int} (h : rowFits cs r = true) (hn : inR cs.length n = true) : vFit (rowAt r n) (colAt cs n) = true ∧ vOk (rowAt r n) = true := by
  unfold rowFits at h; simp only [Bool.and_eq_true, decide_eq_true_eq] at h; obtain ⟨_, h2, h3, h4⟩ := h; have hi := inR_of hn; have e1 : r[n.toNat]? = some (rowAt r n) := by unfold rowAt; rw [List.getD_eq_getElem?_getD, List.getElem?_eq_getElem (by omega)]; rfl
  have e2 : cs[n.toNat]? = some (colAt cs n) := by unfold colAt; rw [List.getD_eq_getElem?_getD, List.getElem?_eq_getElem (by omega)]; rfl
  exact ⟨all2_get h4 e1 e2, vOk_getD h2 (by omega)⟩
theorem kk_at {cs : List Col} {rows : Rows} {n : Int} (h : rowsOk cs rows = true) (hn : inR cs.length n = true) : ∀ r ∈ rows, kk (colAt cs n).Kind (rowAt r n) := by
  intro r hr; unfold rowsOk at h; rw [Bool.and_eq_true, List.all_eq_true] at h; obtain ⟨h1, h2⟩ := fit_at (h.2 r hr) hn; refine ⟨h2, ?_⟩; unfold vFit at h1; simp only [Bool.or_eq_true, Bool.and_eq_true, decide_eq_true_eq] at h1; rcases h1 with h1 | h1
  · exact .inr h1
  · exact .inl h1.1
theorem colAt_ok {cs : List Col} {n : Int} (h : colsOk cs = true) (hn : inR cs.length n = true) : colOk (colAt cs n) = true := by
  unfold colsOk at h; rw [Bool.and_eq_true, List.all_eq_true] at h; exact h.2 _ (getD_mem' hn)
theorem colOk_K {c : Col} (h : colOk c = true) : c.Kind ≠ 0 := by
  unfold colOk at h; simp only [Bool.and_eq_true, decide_eq_true_eq] at h; omega
theorem all2_snoc {f : Int → V} {g : Int → Col} {v : V} {c : Col} : ∀ {l : List Int}, (∀ n ∈ l, vFit (f n) (g n) = true) → vFit v c = true → all2 vFit (l.map f ++ [v]) (l.map g ++ [c]) = true
  | [], _, h => by simp [all2, h]
  | n :: l, h, hv => by
    have := all2_snoc (fun m hm => h m (by simp [hm])) hv (l := l); unfold all2 at this ⊢; simp only [List.map_cons, List.cons_append, List.zip_cons_cons, List.all_cons, h n (by simp), this, Bool.and_self]
theorem knT_fit {cs : List Col} {k : Kn} {m : Nat} {i t : Int} (hk : kInv (colAt cs i).Kind k m) (ht : 1 ≤ t ∧ t ≤ 4) (h2 : t = 2 → (colAt cs i).Kind = 1) : vFit (knT k t) (lastG cs i t) = true := by
  have h0 : k.Many = 0 → k.Least.Kind = 0 ∧ k.Most.Kind = 0 := fun h => by rw [kn_0 hk.ok h]; exact ⟨rfl, rfl⟩
  have hm := hk.many; unfold knT lastG vFit; rw [hk.ok, if_neg (by simp)]
  by_cases t1 : t = 1
  · rw [if_pos t1, if_pos t1]; rfl
  rw [if_neg t1, if_neg t1]
  by_cases t2 : t = 2
  · rw [if_pos t2]
    split
    · have := h2 t2
      simp [this]
    · simp [v0]
  rw [if_neg t2]
  by_cases t3 : t = 3
  · rw [if_pos t3]
    by_cases hz : m = 0
    · simp [(h0 (by omega)).1]
    · simp [hk.least hz]
  rw [if_neg t3, if_pos (by omega)]
  by_cases hz : m = 0
  · simp [(h0 (by omega)).2]
  · simp [hk.most hz]
theorem rowsG_fit {cs : List Col} {rows : Rows} {by' : List Int} {i t : Int} (h : rdyI cs by' i t = true ∧ rows.length ≤ 100 ∧ rowsOk cs rows = true) : rowsOk (colsG cs by' i t) (rowsG by' i rows t) = true := by
  have hg := rdy_g h; obtain ⟨h1, h2, h3⟩ := h; have h1' := h1; unfold rdyI at h1; simp only [Bool.and_eq_true, Bool.or_eq_true, decide_eq_true_eq, bne_iff_ne, beq_iff_eq] at h1; obtain ⟨c1, c2, c3, c4, c5, c6⟩ := h1; have hin : ∀ n ∈ by', inR cs.length n = true := by unfold takeOk at c3; exact fun n hn => List.all_eq_true.1 c3 n hn
  have hK := colOk_K (colAt_ok c1 c4)
  have hcs : colsOk (colsG cs by' i t) = true := by
    unfold colsG; refine colsOk_mk (by simp; omega) fun c hc => ?_; rcases List.mem_append.1 hc with hc | hc
    · obtain ⟨n, hn, rfl⟩ := List.mem_map.1 hc
      exact colAt_ok c1 (hin n hn)
    · rw [List.mem_singleton.1 hc]
      unfold lastG
      split
      · rfl
      · exact colAt_ok c1 c4
  unfold rowsOk; rw [hcs, Bool.true_and, List.all_eq_true]; intro x hx; have hxo := (groupG_ok (cs := cs) (rows := rows) (by' := by') (i := i) (t := t)).2 x (by unfold groupG; rw [if_pos ⟨h1', h2, h3⟩]; exact hx); unfold rowsG at hx; obtain ⟨k, hk, rfl⟩ := List.mem_map.1 hx; obtain ⟨r, hr, rfl⟩ := List.mem_map.1 (onceR_mem.1 hk); have hrf : rowFits cs r = true := by unfold rowsOk at h3; rw [Bool.and_eq_true, List.all_eq_true] at h3; exact h3.2 r hr
  unfold rowFits; rw [hcs, hxo, Bool.true_and, Bool.true_and, Bool.and_eq_true, decide_eq_true_eq]; refine ⟨by unfold colsG gKey; simp, ?_⟩; unfold colsG gKey; exact all2_snoc (fun n hn => (fit_at hrf (hin n hn)).1) (knT_fit (knF_inv hK (kk_at h3 c4) h2) c5 (fun e => c6.resolve_left (fun h => h e)))
theorem rowsG_twice {cs : List Col} {rows : Rows} {by' : List Int} {i t : Int} (h : rdyI cs by' i t = true ∧ rows.length ≤ 100 ∧ rowsOk cs rows = true) (hl : rows.length ≤ 50) (h1 : t ≠ 1) (h2 : t ≠ 2) : groupG cs (rows ++ rows) by' i t = rowsG by' i rows t := by
  obtain ⟨r1, r2, r3⟩ := h
  have r3' : rowsOk cs (rows ++ rows) = true := by
    unfold rowsOk at r3 ⊢; rw [Bool.and_eq_true] at r3 ⊢; exact ⟨r3.1, by rw [List.all_append, r3.2]; rfl⟩
  have r1' := r1; unfold rdyI at r1; simp only [Bool.and_eq_true, Bool.or_eq_true, decide_eq_true_eq] at r1; obtain ⟨c1, c2, c3, c4, c5, c6⟩ := r1; have hK := colOk_K (colAt_ok c1 c4); unfold groupG; rw [if_pos ⟨r1', by rw [List.length_append]; omega, r3'⟩]; unfold rowsG; rw [List.map_append, onceR_twice]; refine List.map_congr_left fun k hk => ?_
  congr 1
  obtain ⟨e1, e2⟩ := knF_twice (by' := by') (key := k) hK (kk_at r3 c4) hl; have o1 := (knF_inv (by' := by') (key := k) hK (kk_at r3 c4) (by omega)).ok; have o2 := (knF_inv (by' := by') (key := k) hK (kk_at r3' c4) (by rw [List.length_append]; omega)).ok; unfold knT; simp [o1, o2, h1, h2, e1, e2]
theorem fold_pair {by' : List Int} {i : Int} : ∀ (rows : Rows) (a : Int) (b : Rows), rows.foldl (fun (s : Int × Rows) r => (s.1 + (if (rowAt r i).Kind ≠ 0 then 1 else 0), s.2 ++ [gKey by' r])) (a, b) = (a + ((rows.countP fun r => decide ((rowAt r i).Kind ≠ 0) : Nat) : Int), b ++ rows.map (gKey by'))
  | [], a, b => by simp
  | r :: rows, a, b => by
    rw [List.foldl_cons, fold_pair rows, List.countP_cons, List.map_cons]
    by_cases h : (rowAt r i).Kind ≠ 0
    · rw [if_pos h, if_pos (decide_eq_true h)]
      simp; omega
    · rw [if_neg h, if_neg (by simpa using h)]
      simp
theorem fold_less {n : Nat} {h : Row → Row} {c : Row → Nat} : ∀ (L : Rows) (s : Int), (∀ k ∈ L, ((h k).getD n v0).N = c k) → (L.map h).foldl (fun (s : Int) x => s - (x.getD n v0).N) s = s - ((L.map c).sum : Nat)
  | [], s, _ => by simp
  | k :: L, s, hk => by
    rw [List.map_cons, List.foldl_cons, fold_less L _ fun x hx => hk x (by simp [hx]), hk k (by simp), List.map_cons, List.sum_cons]; omega
theorem E_GR_l2 {k1 : List Col → Rows → List Int → Int → Int → Rows → List Col → Int → Int → Rows → Option Bool} {cs d : List Col} {rows G o : Rows} {by' : List Int} {i t t11 : Int} {k : Nat} {r : Row} (hx : rows[k]? = some r) (hb : takeOk r.length by' = true) (hl : by'.length ≤ 3) :
    m_laws_FnGroupRows_l2 k1 (((by'.length : Int) - 0).toNat + 1) cs rows by' i t G d t11 (k : Int) 0 o [] = m_laws_FnGroupRows_j3 k1 cs rows by' i t G d t11 k o (gKey by' r) :=
  scanM (f := rowAt r) (J := fun q => m_laws_FnGroupRows_j3 k1 cs rows by' i t G d t11 k o q) by' (fun n j q => m_laws_FnGroupRows_l2 k1 n cs rows by' i t G d t11 (k : Int) j o q) (fun n j x q hj hq => by
    have hk := lt_of_at hj; have hi : inR r.length x = true := by unfold takeOk at hb; exact List.all_eq_true.1 hb x (List.mem_of_getElem? hj)
    rw [m_laws_FnGroupRows_l2, dlt hk, cond_true, at_of hx, Option.bind_some, at_of hj, Option.bind_some, getD_in (d := v0) hi, Option.bind_some, app_of (by simp; omega), Option.bind_some, ck1 (by omega), Option.bind_some]; rfl) (fun n q hq => by rw [m_laws_FnGroupRows_l2, dnlt, cond_false]) _ fuel0
theorem pure_FnGroupRows (l : List UInt8) : m_laws_FnGroupRows l = some true := by
  unfold m_laws_FnGroupRows; cases hlen : decide ((l.length : Int) > 1048576)
  case true => rw [cond_true]
  rw [cond_false]; obtain ⟨⟨cs, rows, by', i, t⟩, hdr, hc, hr, hb⟩ := T_DrawGroupRows (l := l); simp only at hc hr hb; rw [hdr, Option.bind_some]; simp only; have hs : rsSm rows := rsDr_sm hr (by decide); have hrl := hr.1; have eI := E_impl_GroupRows (cs := cs) (rows := rows) (by' := by') (i := i) (t := t) (by omega) (by omega) hs; have hGr := groupG_ok (cs := cs) (rows := rows) (by' := by') (i := i) (t := t); have hGs : ∀ r ∈ groupG cs rows by' i t, r.length ≤ 900000000 := fun r hr => by have := (rowOk_bb (hGr.2 r hr)).1; omega
  rw [eI, Option.bind_some, E_spec_GroupRows (by omega) (by omega) hs, Option.bind_some, E_sameRows (by omega) hGs, Option.bind_some, decide_eq_true rfl, Bool.not_true, cond_false, E_impl_GroupColumns (by omega) (by omega), Option.bind_some, E_impl_RowsOk (by omega) hs, Option.bind_some]
  have hz : ∀ G : Rows, G = [] → m_laws_FnGroupRows_j1 cs rows by' i t G (if rdyI cs by' i t = true then colsG cs by' i t else []) true = some true := by
    intro G e; subst e; unfold m_laws_FnGroupRows_j1; rw [cond_true, show (((([] : Rows).length : Nat) : Int) == 0) = true from rfl, cond_true, E_alive]; rfl
  cases h1 : rdyI cs by' i t with
  | false =>
    rw [if_neg (by simp), show (((([] : List Col).length : Nat) : Int) == 0) = true from rfl, cond_true]; have := hz (groupG cs rows by' i t) (by unfold groupG; rw [if_neg (by rw [h1]; simp)]); rw [h1, if_neg (by simp)] at this; exact this
  | true =>
    rw [if_pos rfl]; rw [beqF (show ¬ ((colsG cs by' i t).length : Int) = 0 by unfold colsG; simp; omega), cond_false]; cases h3 : rowsOk cs rows with
    | false =>
      have := hz (groupG cs rows by' i t) (by unfold groupG; rw [if_neg (by rw [h3]; simp)]); rw [h1, if_pos rfl] at this; rw [Bool.not_false]; exact this
    | true =>
      have hrd : rdyI cs by' i t = true ∧ rows.length ≤ 100 ∧ rowsOk cs rows = true := ⟨h1, by omega, h3⟩
      have hg := rdy_g hrd; have hG : groupG cs rows by' i t = rowsG by' i rows t := by unfold groupG; rw [if_pos hrd]
      rw [hG] at hGr hGs ⊢; have h1' := h1; unfold rdyI at h1'; simp only [Bool.and_eq_true, Bool.or_eq_true, decide_eq_true_eq] at h1'; obtain ⟨c1, c2, c3, c4, c5, c6⟩ := h1'; have hK := colOk_K (colAt_ok c1 c4); have hb3 := hg.len; rw [Bool.not_true]; unfold m_laws_FnGroupRows_j1; rw [cond_false]; generalize hd : colsG cs by' i t = d
      have hdO : rowsOk d (rowsG by' i rows t) = true := by rw [← hd]; exact rowsG_fit hrd
      have hdl : d.length ≤ 4 := by rw [← hd]; unfold colsG; simp; omega
      generalize hGG : rowsG by' i rows t = G at *
      have hh := scanF (f := fun (s : Int × Rows) r => (s.1 + (if (rowAt r i).Kind ≠ 0 then 1 else 0), s.2 ++ [gKey by' r])) (J := fun s => m_laws_FnGroupRows_j5 cs rows by' i t G d s.1 s.2) (fun k s => (0 ≤ s.1 ∧ s.1 ≤ k) ∧ s.2.length = k) rows (fun n k s => m_laws_FnGroupRows_l1 n cs rows by' i t G d s.1 k s.2) (fun n k r s hx hI => by
        have hlt := lt_of_at hx; obtain ⟨⟨I1, I2⟩, I3⟩ := hI; obtain ⟨r1, r2⟩ := hg.row r (List.mem_of_getElem? hx); have hb' := c3; have hi' := c4; rw [← r1] at hb' hi'; rw [m_laws_FnGroupRows_l1, dlt hlt, cond_true, E_GR_l2 hx hb' hb3]; unfold m_laws_FnGroupRows_j3 m_laws_FnGroupRows_j4; rw [app_of (by simp; omega), Option.bind_some, at_of hx, Option.bind_some, getD_in (d := v0) hi', Option.bind_some, ck1 (by omega), Option.bind_some, ckI_of (by omega) (by omega), Option.bind_some, Option.bind_some, show r.getD i.toNat v0 = rowAt r i from rfl]
        by_cases hk : (rowAt r i).Kind = 0
        · rw [show ((rowAt r i).Kind != 0) = false by simp [hk], cond_false, if_neg (by simpa using hk), Int.add_zero]
          exact ⟨rfl, ⟨by simp only; omega, by simp only; omega⟩, by simp; omega⟩
        · rw [beqF' hk, cond_true, if_pos hk]
          exact ⟨rfl, ⟨by simp only; omega, by simp only; omega⟩, by simp; omega⟩) (fun n s _ => by rw [m_laws_FnGroupRows_l1, dnlt, cond_false]) _ fuel0 (0, []) ⟨by simp, by simp⟩
      rw [show m_laws_FnGroupRows_l1 (((rows.length : Int) - 0).toNat + 1) cs rows by' i t G d 0 0 [] = _ from hh.1, fold_pair, List.nil_append, Int.zero_add]; unfold m_laws_FnGroupRows_j5
      have hrd1 : rdyI cs by' i 1 = true ∧ rows.length ≤ 100 ∧ rowsOk cs rows = true := by
        refine ⟨?_, by omega, h3⟩; unfold rdyI; rw [c1, decide_eq_true c2, c3, c4]; rfl
      rw [E_impl_GroupRows (by omega) (by omega) hs, Option.bind_some]; have hG1 : groupG cs rows by' i 1 = rowsG by' i rows 1 := by unfold groupG; rw [if_pos hrd1]
      rw [hG1]; have hknf : ∀ k, kInv (colAt cs i).Kind (knF by' i rows k) (rows.countP (hitB by' i k)) := fun k => knF_inv hK (kk_at h3 c4) (by omega)
      have hkey : ∀ k ∈ onceR (rows.map (gKey by')), k.length = by'.length := by
        intro k hk; obtain ⟨r, hr, rfl⟩ := List.mem_map.1 (onceR_mem.1 hk); unfold gKey; rw [List.length_map]
      have hM : ∀ k ∈ onceR (rows.map (gKey by')), ((k ++ [knT (knF by' i rows k) 1]).getD by'.length v0) = ⟨1, (rows.countP (hitB by' i k) : Nat), ⟨#[]⟩⟩ := by
        intro k hk; have e : (k ++ [knT (knF by' i rows k) 1])[by'.length]? = some (knT (knF by' i rows k) 1) := by rw [← hkey k hk]; simp
        rw [List.getD_eq_getElem?_getD, e]; show knT _ 1 = _; unfold knT; rw [(hknf k).ok, if_neg (by simp), if_pos rfl, (hknf k).many]
      have hlM : (rowsG by' i rows 1).length ≤ 100 := by
        have := (groupG_ok (cs := cs) (rows := rows) (by' := by') (i := i) (t := 1)).1
        rwa [hG1] at this
      have hcl : (rows.countP fun r => decide ((rowAt r i).Kind ≠ 0)) ≤ rows.length := List.countP_le_length
      have hh3 := scanF (f := fun (s : Int) x => s - (x.getD by'.length v0).N) (J := fun s => m_laws_FnGroupRows_j6 cs rows by' i t G d s (rows.map (gKey by'))) (fun k s => -(100 * (k : Int)) ≤ s ∧ s ≤ 100) (rowsG by' i rows 1) (fun n k s => m_laws_FnGroupRows_l3 n cs rows by' i t G d s (rowsG by' i rows 1) k (rows.map (gKey by'))) (fun n k x s hx hI => by
        have hlt := lt_of_at hx; obtain ⟨q, hq, rfl⟩ := List.mem_map.1 (List.mem_of_getElem? hx); have hql := hkey q hq; have hcq : rows.countP (hitB by' i q) ≤ rows.length := List.countP_le_length; have hat : at? (q ++ [knT (knF by' i rows q) 1]) (by'.length : Int) = some ((q ++ [knT (knF by' i rows q) 1]).getD by'.length v0) := at_of (by rw [List.getD_eq_getElem?_getD, List.getElem?_eq_getElem (by simp; omega)]; rfl); rw [m_laws_FnGroupRows_l3, dlt hlt, cond_true, at_of hx, Option.bind_some, ckI_of (by omega) (by omega), Option.bind_some, Option.bind_some, hat, Option.bind_some, hM q hq, ck1 (by omega)]; have e1 : (((q ++ [knT (knF by' i rows q) 1]).length : Int) != (by'.length : Int) + 1) = false := by simp [hql]
        have hn : ckI (s - ((rows.countP (hitB by' i q) : Nat) : Int)) = some (s - ((rows.countP (hitB by' i q) : Nat) : Int)) := ckI_of (by omega) (by omega); rw [e1, cond_false, hn, Option.bind_some, Option.bind_some]; have eN : ((q ++ [knT (knF by' i rows q) 1]).getD by'.length v0).N = ((rows.countP (hitB by' i q) : Nat) : Int) := by rw [hM q hq]
        exact ⟨rfl, by first | (simp only; omega) | (have := eN; omega), by first | (simp only; omega) | (have := eN; omega)⟩) (fun n s _ => by rw [m_laws_FnGroupRows_l3, dnlt, cond_false]) _ fuel0 ((rows.countP fun r => decide ((rowAt r i).Kind ≠ 0) : Nat) : Int) ⟨by omega, by omega⟩
      rw [show m_laws_FnGroupRows_l3 ((((rowsG by' i rows 1).length : Int) - 0).toNat + 1) cs rows by' i t G d ((rows.countP fun r => decide ((rowAt r i).Kind ≠ 0) : Nat) : Int) (rowsG by' i rows 1) 0 (rows.map (gKey by')) = _ from hh3.1]
      have e0 : (rowsG by' i rows 1).foldl (fun (s : Int) x => s - (x.getD by'.length v0).N) ((rows.countP fun r => decide ((rowAt r i).Kind ≠ 0) : Nat) : Int) = 0 := by
        unfold rowsG; rw [fold_less (c := fun k => rows.countP (hitB by' i k)) _ _ (fun k hk => by rw [hM k hk]), sum_hits onceR_ndG rows fun r hr => onceR_mem.2 (List.mem_map.2 ⟨r, hr, rfl⟩)]; omega
      rw [e0]; have hks : rsSm (rows.map (gKey by')) := ⟨by rw [List.length_map]; omega, fun k hk => (hg.ks hk).2.2⟩
      have j7 : m_laws_FnGroupRows_j7 G d 0 true (rows.map (gKey by')) = some true := by
        unfold m_laws_FnGroupRows_j7 m_laws_FnGroupRows_j8; have el : G.length = (onceR (rows.map (gKey by'))).length := by rw [← hGG]; unfold rowsG; rw [List.length_map]
        have hGsm : rsSm G := ⟨by omega, fun r hr => by
          have := rowOk_bb (hGr.2 r hr); exact ⟨by omega, fun v hv => vOk_sm (this.2 v hv)⟩⟩
        rw [E_impl_RowsOnce hks, Option.bind_some, show ((G.length : Int) == ((onceR (rows.map (gKey by'))).length : Int)) = true by rw [el]; simp, cond_true, show ((0 : Int) == 0) = true from rfl, cond_true, cond_true, E_impl_RowsOk (by omega) hGsm, Option.bind_some, hdO, cond_true, E_alive]; rfl
      unfold m_laws_FnGroupRows_j6; have hrr : rsSm (rows ++ rows) := ⟨by rw [List.length_append]; omega, fun r hr => (List.mem_append.1 hr).elim (hs.2 r) (hs.2 r)⟩; rw [E_joined (by omega) (by omega), Option.bind_some, E_impl_GroupRows (by omega) (by omega) hrr, Option.bind_some]
      by_cases t1 : t = 1
      · rw [show (t == 1) = true by simp [t1], cond_true]; exact j7
      rw [beqF t1, cond_false]
      by_cases t2 : t = 2
      · rw [show (t == 2) = true by simp [t2], cond_true]; exact j7
      rw [beqF t2, cond_false, rowsG_twice hrd (by omega) t1 t2, hGG, E_sameRows (by omega) hGs, Option.bind_some, decide_eq_true rfl]; exact j7
end Go.Proofs.Ytbaldobhhpigbaa
