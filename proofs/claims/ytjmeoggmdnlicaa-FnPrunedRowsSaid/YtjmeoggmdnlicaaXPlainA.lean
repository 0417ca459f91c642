/- What the mirrors come to, in plain Lean: the law itself at the end. -/
import Derived.Test.YtjmeoggmdnlicaaXW5
import Derived.Test.YtjmeoggmdnlicaaLd
set_option linter.unusedVariables false
set_option linter.unusedSimpArgs false
set_option linter.unnecessarySimpa false
namespace Go.Proofs.Ytjmeoggmdnlicaa
open Go.Proofs Go.Lift
abbrev V := S_impl_Value
abbrev Row := List V
abbrev Rows := List Row
def cmpI (a b : Int) : Int := if a < b then -1 else if b < a then 1 else 0
def cmpS (a b : ByteArray) : Int := if sLt a b then -1 else if sLt a b || sEq a b then 0 else 1
def orI (l : List Int) : Int := (l.find? (· != 0)).getD 0
def lower (l : List UInt8) : Bool := l.all fun b => decide (97 ≤ b.toNat) && decide (b.toNat ≤ 122)
def vOk (v : V) : Bool :=
  if v.Kind = 0 then decide (v = ⟨0, 0, ⟨#[]⟩⟩)
  else if v.Kind = 1 then decide (v.S = ⟨#[]⟩) && (decide (-9999 ≤ v.N) && decide (v.N ≤ 9999))
  else if v.Kind = 2 then decide (v.N = 0) && decide (v.S.size ≤ 6) && lower v.S.data.toList
  else if v.Kind = 3 then decide (v.S = ⟨#[]⟩) && (decide (0 ≤ v.N) && decide (v.N ≤ 1))
  else false
def vOrd (v w : V) : Int := orI [cmpI v.Kind w.Kind, cmpI v.N w.N, cmpS v.S w.S]
def rowMany (rs : Rows) (r : Row) : Nat := rs.countP fun x => decide (x = r)
def rowOk (l : Row) : Bool := decide (l.length ≤ 4) && l.all vOk
def vSm (v : V) : Prop := v.S.size ≤ 1100000
def rSm (l : Row) : Prop := l.length ≤ 1100000 ∧ ∀ v ∈ l, vSm v
def rsSm (l : Rows) : Prop := l.length ≤ 400000000 ∧ ∀ r ∈ l, rSm r
def cmpL {α : Type} (p : α → α → Int) : List α → List α → Int
  | [], [] => 0
  | [], _ :: _ => -1
  | _ :: _, [] => 1
  | a :: x, b :: y => if p a b = 0 then cmpL p x y else p a b
def vvOrd (a b : V) : Int := if vOk a && vOk b then vOrd a b else 0
theorem E_Equal {a b : Row} (ha : a.length ≤ 900000000) : m_slices_Equal_Limpl_Value_impl_Value a b = some (decide (a = b)) := by
  unfold m_slices_Equal_Limpl_Value_impl_Value
  by_cases h : a.length = b.length
  · have hc : ((a.length : Int) != (b.length : Int)) = false := by simp [h]
    rw [hc, cond_false, ← all2_eq h]; refine scan2 a b h (fun n k => m_slices_Equal_Limpl_Value_impl_Value_l1 n a b (a.length : Int) k) (fun n k x y hx hy => ?_) (fun n => ?_) _ (by omega)
    · have := lt_of_at hx
      simp only [m_slices_Equal_Limpl_Value_impl_Value_l1, dlt this, at_of hx, at_of hy, ck1 (show k < 1000000000000 by omega), Option.bind_some, cond_true]; cases decide (x = y) <;> rfl
    · simp only [m_slices_Equal_Limpl_Value_impl_Value_l1, dnlt]; rfl
  · have hc : ((a.length : Int) != (b.length : Int)) = true := by simp; omega
    rw [hc, cond_true]; have : a ≠ b := fun e => h (by rw [e]); simp [this]
theorem E_sameRow {a b : Row} (ha : a.length ≤ 900000000) : m_laws_sameRow a b = some (decide (a = b)) := by
  unfold m_laws_sameRow
  by_cases h : a.length = b.length
  · have hc : ((a.length : Int) != (b.length : Int)) = false := by simp [h]
    rw [hc, cond_false, ← all2_eq h]; refine scan2 a b h (fun n k => m_laws_sameRow_l1 n a b k) (fun n k x y hx hy => ?_) (fun n => ?_) _ (by omega)
    · have := lt_of_at hx
      simp only [m_laws_sameRow_l1, dlt this, at_of hx, at_of hy, ck1 (show k < 1000000000000 by omega), Option.bind_some, cond_true]; cases decide (x = y) <;> rfl
    · simp only [m_laws_sameRow_l1, dnlt]; rfl
  · have hc : ((a.length : Int) != (b.length : Int)) = true := by simp; omega
    rw [hc, cond_true]; have : a ≠ b := fun e => h (by rw [e]); simp [this]
theorem E_sameRows {a b : Rows} (ha : a.length ≤ 900000000) (hr : ∀ r ∈ a, r.length ≤ 900000000) : m_laws_sameRows a b = some (decide (a = b)) := by
  unfold m_laws_sameRows
  by_cases h : a.length = b.length
  · have hc : ((a.length : Int) != (b.length : Int)) = false := by simp [h]
    rw [hc, cond_false, ← all2_eq h]; refine scan2 a b h (fun n k => m_laws_sameRows_l1 n a b k) (fun n k x y hx hy => ?_) (fun n => ?_) _ (by omega)
    · have := lt_of_at hx
      simp only [m_laws_sameRows_l1, dlt this, at_of hx, at_of hy, ck1 (show k < 1000000000000 by omega), Option.bind_some, cond_true, E_sameRow (hr x (List.mem_of_getElem? hx))]; cases decide (x = y) <;> rfl
    · simp only [m_laws_sameRows_l1, dnlt]; rfl
  · have hc : ((a.length : Int) != (b.length : Int)) = true := by simp; omega
    rw [hc, cond_true]; have : a ≠ b := fun e => h (by rw [e]); simp [this]
theorem E_impl_RowMany {rs : Rows} {r : Row} (h : rs.length ≤ 900000000) (hr : ∀ x ∈ rs, x.length ≤ 900000000) : m_impl_RowMany rs r = some (rowMany rs r : Int) := by
  unfold m_impl_RowMany rowMany; refine scanN (p := fun x => decide (x = r)) (J := fun s => some s) rs (fun n k s => m_impl_RowMany_l1 n r s rs (rs.length : Int) k) (fun n k x s hx h0 h1 => ?_) (fun n s => ?_) _ (by omega)
  · have := lt_of_at hx
    rw [m_impl_RowMany_l1, dlt this, cond_true, at_of hx, Option.bind_some, E_Equal (hr x (List.mem_of_getElem? hx)), Option.bind_some]; simp only [m_impl_RowMany_j1]; rw [ckI_of (by omega) (by omega), ck1 (show k < 1000000000000 by omega)]; cases decide (x = r) <;> rfl
  · simp only [m_impl_RowMany_l1, dnlt]; rfl
theorem E_IndexFunc_V {l : Row} {p : V → Option Bool} {q : V → Bool} (hl : l.length ≤ 900000000) (hp : ∀ v ∈ l, p v = some (q v)) : m_slices_ContainsFunc_Limpl_Value_impl_Value l p = some (l.any q) := by
  unfold m_slices_ContainsFunc_Limpl_Value_impl_Value m_slices_IndexFunc_Limpl_Value_impl_Value
  have key : ∀ (ys : Row) (k n : Nat), l.drop k = ys → k ≤ l.length → ys.length < n → ∃ i : Int, m_slices_IndexFunc_Limpl_Value_impl_Value_l1 p n l (l.length : Int) (k : Int) = some i ∧ decide (i ≥ 0) = ys.any q := by
    intro ys
    induction ys with
    | nil =>
      intro k n hd hk hn
      have : k = l.length := by
        have := congrArg List.length hd; simp at this; omega
      subst this; obtain ⟨m, rfl⟩ : ∃ m, n = m + 1 := ⟨n - 1, by simp at hn; omega⟩; exact ⟨-1, by simp only [m_slices_IndexFunc_Limpl_Value_impl_Value_l1, dnlt]; rfl, rfl⟩
    | cons y ys ih =>
      intro k n hd hk hn
      have hlt : k < l.length := by
        have := congrArg List.length hd; simp at this; omega
      have hc := List.drop_eq_getElem_cons hlt; rw [hd] at hc; simp only [List.cons.injEq] at hc; have hx : l[k]? = some y := by rw [List.getElem?_eq_getElem hlt, hc.1]
      obtain ⟨m, rfl⟩ : ∃ m, n = m + 1 := ⟨n - 1, by simp at hn; omega⟩; simp only [m_slices_IndexFunc_Limpl_Value_impl_Value_l1, dlt hlt, at_of hx, hp y (List.mem_of_getElem? hx), ck1 (show k < 1000000000000 by omega), Option.bind_some, cond_true]; cases hq : q y
      · obtain ⟨i, h1, h2⟩ := ih (k + 1) m hc.2.symm (by omega) (by simp at hn; omega)
        exact ⟨i, by simpa using h1, by rw [h2]; simp [hq]⟩
      · exact ⟨(k : Int), rfl, by simp [hq]⟩
  obtain ⟨i, h1, h2⟩ := key l 0 _ rfl (by omega) (show l.length < (((l.length : Int) - 0).toNat + 1) by omega); rw [show ((0 : Nat) : Int) = 0 from rfl] at h1; rw [h1]; simp only [Option.bind_some, h2]
theorem E_between (a b c : Int) : m_impl_between a b c = some (decide (b ≤ a) && decide (a ≤ c)) := by
  unfold m_impl_between m_impl_between_j1
  by_cases h : a ≥ b <;> simp [h]
theorem E_l1In (a b c : Int) : m_spec_l1In a b c = some (decide (b ≤ a) && decide (a ≤ c)) := by
  unfold m_spec_l1In m_spec_l1In_j1
  by_cases h : a ≥ b <;> simp [h]
theorem lower_any (l : List UInt8) : lower l = !(l.any fun b => !(decide (97 ≤ (b.toNat : Int)) && decide ((b.toNat : Int) ≤ 122))) := by
  unfold lower; rw [List.all_eq_not_any_not]
  congr 2
  funext b
  congr 1
  have h1 : decide (97 ≤ b.toNat) = decide (97 ≤ (b.toNat : Int)) := by rw [decide_eq_decide]; omega
  have h2 : decide (b.toNat ≤ 122) = decide ((b.toNat : Int) ≤ 122) := by rw [decide_eq_decide]; omega
  rw [h1, h2]
theorem E_letters {s : ByteArray} (h : s.size ≤ 900000000) : m_impl_letters s = some (lower s.data.toList) := by
  unfold m_impl_letters sBytes?; rw [if_pos (by omega)]; simp only [Option.bind_some]; have hl : s.data.toList.length ≤ 900000000 := h
  have := scanA (p := fun b : UInt8 => !(decide (97 ≤ (b.toNat : Int)) && decide ((b.toNat : Int) ≤ 122))) (r0 := false) (r1 := true) s.data.toList (fun n k => m_impl_letters_l1 n s.data.toList (s.data.toList.length : Int) k) (fun n k x hx => by
    have := lt_of_at hx; simp only [m_impl_letters_l1, dlt this, at_of hx, E_between, ck1 (show k < 1000000000000 by omega), Option.bind_some, cond_true]) (fun n => by simp only [m_impl_letters_l1, dnlt]; rfl) _ fuel0
  rw [this, lower_any]; cases s.data.toList.any fun b => !(decide (97 ≤ (b.toNat : Int)) && decide ((b.toNat : Int) ≤ 122)) <;> rfl
theorem sAt_of {s : ByteArray} {k : Nat} {x : UInt8} (h : s.data.toList[k]? = some x) : sAt? s (k : Int) = some x := by
  unfold sAt?; rw [if_pos (by omega)]; obtain ⟨h1, h2⟩ := List.getElem?_eq_some_iff.1 h; have hs : k < s.size := by have := h1; rwa [Array.length_toList] at this
  have : s[k]? = some (s[k]'hs) := by simp [hs]
  rw [Int.toNat_natCast, this]
  congr 1
theorem E_l1Text {s : ByteArray} (h : s.size ≤ 900000000) : m_spec_l1Text s = some (lower s.data.toList && decide (s.size ≤ 6)) := by
  unfold m_spec_l1Text; have hl : s.data.toList.length = s.size := rfl; rw [← hl]
  have := scanA (p := fun b : UInt8 => !(decide (97 ≤ (b.toNat : Int)) && decide ((b.toNat : Int) ≤ 122))) (r0 := false) (r1 := decide ((s.size : Int) ≤ 6)) s.data.toList (fun n k => m_spec_l1Text_l1 n s k) (fun n k x hx => by
    have := lt_of_at hx; have hd : decide ((k : Int) < (s.size : Int)) = true := by rw [← hl]; exact dlt this
    simp only [m_spec_l1Text_l1, m_spec_l1Text_j1, hd, sAt_of hx, ck1 (show k < 1000000000000 by omega), Option.bind_some, cond_true]; have e1 : ((97 : UInt8).toNat : Int) = 97 := rfl; have e2 : ((122 : UInt8).toNat : Int) = 122 := rfl; rw [e1, e2]
    by_cases h1 : (x.toNat : Int) < 97
    · have : ¬ (97 ≤ (x.toNat : Int)) := by omega
      simp [h1, this]
    · have h1' : 97 ≤ (x.toNat : Int) := by omega
      by_cases h2 : (x.toNat : Int) > 122
      · have : ¬ ((x.toNat : Int) ≤ 122) := by omega
        simp [h1, h2, this]
      · have : (x.toNat : Int) ≤ 122 := by omega
        simp [h1, h2, this, h1']) (fun n => by simp only [m_spec_l1Text_l1, hl, dnlt]; rfl) _ fuel0
  rw [this, lower_any]; have e : decide ((s.size : Int) ≤ 6) = decide (s.size ≤ 6) := by rw [decide_eq_decide]; omega
  rw [e]; cases s.data.toList.any fun b => !(decide (97 ≤ (b.toNat : Int)) && decide ((b.toNat : Int) ≤ 122)) <;> simp
theorem E_Value_ok {v : V} (h : v.S.size ≤ 900000000) : m_impl_Value_ok v = some (vOk v) := by
  unfold m_impl_Value_ok m_impl_Value_ok_j1 m_impl_Value_ok_j2 m_impl_Value_ok_j3 vOk; simp only [E_between, E_letters h, Option.bind_some, sEq_eq]
  by_cases h0 : v.Kind = 0
  · simp [h0]
  · by_cases h1 : v.Kind = 1
    · by_cases hs : v.S = ⟨#[]⟩ <;> simp [beqF h0, h0, h1, hs]
    · by_cases h2 : v.Kind = 2
      · by_cases hn : v.N = 0
        · by_cases hs : v.S.size ≤ 6
          · have : (v.S.size : Int) ≤ 6 := by omega
            simp [beqF h0, beqF h1, h0, h1, h2, hn, hs, this]
          · have : ¬ (v.S.size : Int) ≤ 6 := by omega
            simp [beqF h0, beqF h1, h0, h1, h2, hn, hs, this]
        · simp [beqF h0, beqF h1, h0, h1, h2, beqF hn, hn]
      · by_cases h3 : v.Kind = 3
        · by_cases hs : v.S = ⟨#[]⟩ <;> simp [beqF h0, beqF h1, beqF h2, h0, h1, h2, h3, hs]
        · simp [beqF h0, beqF h1, beqF h2, beqF h3, h0, h1, h2, h3]
theorem E_spec_ValueOk {v : V} (h : v.S.size ≤ 900000000) : m_spec_ValueOk v = some (vOk v) := by
  unfold m_spec_ValueOk m_spec_ValueOk_j1 m_spec_ValueOk_j2 m_spec_ValueOk_j3 m_spec_ValueOk_j4 vOk; simp only [E_l1In, E_l1Text h, Option.bind_some, sEq_eq]; obtain ⟨k, n, s⟩ := v; simp only [S_impl_Value.mk.injEq]
  by_cases h0 : k = 0
  · by_cases hn : n = 0
    · simp [h0, hn]
    · simp [h0, hn, beqF hn]
  · by_cases h1 : k = 1
    · by_cases hs : s = ⟨#[]⟩ <;> by_cases ha : -9999 ≤ n <;> by_cases hb : n ≤ 9999 <;> simp [beqF h0, h0, h1, hs, ha, hb]
    · by_cases h2 : k = 2
      · by_cases hn : n = 0
        · simp [beqF h0, beqF h1, h0, h1, h2, hn, Bool.and_comm]
        · simp [beqF h0, beqF h1, h0, h1, h2, beqF hn, hn]
      · by_cases h3 : k = 3
        · by_cases hs : s = ⟨#[]⟩ <;> by_cases ha : 0 ≤ n <;> by_cases hb : n ≤ 1 <;> simp [beqF h0, beqF h1, beqF h2, h0, h1, h2, h3, hs, ha, hb]
        · simp [beqF h0, beqF h1, beqF h2, beqF h3, h0, h1, h2, h3]
theorem E_impl_RowOk {l : Row} (h : rSm l) : m_impl_RowOk l = some (rowOk l) := by
  unfold m_impl_RowOk m_impl_RowOk_j1 rowOk; obtain ⟨h1, h2⟩ := h; rw [E_IndexFunc_V (q := fun v => !(vOk v)) (by omega) (fun v hv => by unfold m_impl_RowOk_1; rw [E_Value_ok (by have := h2 v hv; unfold vSm at this; omega)]; rfl)]; simp only [Option.bind_some]; rw [List.all_eq_not_any_not]
  by_cases h : l.length ≤ 4
  · have : (l.length : Int) ≤ 4 := by omega
    simp [h, this]
  · have : ¬ (l.length : Int) ≤ 4 := by omega
    simp [h, this]
theorem E_spec_RowOk {l : Row} (h : rSm l) : m_spec_RowOk l = some (rowOk l) := by
  unfold m_spec_RowOk rowOk; obtain ⟨h1, h2⟩ := h
  have := scanA (p := fun v => !(vOk v)) (r0 := false) (r1 := decide ((l.length : Int) ≤ 4)) l (fun n k => m_spec_RowOk_l1 n l k) (fun n k x hx => by
    have := lt_of_at hx; have hsm := h2 x (List.mem_of_getElem? hx); unfold vSm at hsm; simp only [m_spec_RowOk_l1, dlt this, at_of hx, E_spec_ValueOk (show x.S.size ≤ 900000000 by omega), ck1 (show k < 1000000000000 by omega), Option.bind_some, cond_true]) (fun n => by simp only [m_spec_RowOk_l1, dnlt]; rfl) _ fuel0
  rw [this, List.all_eq_not_any_not]; have e : decide ((l.length : Int) ≤ 4) = decide (l.length ≤ 4) := by rw [decide_eq_decide]; omega
  rw [e]; cases l.any fun v => !(vOk v) <;> simp
theorem E_alive : m_laws_alive = some true := by
  unfold m_laws_alive m_laws_alive_j1 m_impl_ValueOk; rw [E_Value_ok (by decide), E_Value_ok (by decide)]; rfl
theorem E_Concat2 {a b : Rows} (ha : a.length ≤ 400000000) (hb : b.length ≤ 400000000) : m_slices_Concat_LLimpl_Value_Limpl_Value [a, b] = some (a ++ b) := by
  unfold m_slices_Concat_LLimpl_Value_Limpl_Value; rw [show ((([a, b] : List Rows).length : Int) - 0).toNat + 1 = 2 + 1 from rfl, show (([a, b] : List Rows).length : Int) = 2 from rfl]; have a0 : at? [a, b] 0 = some a := rfl; have a1 : at? [a, b] 1 = some b := rfl; have k1 : ckI (0 + 1) = some 1 := rfl; have k2 : ckI (1 + 1) = some 2 := rfl; have d0 : decide ((0 : Int) < 2) = true := rfl; have d1 : decide ((1 : Int) < 2) = true := rfl; have d2 : decide ((2 : Int) < 2) = false := rfl; rw [m_slices_Concat_LLimpl_Value_Limpl_Value_l1, d0, cond_true, a0, Option.bind_some, ckI_of (by omega) (by omega), Option.bind_some]; rw [show decide (0 + (a.length : Int) < 0) = false by rw [decide_eq_false_iff_not]; omega, cond_false, k1, Option.bind_some]; rw [m_slices_Concat_LLimpl_Value_Limpl_Value_l1, d1, cond_true, a1, Option.bind_some, ckI_of (by omega) (by omega), Option.bind_some]; rw [show decide (0 + (a.length : Int) + (b.length : Int) < 0) = false by rw [decide_eq_false_iff_not]; omega, cond_false, k2, Option.bind_some]; rw [m_slices_Concat_LLimpl_Value_Limpl_Value_l1, d2, cond_false]; unfold m_slices_Concat_LLimpl_Value_Limpl_Value_j1 m_slices_Grow_LLimpl_Value_Limpl_Value; rw [if_pos (by omega), Option.bind_some, show ((([a, b] : List Rows).length : Int) - 0).toNat + 1 = 2 + 1 from rfl, show (([a, b] : List Rows).length : Int) = 2 from rfl]; rw [m_slices_Concat_LLimpl_Value_Limpl_Value_l2, d0, cond_true, a0, Option.bind_some, app_of (by simp; omega), Option.bind_some, k1, Option.bind_some]; rw [m_slices_Concat_LLimpl_Value_Limpl_Value_l2, d1, cond_true, a1, Option.bind_some, app_of (by simp; omega), Option.bind_some, k2, Option.bind_some]; rw [m_slices_Concat_LLimpl_Value_Limpl_Value_l2, d2, cond_false]; rfl
theorem E_impl_SameBag {a b : Rows} (ha : rsSm a) (hb : rsSm b) : m_impl_SameBag a b = some ((a ++ b).all fun r => decide (rowMany a r = rowMany b r)) := by
  unfold m_impl_SameBag; obtain ⟨ha1, ha2⟩ := ha; obtain ⟨hb1, hb2⟩ := hb; rw [E_Concat2 (by omega) (by omega), Option.bind_some]; have hl : (a ++ b).length ≤ 900000000 := by simp; omega
  have := scanA (p := fun r => !(decide (rowMany a r = rowMany b r))) (r0 := false) (r1 := true) (a ++ b) (fun n k => m_impl_SameBag_l1 n a b (a ++ b) ((a ++ b).length : Int) k) (fun n k x hx => by
    have := lt_of_at hx; rw [m_impl_SameBag_l1, dlt this, cond_true, at_of hx, Option.bind_some, E_impl_RowMany (by omega) (fun x hx => by have := (ha2 x hx).1; omega), Option.bind_some, E_impl_RowMany (by omega) (fun x hx => by have := (hb2 x hx).1; omega), Option.bind_some, ck1 (show k < 1000000000000 by omega), Option.bind_some]
    congr 1
    rw [Bool.eq_iff_iff]; simp; omega) (fun n => by rw [m_impl_SameBag_l1, dnlt]; rfl) _ fuel0
  rw [this, List.all_eq_not_any_not]; cases (a ++ b).any fun r => !(decide (rowMany a r = rowMany b r)) <;> rfl
theorem E_CompareI (a b : Int) : m_cmp_Compare_int a b = some (cmpI a b) := by
  unfold m_cmp_Compare_int m_cmp_isNaN_int cmpI; have e : ∀ x : Int, (x != x) = false := fun x => by simp
  simp only [e, Option.bind_some, cond_false]
  by_cases h : a < b
  · simp [h]
  · by_cases h2 : a > b
    · simp [h, h2]
    · simp [h, h2]
theorem E_CompareS (a b : ByteArray) : m_cmp_Compare_string a b = some (cmpS a b) := by
  unfold m_cmp_Compare_string m_cmp_isNaN_string cmpS; have e : ∀ x : ByteArray, (!(sEq x x)) = false := fun x => by simp [sEq_eq]
  simp only [e, Option.bind_some, cond_false]; cases h1 : sLt a b <;> cases h2 : sEq a b <;> simp
theorem E_l1Cmp (a b : ByteArray) : m_spec_l1Cmp a b = some (cmpS a b) := by
  unfold m_spec_l1Cmp cmpS; cases h1 : sLt a b <;> cases h2 : sEq a b <;> simp
theorem E_Or {l : List Int} (h : l.length ≤ 900000000) : m_cmp_Or_int l = some (orI l) := by
  unfold m_cmp_Or_int
  rw [scanC l (fun n k (_ : Unit) => m_cmp_Or_int_l1 n 0 l (l.length : Int) k) (fun x s k => bif (x != 0) then some x else k s) (fun _ => some 0) (fun n k x s hx => by
    have := lt_of_at hx; rw [m_cmp_Or_int_l1, dlt this, cond_true, at_of hx, Option.bind_some, ck1 (show k < 1000000000000 by omega), Option.bind_some]) (fun n s => by rw [m_cmp_Or_int_l1, dnlt]; rfl) _ fuel0 ()]
  clear h; unfold orI
  induction l with
  | nil => rfl
  | cons x l ih =>
    simp only [foldC, List.find?_cons]; cases hx : (x != 0)
    · simpa using ih
    · rfl
theorem E_order (v w : V) : m_impl_Value_order v w = some (vOrd v w) := by
  unfold m_impl_Value_order vOrd; rw [E_CompareI, Option.bind_some, E_CompareI, Option.bind_some, E_CompareS, Option.bind_some, E_Or (by simp)]; rfl
def lessI (a b : Int) : Int := if a < b then 1 else 0
theorem E_Less (a b : Int) : m_spec_l1Less a b = some (lessI a b) := by
  unfold m_spec_l1Less lessI
  by_cases h : a < b <;> simp [h]
theorem less_b (a b : Int) : 0 ≤ lessI a b ∧ lessI a b ≤ 1 := by unfold lessI; split <;> omega
theorem orI_1 {x : Int} {l : List Int} (h : x ≠ 0) : orI (x :: l) = x := by simp [orI, h]
theorem orI_0 {l : List Int} : orI (0 :: l) = orI l := by simp [orI]
theorem cmpI_0 {a b : Int} : cmpI a b = 0 ↔ a = b := by unfold cmpI; split <;> (try split) <;> omega
theorem less_cmp {a b : Int} (h : a ≠ b) : 2 * lessI b a - 1 = cmpI a b := by unfold lessI cmpI; split <;> split <;> (try split) <;> omega
theorem E_ValueOrder {a b : V} (ha : vSm a) (hb : vSm b) : m_spec_ValueOrder a b = some (vvOrd a b) := by
  unfold m_spec_ValueOrder m_spec_ValueOrder_j1 vvOrd vOrd; unfold vSm at ha hb; rw [E_spec_ValueOk (by omega), Option.bind_some, E_spec_ValueOk (by omega), Option.bind_some]; cases vOk a
  · rfl
  cases vOk b
  · rfl
  simp only [Bool.not_true, cond_false, Bool.and_self, if_true, E_Less, E_l1Cmp, Option.bind_some]
  by_cases h1 : a.Kind = b.Kind
  · have : (a.Kind != b.Kind) = false := by simp [h1]
    rw [this, cond_false, cmpI_0.2 h1, orI_0]
    by_cases h2 : a.N = b.N
    · have : (a.N != b.N) = false := by simp [h2]
      rw [this, cond_false, cmpI_0.2 h2, orI_0]
      by_cases h3 : cmpS a.S b.S = 0
      · rw [h3, orI_0]; rfl
      · rw [orI_1 h3]
    · rw [beqF' h2, cond_true, orI_1 (by rw [ne_eq, cmpI_0]; exact h2), ← less_cmp h2]
      have := less_b b.N a.N; rw [ckI_of (by omega) (by omega), Option.bind_some, ckI_of (by omega) (by omega), Option.bind_some]
  · rw [beqF' h1, cond_true, orI_1 (by rw [ne_eq, cmpI_0]; exact h1), ← less_cmp h1]
    have := less_b b.Kind a.Kind; rw [ckI_of (by omega) (by omega), Option.bind_some, ckI_of (by omega) (by omega), Option.bind_some]
theorem E_clone {l : Row} (h : l.length ≤ 900000000) : m_impl_clone_impl_Value l = some l := by
  unfold m_impl_clone_impl_Value appN?; cases l with
  | nil => rfl
  | cons x l =>
    have e : (((x :: l).length : Int) == 0) = false := by simp; omega
    rw [e, cond_false, if_pos ⟨by simp, by omega⟩, Option.bind_some]; rfl
theorem foldl_snoc {α : Type} : ∀ (l a : List α), l.foldl (fun s x => s ++ [x]) a = a ++ l
  | [], a => by simp
  | x :: l, a => by rw [List.foldl_cons, foldl_snoc l]; simp
theorem E_rowsCopy {l : Rows} (h : l.length ≤ 900000000) (hr : ∀ r ∈ l, r.length ≤ 900000000) : m_impl_rowsCopy l = some l := by
  unfold m_impl_rowsCopy
  have := (scanF (f := fun (s : Rows) x => s ++ [x]) (J := fun s => some s) (fun k s => s.length = k) l (fun n k s => m_impl_rowsCopy_l1 n l (l.length : Int) k s) (fun n k x s hx hI => by
    have := lt_of_at hx; rw [m_impl_rowsCopy_l1, dlt this, cond_true, at_of hx, Option.bind_some, E_clone (hr x (List.mem_of_getElem? hx)), Option.bind_some, app_of (by simp; omega), Option.bind_some, ck1 (show k < 1000000000000 by omega), Option.bind_some]
    exact ⟨rfl, by simp [hI]⟩) (fun n s _ => by
      rw [m_impl_rowsCopy_l1, dnlt, cond_false]; unfold m_impl_rowsCopy_j1; rfl) _ fuel0 [] rfl).1
  rw [this, foldl_snoc]; rfl
theorem E_l3Own {l : Row} (h : l.length ≤ 900000000) : m_spec_l3Own l = some l := by
  unfold m_spec_l3Own; rw [app_of (by simp; omega)]; rfl
abbrev Rd := S_spec_l20Rd
theorem tmod_b {m n : Int} (h : 0 ≤ m) (hn : 0 < n) : 0 ≤ m.tmod n ∧ m.tmod n < n := ⟨Int.tmod_nonneg n h, Int.tmod_lt_of_pos m hn⟩
theorem tdiv_b {m n : Int} (h : 0 ≤ m) (hn : 0 < n) : 0 ≤ m.tdiv n ∧ m.tdiv n ≤ m := ⟨Int.tdiv_nonneg h (Int.le_of_lt hn), Int.tdiv_le_self _ h⟩
theorem T_pick {o : Rd} {n : Int} (ho : 0 ≤ o.p ∧ o.p ≤ 1000000000) : Tot (m_Pspec_l20Rd_pick o n) fun r => 0 ≤ r.1 ∧ (r.1 < n ∨ r.1 = 0) ∧ r.2.p = o.p + 1 := by
  unfold m_Pspec_l20Rd_pick; refine Tot.ck (by omega) (by omega) (Tot.lt ?_); refine Tot.bif (fun h => ?_) (fun h => ?_)
  · unfold m_Pspec_l20Rd_pick_j1
    exact Tot.ret ⟨Int.le_refl _, .inr rfl, rfl⟩
  · simp only [decide_eq_false_iff_not] at h
    unfold m_Pspec_l20Rd_pick_j1; refine Tot.bif (fun h2 => Tot.ret ⟨Int.le_refl _, .inr rfl, rfl⟩) (fun h2 => ?_); have hb : 0 < (o.b.length : Int) := by simp at h2; have := List.length_pos_iff.2 h2; omega
    refine Tot.ck (by simp only; omega) (by simp only; omega) ?_; have e : (o.p + 1 - 1) = o.p := by omega
    simp only [e]; refine Tot.bif (fun h3 => ?_) (fun h3 => ?_)
    · simp only [decide_eq_true_eq] at h3
      refine Tot.at (by omega) h3 (fun x _ => ?_); refine Tot.rem (by omega) (Tot.ret ?_); have := tmod_b (m := (x.toNat : Int)) (n := n) (by omega) (by omega); exact ⟨this.1, .inl this.2, rfl⟩
    · have m1 := tmod_b (m := o.p) (n := o.b.length) (by omega) hb
      refine Tot.rem (by omega) (Tot.at m1.1 m1.2 (fun x _ => ?_)); have hx := x.toNat_lt; refine Tot.ck (by omega) (by omega) (Tot.ck (by omega) (by omega) (Tot.ck (by omega) (by omega) ?_)); have m2 := tmod_b (m := o.p * 7 + 3) (n := o.b.length) (by omega) hb; refine Tot.rem (by omega) (Tot.at m2.1 m2.2 (fun y _ => ?_)); have hy := y.toNat_lt; refine Tot.ck (by omega) (by omega) (Tot.ck (by omega) (by omega) (Tot.ck (by omega) (by omega) (Tot.ck (by omega) (by omega) ?_))); have d1 := tdiv_b (m := o.p) (n := o.b.length) (by omega) hb; refine Tot.quo (by omega) (by omega) (by omega) (Tot.ck (by omega) (by omega) (Tot.ck (by omega) (by omega) ?_)); have hz : 0 ≤ (x.toNat : Int) * 131 + (y.toNat : Int) * 1117 + o.p * 29 + o.p.tdiv o.b.length * 53 ∧ (x.toNat : Int) * 131 + (y.toNat : Int) * 1117 + o.p * 29 + o.p.tdiv o.b.length * 53 < 1000000000000 := by omega
      generalize (x.toNat : Int) * 131 + (y.toNat : Int) * 1117 + o.p * 29 + o.p.tdiv o.b.length * 53 = z at hz ⊢; have d2 := tdiv_b (m := z) (n := 64) (by omega) (by omega); refine Tot.quo (by omega) (by omega) (by omega) (Tot.xor (by omega) (fun u h4 h5 => Tot.rem (by omega) (Tot.ret ?_))); have := tmod_b (m := u) (n := n) (by omega) (by omega); exact ⟨this.1, .inl this.2, rfl⟩
theorem T_odd {o : Rd} {n : Int} (ho : 0 ≤ o.p ∧ o.p ≤ 1000000000) (hn : -900000000 ≤ n ∧ n ≤ 900000000) : Tot (m_Pspec_l20Rd_odd o n) fun r => o.p ≤ r.2.p ∧ r.2.p ≤ o.p + 1 := by
  unfold m_Pspec_l20Rd_odd m_Pspec_l20Rd_odd_j1; refine Tot.bif (fun h => ?_) (fun h => Tot.ret ⟨Int.le_refl _, by simp only; omega⟩); refine Tot.bind (T_pick ho) (fun r hr => ?_); exact Tot.ck (by omega) (by omega) (Tot.ret ⟨by simp only; omega, by simp only; omega⟩)
theorem T_l20Open {l : List UInt8} : Tot (m_spec_l20Open l) fun r => r.p = 0 := by
  unfold m_spec_l20Open m_spec_l20Open_j1; refine Tot.bif (fun h => ?_) (fun _ => Tot.ret rfl); simp only [gt_iff_lt, decide_eq_true_eq] at h; exact Tot.cut (by omega) (Tot.ret rfl)
structure TO {α : Type} (p : α → α → Int) : Prop where
  eq0 : ∀ a b, p a b = 0 ↔ a = b
  anti : ∀ a b, p a b < 0 ↔ 0 < p b a
  trans : ∀ a b c, p a b < 0 → p b c < 0 → p a c < 0
theorem TO.comap {α β : Type} {p : β → β → Int} (h : TO p) (f : α → β) (hf : ∀ a b, f a = f b → a = b) : TO fun a b => p (f a) (f b) where
  eq0 a b := ⟨fun e => hf a b ((h.eq0 _ _).1 e), fun e => (h.eq0 _ _).2 (by rw [e])⟩
  anti a b := h.anti _ _
  trans a b c := h.trans _ _ _
theorem TO.total {α : Type} {p : α → α → Int} (h : TO p) (a b : α) : 0 < p a b ↔ p b a < 0 := (h.anti b a).symm
def lx (x y : Int) : Int := if x = 0 then y else x
theorem TO_int : TO cmpI where
  eq0 a b := by unfold cmpI; split <;> (try split) <;> omega
  anti a b := by unfold cmpI; split <;> split <;> (try split) <;> (try split) <;> omega
  trans a b c := by unfold cmpI; split <;> split <;> (try split) <;> (try split) <;> (try split) <;> omega
def cmpB : List UInt8 → List UInt8 → Int
  | [], [] => 0
  | [], _ :: _ => -1
  | _ :: _, [] => 1
  | a :: x, b :: y => lx (cmpI a.toNat b.toNat) (cmpB x y)
theorem cmpB_less : ∀ a b : List UInt8, (if Op.bytesLess a b then (-1 : Int) else if Op.bytesLess a b || a == b then 0 else 1) = cmpB a b
  | [], [] => rfl
  | [], _ :: _ => rfl
  | _ :: _, [] => rfl
  | a :: x, b :: y => by
    have ih := cmpB_less x y; simp only [cmpB, ← ih]; unfold lx cmpI; simp only [Op.bytesLess]; rcases Nat.lt_trichotomy a.toNat b.toNat with h | h | h
    · have h' : a < b := UInt8.lt_iff_toNat_lt.2 h
      have h2 : (a.toNat : Int) < b.toNat := by omega
      simp [h', h2]
    · have h' : a = b := UInt8.toNat_inj.1 h
      subst h'; simp
    · have h' : ¬ a < b := fun e => by have := UInt8.lt_iff_toNat_lt.1 e; omega
      have h2 : ¬ (a.toNat : Int) < b.toNat := by omega
      have h3 : (b.toNat : Int) < a.toNat := by omega
      have h4 : ¬ a = b := fun e => by rw [e] at h; omega
      simp [h', h2, h3, h4]
theorem TO_list {α : Type} {p : α → α → Int} (h : TO p) : TO (cmpL p) where
  eq0 := by
    intro a
    induction a with
    | nil => intro b; cases b <;> simp [cmpL]
    | cons x a ih =>
      intro b; cases b with
      | nil => simp [cmpL]
      | cons y b =>
        simp only [cmpL]
        split
        · rename_i e; rw [ih b, List.cons.injEq]; exact ⟨fun e2 => ⟨(h.eq0 _ _).1 e, e2⟩, fun e2 => e2.2⟩
        · rename_i e; rw [List.cons.injEq]; exact ⟨fun e2 => absurd e2 e, fun e2 => absurd ((h.eq0 _ _).2 e2.1) e⟩
  anti := by
    intro a
    induction a with
    | nil => intro b; cases b <;> simp [cmpL]
    | cons x a ih =>
      intro b; cases b with
      | nil => simp [cmpL]
      | cons y b =>
        simp only [cmpL]
        by_cases e : x = y
        · rw [if_pos ((h.eq0 _ _).2 e), if_pos ((h.eq0 _ _).2 e.symm)]; exact ih b
        · rw [if_neg (fun g => e ((h.eq0 _ _).1 g)), if_neg (fun g => e ((h.eq0 _ _).1 g).symm)]; exact h.anti x y
  trans := by
    intro a
    induction a with
    | nil => intro b c; cases b <;> cases c <;> simp [cmpL]
    | cons x a ih =>
      intro b c; cases b with
      | nil => simp [cmpL]
      | cons y b =>
        cases c with
        | nil => simp [cmpL]
        | cons z c =>
          simp only [cmpL]
          by_cases e1 : x = y
          · rw [if_pos ((h.eq0 _ _).2 e1), e1]
            by_cases e2 : y = z
            · rw [if_pos ((h.eq0 _ _).2 e2), if_pos ((h.eq0 _ _).2 e2)]; exact ih b c
            · rw [if_neg (fun g => e2 ((h.eq0 _ _).1 g)), if_neg (fun g => e2 ((h.eq0 _ _).1 g))]; exact fun _ g => g
          · rw [if_neg (fun g => e1 ((h.eq0 _ _).1 g))]
            by_cases e2 : y = z
            · rw [← e2, if_pos ((h.eq0 _ _).2 rfl), if_neg (fun g => e1 ((h.eq0 _ _).1 g))]; exact fun g _ => g
            · rw [if_neg (fun g => e2 ((h.eq0 _ _).1 g))]
              intro g1 g2; have := h.trans x y z g1 g2; rw [if_neg (by omega)]; exact this
theorem TO_byte : TO fun (a b : UInt8) => cmpI a.toNat b.toNat := TO_int.comap (fun b : UInt8 => (b.toNat : Int)) fun a b h => UInt8.toNat_inj.1 (by omega)
theorem cmpB_L : ∀ a b : List UInt8, cmpB a b = cmpL (fun (a b : UInt8) => cmpI a.toNat b.toNat) a b
  | [], [] => rfl
  | [], _ :: _ => rfl
  | _ :: _, [] => rfl
  | a :: x, b :: y => by simp only [cmpB, cmpL, lx, cmpB_L x y]
theorem TO_str : TO cmpS := by
  have h := (TO_list TO_byte).comap (fun s : ByteArray => s.data.toList) (fun a b h => ByteArray.ext (Array.toList_inj.1 h))
  have e : cmpS = fun a b : ByteArray => cmpL (fun (a b : UInt8) => cmpI a.toNat b.toNat) a.data.toList b.data.toList := by
    funext a b
    unfold cmpS sLt sEq; rw [ByteArray.toList_eq, ByteArray.toList_eq, cmpB_less, cmpB_L]
  rw [e]; exact h
theorem rowMany_count (rs : Rows) (r : Row) : rowMany rs r = rs.count r := by
  unfold rowMany List.count
  congr 1
  funext x
  rw [Bool.eq_iff_iff]; simp
theorem bag_perm {a b : Rows} : ((a ++ b).all fun r => decide (rowMany a r = rowMany b r)) = true ↔ a.Perm b := by
  rw [List.all_eq_true, List.perm_iff_count]; constructor
  · intro h r
    by_cases hr : r ∈ a ++ b
    · have := h r hr
      simpa [rowMany_count] using this
    · rw [List.mem_append, not_or] at hr
      rw [List.count_eq_zero_of_not_mem hr.1, List.count_eq_zero_of_not_mem hr.2]
  · intro h r _
    simp [rowMany_count, h r]
theorem L_slices_IndexFunc_Limpl_Column_impl_Column {l : List S_impl_Column} {p : S_impl_Column → Option Bool} {q : S_impl_Column → Bool} (hl : l.length ≤ 900000000) (hp : ∀ v ∈ l, p v = some (q v)) : m_slices_IndexFunc_Limpl_Column_impl_Column l p = some (idxI q l) := by
  unfold m_slices_IndexFunc_Limpl_Column_impl_Column
  exact scanI (q := q) (g := fun i => some i) l (fun n k => m_slices_IndexFunc_Limpl_Column_impl_Column_l1 p n l (l.length : Int) k) (fun n k x hx => by
    have := lt_of_at hx; rw [m_slices_IndexFunc_Limpl_Column_impl_Column_l1, dlt this, cond_true]; simp only [at_of hx, Option.bind_some, hp x (List.mem_of_getElem? hx), ck1 (show k < 1000000000000 by omega)]) (fun n => by rw [m_slices_IndexFunc_Limpl_Column_impl_Column_l1, dnlt]; rfl) _ fuel0
theorem L_slices_ContainsFunc_Limpl_Column_impl_Column {l : List S_impl_Column} {p : S_impl_Column → Option Bool} {q : S_impl_Column → Bool} (hl : l.length ≤ 900000000) (hp : ∀ v ∈ l, p v = some (q v)) : m_slices_ContainsFunc_Limpl_Column_impl_Column l p = some (l.any q) := by
  unfold m_slices_ContainsFunc_Limpl_Column_impl_Column; rw [L_slices_IndexFunc_Limpl_Column_impl_Column hl hp, Option.bind_some, (idxI_ge q l).2.2]
theorem L_slices_IndexFunc_LLimpl_Value_Limpl_Value {l : List (List S_impl_Value)} {p : (List S_impl_Value) → Option Bool} {q : (List S_impl_Value) → Bool} (hl : l.length ≤ 900000000) (hp : ∀ v ∈ l, p v = some (q v)) : m_slices_IndexFunc_LLimpl_Value_Limpl_Value l p = some (idxI q l) := by
  unfold m_slices_IndexFunc_LLimpl_Value_Limpl_Value
  exact scanI (q := q) (g := fun i => some i) l (fun n k => m_slices_IndexFunc_LLimpl_Value_Limpl_Value_l1 p n l (l.length : Int) k) (fun n k x hx => by
    have := lt_of_at hx; rw [m_slices_IndexFunc_LLimpl_Value_Limpl_Value_l1, dlt this, cond_true]; simp only [at_of hx, Option.bind_some, hp x (List.mem_of_getElem? hx), ck1 (show k < 1000000000000 by omega)]) (fun n => by rw [m_slices_IndexFunc_LLimpl_Value_Limpl_Value_l1, dnlt]; rfl) _ fuel0
theorem L_slices_ContainsFunc_LLimpl_Value_Limpl_Value {l : List (List S_impl_Value)} {p : (List S_impl_Value) → Option Bool} {q : (List S_impl_Value) → Bool} (hl : l.length ≤ 900000000) (hp : ∀ v ∈ l, p v = some (q v)) : m_slices_ContainsFunc_LLimpl_Value_Limpl_Value l p = some (l.any q) := by
  unfold m_slices_ContainsFunc_LLimpl_Value_Limpl_Value; rw [L_slices_IndexFunc_LLimpl_Value_Limpl_Value hl hp, Option.bind_some, (idxI_ge q l).2.2]
theorem L_slices_Clone_Lint_int {l : List Int} (hl : l.length ≤ 900000000) : m_slices_Clone_Lint_int l = some l := by
  unfold m_slices_Clone_Lint_int; cases l with
  | nil => rfl
  | cons x l =>
    simp only [nilM, cond_false]; rw [app_of (by simp at hl ⊢; omega), Option.bind_some, List.nil_append]
theorem L_slices_IndexFunc_Lint_int {l : List Int} {p : Int → Option Bool} {q : Int → Bool} (hl : l.length ≤ 900000000) (hp : ∀ v ∈ l, p v = some (q v)) : m_slices_IndexFunc_Lint_int l p = some (idxI q l) := by
  unfold m_slices_IndexFunc_Lint_int
  exact scanI (q := q) (g := fun i => some i) l (fun n k => m_slices_IndexFunc_Lint_int_l1 p n l (l.length : Int) k) (fun n k x hx => by
    have := lt_of_at hx; rw [m_slices_IndexFunc_Lint_int_l1, dlt this, cond_true]; simp only [at_of hx, Option.bind_some, hp x (List.mem_of_getElem? hx), ck1 (show k < 1000000000000 by omega)]) (fun n => by rw [m_slices_IndexFunc_Lint_int_l1, dnlt]; rfl) _ fuel0
theorem L_slices_DeleteFunc_Lint_int {l : List Int} {p : Int → Option Bool} {q : Int → Bool} (hl : l.length ≤ 900000000) (hp : ∀ v ∈ l, p v = some (q v)) : m_slices_DeleteFunc_Lint_int l p = some (l.filter fun x => !q x) := by
  unfold m_slices_DeleteFunc_Lint_int; rw [L_slices_IndexFunc_Lint_int hl hp, Option.bind_some]; obtain ⟨h1, h2⟩ := idxI_spec (q := q) l; have hg := idxI_ge q l
  by_cases hn : idxI q l = -1
  · rw [hn, h1 hn]; rfl
  · obtain ⟨k, hk⟩ : ∃ k : Nat, idxI q l = k := ⟨(idxI q l).toNat, by omega⟩
    obtain ⟨a, b, x, c, d⟩ := h2 k hk; rw [hk, show ((k : Int) == -1) = false by rw [beq_eq_false_iff_ne]; omega, cond_false, ck1 (by omega), Option.bind_some, filter_take a b c d]
    obtain ⟨o', g1, g2, g3⟩ := delLoop (q := q) (F := fun w o => m_slices_DeleteFunc_Lint_int_j2 p (w : Int) o) (fun n w k o => m_slices_DeleteFunc_Lint_int_l1 p n (w : Int) (k : Int) o) l
      (fun n w k o y ho hw hy hly => by
        show m_slices_DeleteFunc_Lint_int_l1 p (n + 1) _ _ _ = _; have hlt := lt_of_at hy; rw [m_slices_DeleteFunc_Lint_int_l1, dlt hlt, cond_true, at_of hy, Option.bind_some, Option.bind_some, hp y (List.mem_of_getElem? hly), Option.bind_some]; unfold m_slices_DeleteFunc_Lint_int_j1; cases q y with
        | true => rw [Bool.not_true, cond_false, cond_false, ck1 (by omega), Option.bind_some]; rfl
        | false =>
          rw [Bool.not_false, cond_true, cond_true, at_of (List.getElem?_eq_getElem (show w < o.length by omega)), Option.bind_some, Option.bind_some, ltE, ck1 (by omega), Option.bind_some, ck1 (by omega), Option.bind_some, Int.toNat_natCast]; rfl)
      (fun n w o ho => by
        show m_slices_DeleteFunc_Lint_int_l1 p (n + 1) _ _ _ = _; rw [m_slices_DeleteFunc_Lint_int_l1, ho, dnlt, cond_false])
      (l.length - (k + 1)) (k + 1) k ((((l.length : Int) - ((k : Int) + 1)).toNat + 1)) l (by omega) (by omega) (by omega) rfl (fun _ _ => rfl)
    have g3' : m_slices_DeleteFunc_Lint_int_l1 p ((((l.length : Int) - ((k : Int) + 1)).toNat + 1)) (k : Int) ((k : Int) + 1) l = _ := g3; rw [g3']
    have hw : k + ((l.drop (k + 1)).filter fun x => !q x).length ≤ l.length := by
      have h3 : ((l.drop (k + 1)).filter fun x => !q x).length ≤ (l.drop (k + 1)).length := List.length_filter_le _ _; rw [List.length_drop] at h3; omega
    generalize k + ((l.drop (k + 1)).filter fun x => !q x).length = w at g2 hw ⊢; show m_slices_DeleteFunc_Lint_int_j2 p (w : Int) o' = _; unfold m_slices_DeleteFunc_Lint_int_j2; rw [rng_of (by omega), Option.bind_some, rng_of (by omega), Option.bind_some, Int.toNat_natCast, leN_of (by simp; omega), Option.bind_some]; rw [Nat.zero_add, List.take_take, Nat.min_self, g2]
abbrev Col := S_impl_Column
def colOk (c : Col) : Bool := decide (1 ≤ c.Kind) && decide (c.Kind ≤ 3)
def colsOk (cs : List Col) : Bool := decide (cs.length ≤ 4) && cs.all colOk
def vFit (v : V) (c : Col) : Bool := decide (v.Kind = c.Kind) || (decide (v.Kind = 0) && c.Empty)
def rowFits (cs : List Col) (r : Row) : Bool := colsOk cs && (rowOk r && (decide (r.length = cs.length) && all2 vFit r cs))
def rowsOk (cs : List Col) (rs : Rows) : Bool := colsOk cs && rs.all (rowFits cs)
theorem lenD (n m : Nat) : decide ((n : Int) ≤ (m : Int)) = decide (n ≤ m) := by rw [decide_eq_decide]; omega
theorem E_impl_ColumnsOk {cs : List Col} (h : cs.length ≤ 900000000) : m_impl_ColumnsOk cs = some (colsOk cs) := by
  unfold m_impl_ColumnsOk m_impl_ColumnsOk_j1 colsOk
  rw [L_slices_ContainsFunc_Limpl_Column_impl_Column (q := fun c => !(colOk c)) h (fun c _ => by unfold m_impl_ColumnsOk_1; rw [E_between]; rfl), Option.bind_some,
    show (4 : Int) = ((4 : Nat) : Int) from rfl, lenD, List.all_eq_not_any_not]
  cases decide (cs.length ≤ 4) <;> rfl
theorem E_spec_ColumnsOk {cs : List Col} (h : cs.length ≤ 900000000) : m_spec_ColumnsOk cs = some (colsOk cs) := by
  unfold m_spec_ColumnsOk colsOk
  rw [scanA (p := fun c => !(colOk c)) (r0 := false) (r1 := decide ((cs.length : Int) ≤ 4)) cs (fun n k => m_spec_ColumnsOk_l1 n cs k) (fun n k x hx => by
    have := lt_of_at hx; rw [m_spec_ColumnsOk_l1, dlt this, cond_true]; simp only [at_of hx, E_l1In, Option.bind_some, ck1 (show k < 1000000000000 by omega)]; rfl) (fun n => by rw [m_spec_ColumnsOk_l1, dnlt]; rfl) _ fuel0, List.all_eq_not_any_not, show (4 : Int) = ((4 : Nat) : Int) from rfl, lenD]
  cases cs.any fun c => !(colOk c) <;> simp
theorem E_impl_RowFits {cs : List Col} {r : Row} (h : cs.length ≤ 900000000) (hr : rSm r) : m_impl_RowFits cs r = some (rowFits cs r) := by
  unfold m_impl_RowFits rowFits; rw [E_impl_ColumnsOk h, Option.bind_some]; cases colsOk cs
  · rfl
  rw [Bool.not_true, cond_false, E_impl_RowOk hr, Option.bind_some]; cases rowOk r
  · rfl
  rw [Bool.not_true, cond_false]; unfold m_impl_RowFits_j1; rw [neN]
  by_cases hl : r.length = cs.length
  · rw [decide_eq_true hl, Bool.not_true, cond_false]
    simp only [Bool.true_and]
    exact scan2 (q := vFit) r cs hl (fun n k => m_impl_RowFits_l1 n cs r (r.length : Int) k) (fun n k x y hx hy => by
      have := lt_of_at hx; have hrl := hr.1; rw [m_impl_RowFits_l1, dlt this, cond_true]; simp only [at_of hx, at_of hy, Option.bind_some, Go.Lift.lt]; unfold m_impl_RowFits_j2; rw [ck1 (show k < 1000000000000 by omega), Option.bind_some]; unfold vFit; rw [neB, neB]; cases decide (x.Kind = y.Kind) <;> cases decide (x.Kind = 0) <;> cases y.Empty <;> rfl) (fun n => by rw [m_impl_RowFits_l1, dnlt]; rfl) _ fuel0
  · rw [decide_eq_false hl]; rfl
theorem E_spec_RowFits {cs : List Col} {r : Row} (h : cs.length ≤ 900000000) (hr : rSm r) : m_spec_RowFits cs r = some (rowFits cs r) := by
  unfold m_spec_RowFits rowFits; rw [E_spec_ColumnsOk h, Option.bind_some]; cases colsOk cs
  · rfl
  rw [Bool.not_true, cond_false, E_spec_RowOk hr, Option.bind_some]; cases rowOk r
  · rfl
  rw [Bool.not_true, cond_false]; unfold m_spec_RowFits_j1; rw [neN]
  by_cases hl : r.length = cs.length
  · rw [decide_eq_true hl, Bool.not_true, cond_false]
    simp only [Bool.true_and]
    exact scan2 (q := vFit) r cs hl (fun n k => m_spec_RowFits_l1 n cs r k) (fun n k x y hx hy => by
      have := lt_of_at hx; have hrl := hr.1; rw [m_spec_RowFits_l1, dlt this, cond_true]; simp only [at_of hx, at_of hy, Option.bind_some]; unfold m_spec_RowFits_j2; rw [ck1 (show k < 1000000000000 by omega), Option.bind_some]; unfold vFit; rw [neB, neB]; cases decide (x.Kind = y.Kind) <;> cases decide (x.Kind = 0) <;> cases y.Empty <;> rfl) (fun n => by rw [m_spec_RowFits_l1, dnlt]; rfl) _ fuel0
  · rw [decide_eq_false hl]; rfl
theorem E_impl_RowsOk {cs : List Col} {rs : Rows} (h : cs.length ≤ 900000000) (hr : rsSm rs) : m_impl_RowsOk cs rs = some (rowsOk cs rs) := by
  unfold m_impl_RowsOk m_impl_RowsOk_j1 rowsOk; obtain ⟨h1, h2⟩ := hr; rw [E_impl_ColumnsOk h, Option.bind_some, L_slices_ContainsFunc_LLimpl_Value_Limpl_Value (q := fun r => !(rowFits cs r)) (by omega) (fun r hr => by unfold m_impl_RowsOk_1; rw [E_impl_RowFits h (h2 r hr)]; rfl), Option.bind_some, List.all_eq_not_any_not]; cases colsOk cs <;> rfl
theorem E_spec_RowsOk {cs : List Col} {rs : Rows} (h : cs.length ≤ 900000000) (hr : rsSm rs) : m_spec_RowsOk cs rs = some (rowsOk cs rs) := by
  unfold m_spec_RowsOk rowsOk; obtain ⟨h1, h2⟩ := hr
  rw [scanA (p := fun r => !(rowFits cs r)) (r0 := false) (r1 := colsOk cs) rs (fun n k => m_spec_RowsOk_l1 n cs rs k) (fun n k x hx => by
    have := lt_of_at hx; rw [m_spec_RowsOk_l1, dlt this, cond_true]; simp only [at_of hx, E_spec_RowFits h (h2 x (List.mem_of_getElem? hx)), Option.bind_some, ck1 (show k < 1000000000000 by omega)]) (fun n => by
    rw [m_spec_RowsOk_l1, dnlt, cond_false]; unfold m_spec_RowsOk_j1; rw [E_spec_ColumnsOk h]; rfl) _ fuel0, List.all_eq_not_any_not]
  cases rs.any fun r => !(rowFits cs r) <;> cases colsOk cs <;> rfl
def v0 : V := ⟨0, 0, ⟨#[]⟩⟩
def total (left : List Rows) : Nat := left.flatten.length
abbrev Pt := S_impl_Part
def takesN (p : Pt) : Nat := if p.Kind = 3 ∨ p.Kind = 4 ∨ p.Kind = 5 ∨ p.Kind = 6 then 2 else if p.Kind = 7 ∨ p.Kind = 8 then 1 else 0
theorem beqE {a b : Int} (h : a = b) : (a == b) = true := by simp [h]
theorem bneF {a b : Int} (h : a = b) : (a != b) = false := by simp [h]
theorem beqD {a b : Int} : (a == b) = decide (a = b) := by by_cases h : a = b <;> simp [h]
def vOf (t : Int) : V := if t = 0 ∨ t = 1 then ⟨3, t, ⟨#[]⟩⟩ else v0
def trOf (v : V) : Int := if vOk v then (if v.Kind = 0 then 2 else if v.Kind = 3 then v.N else -1) else -1
def tOk (a : Int) : Bool := decide (0 ≤ a) && decide (a ≤ 2)
def andT (a b : Int) : Int := if tOk a = true ∧ tOk b = true then (if a = 0 ∨ b = 0 then 0 else if a = 2 ∨ b = 2 then 2 else 1) else -1
def orT (a b : Int) : Int := if tOk a = true ∧ tOk b = true then (if a = 1 ∨ b = 1 then 1 else if a = 2 ∨ b = 2 then 2 else 0) else -1
def notT (a : Int) : Int := if a = 0 then 1 else if a = 1 then 0 else if a = 2 then 2 else -1
def cmpR (k o : Int) : Bool := if k = 1 then decide (o = 0) else if k = 2 then !decide (o = 0) else if k = 3 then decide (o < 0) else decide (o ≤ 0)
def cmpT (k : Int) (a b : V) : Int := if ((decide (1 ≤ k) && decide (k ≤ 4)) && (vOk a && vOk b)) = true then (if a.Kind = 0 ∨ b.Kind = 0 then 2 else if a.Kind = b.Kind then (if cmpR k (vOrd a b) = true then 1 else 0) else -1) else -1
theorem E_impl_Compare {k : Int} {a b : V} (ha : a.S.size ≤ 900000000) (hb : b.S.size ≤ 900000000) : m_impl_Compare k a b = some (cmpT k a b) := by
  unfold m_impl_Compare cmpT; have bad : m_impl_Compare_j1 k a b true = some (-1) := by unfold m_impl_Compare_j1; rfl
  rw [E_between, Option.bind_some, E_Value_ok ha, Option.bind_some, E_Value_ok hb, Option.bind_some]; cases hr : (decide (1 ≤ k) && decide (k ≤ 4)) with
  | false => rw [Bool.not_false, cond_true, bad]; rfl
  | true =>
    rw [Bool.not_true, cond_false]; cases hva : vOk a with
    | false => rw [Bool.not_false, cond_true, bad]; rfl
    | true =>
      rw [Bool.not_true, cond_false]; cases hvb : vOk b with
      | false => rw [Bool.not_false, bad]; rfl
      | true =>
        rw [Bool.not_true, if_pos (show (true && (true && true)) = true from rfl)]; unfold m_impl_Compare_j1 m_impl_Compare_j2; rw [cond_false]
        by_cases h0 : a.Kind = 0
        · rw [beqE h0, cond_true, cond_true, if_pos (.inl h0)]
        · rw [beqF h0, cond_false]
          by_cases h1 : b.Kind = 0
          · rw [beqE h1, cond_true, if_pos (.inr h1)]
          · rw [beqF h1, cond_false, if_neg (fun h => h.elim h0 h1)]
            by_cases h2 : a.Kind = b.Kind
            · rw [if_pos h2, show (a.Kind != b.Kind) = false by simp [h2], cond_false, E_order, Option.bind_some]
              generalize vOrd a b = o; simp at hr; have hk : k = 1 ∨ k = 2 ∨ k = 3 ∨ k = 4 := by omega
              have e0 : (o == 0) = decide (o = 0) := beqD; have e1 : (o != 0) = !decide (o = 0) := by by_cases h : o = 0 <;> simp [h]
              rw [e0, e1]; unfold cmpR; rcases hk with e | e | e | e <;> subst e
              · cases h : decide (o = 0) <;> rfl
              · cases h : decide (o = 0) <;> rfl
              · cases h : decide (o < 0) <;> rfl
              · cases h : decide (o ≤ 0) <;> rfl
            · rw [if_neg h2, beqF' h2, cond_true]
theorem E_spec_Compare {k : Int} {a b : V} (ha : vSm a) (hb : vSm b) : m_spec_Compare k a b = some (cmpT k a b) := by
  unfold m_spec_Compare cmpT; have ha' : a.S.size ≤ 900000000 := by unfold vSm at ha; omega
  have hb' : b.S.size ≤ 900000000 := by unfold vSm at hb; omega
  have bad : m_spec_Compare_j1 k a b true = some (-1) := by unfold m_spec_Compare_j1; rfl
  rw [E_l1In, Option.bind_some, E_spec_ValueOk ha', Option.bind_some, E_spec_ValueOk hb', Option.bind_some]; cases hr : (decide (1 ≤ k) && decide (k ≤ 4)) with
  | false => rw [Bool.not_false, cond_true, bad]; rfl
  | true =>
    rw [Bool.not_true, cond_false]; cases hva : vOk a with
    | false => rw [Bool.not_false, cond_true, bad]; rfl
    | true =>
      rw [Bool.not_true, cond_false]; cases hvb : vOk b with
      | false => rw [Bool.not_false, bad]; rfl
      | true =>
        rw [Bool.not_true, if_pos (show (true && (true && true)) = true from rfl)]; unfold m_spec_Compare_j1 m_spec_Compare_j2; rw [cond_false]
        by_cases h0 : a.Kind = 0
        · rw [beqE h0, cond_true, cond_true, if_pos (.inl h0)]
        · rw [beqF h0, cond_false]
          by_cases h1 : b.Kind = 0
          · rw [beqE h1, cond_true, if_pos (.inr h1)]
          · rw [beqF h1, cond_false, if_neg (fun h => h.elim h0 h1)]
            by_cases h2 : a.Kind = b.Kind
            · have ev : vvOrd a b = vOrd a b := by unfold vvOrd; rw [hva, hvb]; rfl
              rw [if_pos h2, show (a.Kind != b.Kind) = false by simp [h2], cond_false, E_ValueOrder ha hb, ev]; generalize vOrd a b = o; simp at hr; have hk : k = 1 ∨ k = 2 ∨ k = 3 ∨ k = 4 := by omega
              have e0 : (o == 0) = decide (o = 0) := beqD; have e1 : (o != 0) = !decide (o = 0) := by by_cases h : o = 0 <;> simp [h]
              rw [Option.bind_some, Option.bind_some, Option.bind_some, Option.bind_some, e0, e1]; unfold cmpR; rcases hk with e | e | e | e <;> subst e
              · cases h : decide (o = 0) <;> rfl
              · cases h : decide (o = 0) <;> rfl
              · cases h : decide (o < 0) <;> rfl
              · cases h : decide (o ≤ 0) <;> rfl
            · rw [if_neg h2, beqF' h2, cond_true]
def sumT (a b : V) : V := if (a.Kind = 0 ∨ b.Kind = 0) ∨ ¬ (-9999 ≤ a.N + b.N ∧ a.N + b.N ≤ 9999) then v0 else ⟨1, a.N + b.N, ⟨#[]⟩⟩
def valOf (row : Row) (p : Pt) (ins : List V) : V :=
  if p.Kind = 1 then p.V
  else if p.Kind = 2 then row.getD p.N.toNat v0
  else if p.Kind = 3 then sumT (ins.getD 0 v0) (ins.getD 1 v0)
  else if p.Kind = 4 then vOf (cmpT p.N (ins.getD 0 v0) (ins.getD 1 v0))
  else if p.Kind = 5 then vOf (andT (trOf (ins.getD 0 v0)) (trOf (ins.getD 1 v0)))
  else if p.Kind = 6 then vOf (orT (trOf (ins.getD 0 v0)) (trOf (ins.getD 1 v0)))
  else if p.Kind = 7 then vOf (notT (trOf (ins.getD 0 v0)))
  else vOf (if (ins.getD 0 v0).Kind = 0 then 1 else 0)
theorem vN {v : V} (h : vOk v = true) : (-9999 ≤ v.N ∧ v.N ≤ 9999) ∧ v.S.size ≤ 1000 := by
  unfold vOk at h
  by_cases h0 : v.Kind = 0
  · rw [if_pos h0] at h; have := of_decide_eq_true h; rw [this]; decide
  · by_cases h1 : v.Kind = 1
    · rw [if_neg h0, if_pos h1] at h; simp at h; rw [h.1]; exact ⟨⟨h.2.1, h.2.2⟩, by decide⟩
    · by_cases h2 : v.Kind = 2
      · rw [if_neg h0, if_neg h1, if_pos h2] at h; simp at h; exact ⟨by omega, by omega⟩
      · by_cases h3 : v.Kind = 3
        · rw [if_neg h0, if_neg h1, if_neg h2, if_pos h3] at h; simp at h; rw [h.1]; exact ⟨by omega, by decide⟩
        · rw [if_neg h0, if_neg h1, if_neg h2, if_neg h3] at h; cases h
theorem vOk_num (n : Int) : vOk ⟨1, n, ⟨#[]⟩⟩ = (decide (-9999 ≤ n) && decide (n ≤ 9999)) := by
  unfold vOk; rw [if_neg (show ¬ (1 : Int) = 0 by decide), if_pos rfl, decide_eq_true (show (⟨#[]⟩ : ByteArray) = ⟨#[]⟩ from rfl), Bool.true_and]
theorem getD_of {α : Type} {l : List α} {k : Nat} {x d : α} (h : l[k]? = some x) : l.getD k d = x := by rw [List.getD_eq_getElem?_getD, h]; rfl
theorem at_z {α : Type} {l : List α} {i : Int} {x : α} (h0 : 0 ≤ i) (h : l[i.toNat]? = some x) : at? l i = some x := by
  have := at_of h
  rwa [Int.toNat_of_nonneg h0] at this
def inR (n : Nat) (k : Int) : Bool := decide (0 ≤ k) && decide (k ≤ (n : Int) - 1)
theorem inR_of {n : Nat} {k : Int} (h : inR n k = true) : 0 ≤ k ∧ k.toNat < n := by
  unfold inR at h; rw [Bool.and_eq_true, decide_eq_true_eq, decide_eq_true_eq] at h; omega
def vStep (row : Row) (st : List V) (p : Pt) : List V := st.take (st.length - takesN p) ++ [valOf row p (st.drop (st.length - takesN p))]
def exprVal (row : Row) (e : List Pt) : V := (e.foldl (vStep row) []).getD 0 v0
def tyV (v : V) (k : Int) : Prop := vOk v = true ∧ (v.Kind = k ∨ v.Kind = 0)
inductive Typed : List V → List Int → Prop
  | nil : Typed [] []
  | cons {v : V} {k : Int} {vs : List V} {ks : List Int} : tyV v k → Typed vs ks → Typed (v :: vs) (k :: ks)
theorem Typed.take {vs : List V} {ks : List Int} (h : Typed vs ks) (n : Nat) : Typed (vs.take n) (ks.take n) := by
  induction h generalizing n with
  | nil => simp; exact .nil
  | cons h _ ih =>
    cases n with
    | zero => exact .nil
    | succ n => exact .cons h (ih n)
theorem Typed.drop {vs : List V} {ks : List Int} (h : Typed vs ks) (n : Nat) : Typed (vs.drop n) (ks.drop n) := by
  induction h generalizing n with
  | nil => simp; exact .nil
  | cons h h2 ih =>
    cases n with
    | zero => exact .cons h h2
    | succ n => exact ih n
theorem vOk_v0 : vOk v0 = true := by decide
theorem fits_get {cs : List Col} {row : Row} (h : rowFits cs row = true) : colsOk cs = true ∧ rowOk row = true ∧ row.length = cs.length ∧ ∀ (i : Nat) (v : V) (c : Col), row[i]? = some v → cs[i]? = some c → vFit v c = true := by
  unfold rowFits at h; rw [Bool.and_eq_true, Bool.and_eq_true, Bool.and_eq_true, decide_eq_true_eq] at h; obtain ⟨h1, h2, h3, h4⟩ := h; refine ⟨h1, h2, h3, fun i v c hv hc => ?_⟩; unfold all2 at h4; have := List.all_eq_true.1 h4 (v, c) (List.mem_of_getElem? (i := i) (by rw [List.getElem?_zip_eq_some]; exact ⟨hv, hc⟩)); exact this
theorem rowOk_all {row : Row} (h : rowOk row = true) : row.length ≤ 4 ∧ ∀ v ∈ row, vOk v = true := by
  unfold rowOk at h; rw [Bool.and_eq_true, decide_eq_true_eq] at h; exact ⟨h.1, fun v hv => List.all_eq_true.1 h.2 v hv⟩
def yes : V := ⟨3, 1, ⟨#[]⟩⟩
def col0 : Col := ⟨0, false⟩
def colAt (cs : List Col) (n : Int) : Col := cs.getD n.toNat col0
theorem getD_in {α : Type} {l : List α} {n : Int} {d : α} (h : inR l.length n = true) : at? l n = some (l.getD n.toNat d) := by
  have h2 := inR_of h; exact at_z h2.1 (by rw [List.getD_eq_getElem?_getD, List.getElem?_eq_getElem h2.2]; rfl)
def holdsB (e : List Pt) (r : Row) : Bool := decide (exprVal r e = yes)
def rowAt (r : Row) (n : Int) : V := r.getD n.toNat v0
theorem zip_get {α β : Type} : ∀ {a : List α} {b : List β} {p : α × β}, p ∈ a.zip b → ∃ i : Nat, a[i]? = some p.1 ∧ b[i]? = some p.2
  | [], _, _, h => by simp at h
  | _ :: _, [], _, h => by simp at h
  | x :: a, y :: b, p, h => by
    rw [List.zip_cons_cons] at h; rcases List.mem_cons.1 h with rfl | h
    · exact ⟨0, rfl, rfl⟩
    · obtain ⟨i, h1, h2⟩ := zip_get h
      exact ⟨i + 1, by simpa using h1, by simpa using h2⟩
theorem all2_mk {α β : Type} {q : α → β → Bool} {a : List α} {b : List β} (h : ∀ (i : Nat) x y, a[i]? = some x → b[i]? = some y → q x y = true) : all2 q a b = true := by
  unfold all2; rw [List.all_eq_true]; intro p hp; obtain ⟨i, h1, h2⟩ := zip_get hp; exact h i _ _ h1 h2
theorem fits_mk {cs : List Col} {r : Row} (h1 : colsOk cs = true) (h2 : rowOk r = true) (h3 : r.length = cs.length) (h4 : ∀ (i : Nat) v c, r[i]? = some v → cs[i]? = some c → vFit v c = true) : rowFits cs r = true := by
  unfold rowFits; rw [h1, h2, decide_eq_true h3, all2_mk h4]; rfl
theorem rowOk_mk {r : Row} (h : r.length ≤ 4) (h2 : ∀ v ∈ r, vOk v = true) : rowOk r = true := by
  unfold rowOk; rw [decide_eq_true h, List.all_eq_true.2 h2]; rfl
theorem colsOk_mk {cs : List Col} (h : cs.length ≤ 4) (h2 : ∀ c ∈ cs, colOk c = true) : colsOk cs = true := by
  unfold colsOk; rw [decide_eq_true h, List.all_eq_true.2 h2]; rfl
theorem colsOk_all {cs : List Col} (h : colsOk cs = true) : cs.length ≤ 4 ∧ ∀ c ∈ cs, colOk c = true := by
  unfold colsOk at h; simp only [Bool.and_eq_true, decide_eq_true_eq, List.all_eq_true] at h; exact h
theorem inR_get {α : Type} {l : List α} {n : Int} {d : α} (h : inR l.length n = true) : l[n.toNat]? = some (l.getD n.toNat d) := by
  have h2 := inR_of h; rw [List.getD_eq_getElem?_getD, List.getElem?_eq_getElem h2.2]; rfl
theorem app1 {o : Rows} {x : Row} (h : o.length ≤ 1000000) : app? o [x] = some (o ++ [x]) := app_of (by simp; omega)
theorem odd0 {o : Rd} : m_Pspec_l20Rd_odd o 0 = some (false, o) := by
  unfold m_Pspec_l20Rd_odd m_Pspec_l20Rd_odd_j1; rw [show decide ((0 : Int) > 0) = false from rfl, cond_false]
def vLk (c : Col) (v : V) : Prop := vOk v = true ∧ vFit v c = true ∧ v.S.size ≤ 20
theorem vLk_0 {c : Col} (h : c.Empty = true) : vLk c v0 := ⟨vOk_v0, by unfold vFit; rw [h]; simp [show v0.Kind = 0 from rfl], by decide⟩
theorem vLk_n {c : Col} (h : c.Kind = 1) {n : Int} (h1 : 0 ≤ n ∧ n ≤ 9999) : vLk c ⟨1, n, ⟨#[]⟩⟩ := ⟨by rw [vOk_num, decide_eq_true h1.2, decide_eq_true (show -9999 ≤ n by omega)]; rfl, by unfold vFit; rw [decide_eq_true h.symm]; rfl, by show ByteArray.size ⟨#[]⟩ ≤ 20; decide⟩
theorem vLk_b {c : Col} (h : c.Kind = 3) {n : Int} (h1 : n = 0 ∨ n = 1) : vLk c ⟨3, n, ⟨#[]⟩⟩ := ⟨by rcases h1 with rfl | rfl <;> decide, by unfold vFit; rw [decide_eq_true h.symm]; rfl, by show ByteArray.size ⟨#[]⟩ ≤ 20; decide⟩
theorem vLk_s {c : Col} (h : c.Kind = 2) {s : ByteArray} (h1 : vOk ⟨2, 0, s⟩ = true) (h2 : s.size ≤ 20) : vLk c ⟨2, 0, s⟩ := ⟨h1, by unfold vFit; rw [decide_eq_true h.symm]; rfl, h2⟩
theorem D_Like {o : Rd} {c : Col} (hc : colOk c = true) (ho : 0 ≤ o.p ∧ o.p ≤ 1000000000 - 100) : Tot (m_spec_l20Like o c) fun r => vLk c r.1 ∧ o.p ≤ r.2.p ∧ r.2.p ≤ o.p + 3 := by
  unfold m_spec_l20Like; have hk : 1 ≤ c.Kind ∧ c.Kind ≤ 3 := by unfold colOk at hc; simpa using hc
  have j1 : ∀ (b : Bool) (q : Rd) (v : V), (b = true → c.Empty = true) → o.p ≤ q.p → q.p ≤ o.p + 1 → Tot (m_spec_l20Like_j1 c b q v) fun r => vLk c r.1 ∧ o.p ≤ r.2.p ∧ r.2.p ≤ o.p + 3 := by
    intro b q v hb h1 h2; unfold m_spec_l20Like_j1; refine Tot.bif (fun h => Tot.lt (Tot.ret ⟨vLk_0 (hb h), h1, by simp only; omega⟩)) (fun _ => Tot.bif (fun h => ?_) (fun hn1 => Tot.bif (fun h => ?_) (fun hn2 => ?_)))
    · refine Tot.bind (T_pick (by omega)) (fun r hr => Tot.lt (Tot.ret ⟨vLk_n (by simpa using h) (by omega), by simp only; omega, by simp only; omega⟩))
    · refine Tot.bind (T_pick (by omega)) (fun r hr => Tot.at (by omega) (by simp only [List.length_cons, List.length_nil]; omega) (fun y hy => Tot.lt (Tot.ret ⟨?_, by simp only; omega, by simp only; omega⟩)))
      simp only [List.mem_cons, List.mem_nil_iff, or_false] at hy; rcases hy with rfl | rfl | rfl | rfl <;> exact vLk_s (by simpa using h) (by decide) (by decide)
    · refine Tot.bind (T_pick (by omega)) (fun r hr => Tot.lt (Tot.ret ⟨vLk_b ?_ (by omega), by simp only; omega, by simp only; omega⟩))
      have a1 : c.Kind ≠ 1 := by simpa using hn1
      have a2 : c.Kind ≠ 2 := by simpa using hn2
      omega
  refine Tot.bif (fun h => Tot.bind (T_pick (by omega)) (fun r hr => j1 _ _ _ (fun _ => h) (by omega) (by omega))) (fun _ => j1 _ _ _ (fun h => by cases h) (by omega) (by omega))
theorem D_Columns {o : Rd} (ho : 0 ≤ o.p ∧ o.p ≤ 1000000000 - 100) : Tot (m_spec_l20Columns o 0) fun r => (1 ≤ r.1.length ∧ r.1.length ≤ 3 ∧ ∀ c ∈ r.1, colOk c = true) ∧ o.p ≤ r.2.p ∧ r.2.p ≤ o.p + 20 := by
  unfold m_spec_l20Columns; refine Tot.bind (T_pick (by omega)) (fun r hr => Tot.ck (by omega) (by omega) ?_); refine Tot.down (fun f t (s : Rd × List S_impl_Column) => m_spec_l20Columns_l1 f 0 t s.1 s.2) (fun t s => t ≤ 3 ∧ r.2.p ≤ s.1.p ∧ s.1.p + 2 * t ≤ r.2.p + 6 ∧ (s.2.length : Int) + t = 1 + r.1 ∧ ∀ c ∈ s.2, colOk c = true) (fun f s h => ?_) (fun f t s ht h ih => ?_) _ (1 + r.1) (r.2, []) (by omega) (by omega) ⟨by omega, by simp only; omega, by simp only; omega, by first | (simp; done) | (simp; omega), by simp⟩
  · obtain ⟨g1, g2, g3, g4, g5⟩ := h
    rw [m_spec_l20Columns_l1, show decide ((0 : Int) > 0) = false from rfl, cond_false]; unfold m_spec_l20Columns_j1 m_spec_l20Columns_j2; rw [odd0, Option.bind_some, cond_false]; exact Tot.ret ⟨⟨by simp only; omega, by simp only; omega, g5⟩, by simp only; omega, by simp only; omega⟩
  · obtain ⟨g1, g2, g3, g4, g5⟩ := h
    rw [m_spec_l20Columns_l1, decide_eq_true (show t > 0 by omega), cond_true]; refine Tot.bind (T_pick (by omega)) (fun x hx => Tot.at (by omega) (by simp only [List.length_cons, List.length_nil]; omega) (fun y hy => ?_)); have hy' : 1 ≤ y ∧ y ≤ 3 := by simp at hy; omega
    refine Tot.bind (T_pick (by omega)) (fun z hz => Tot.app (by simp only [List.length_cons, List.length_nil]; omega) (Tot.ck (by omega) (by omega) ?_)); refine ih (z.2, s.2 ++ [⟨y, decide (z.1 > 0)⟩]) ⟨by omega, by simp only; omega, by simp only; omega, by first | (simp; done) | (simp; omega), ?_⟩; intro c hc; simp only [List.mem_append, List.mem_cons, List.mem_nil_iff, or_false] at hc; rcases hc with hc | rfl
    · exact g5 c hc
    · unfold colOk; simpa using hy'
theorem D_Fit {o : Rd} {cs : List Col} (ho : 0 ≤ o.p ∧ o.p ≤ 1000000000 - 1000) (hc : colsOk cs = true) : Tot (m_spec_l20Fit o cs 0) fun r => rowFits cs r.1 = true ∧ o.p ≤ r.2.p ∧ r.2.p ≤ o.p + 80 := by
  obtain ⟨hc1, hc2⟩ := colsOk_all hc; unfold m_spec_l20Fit; refine Tot.up (cs.length : Int) (fun f t (s : Rd × Row) => m_spec_l20Fit_l1 f cs 0 t s.1 s.2) (fun t s => o.p ≤ s.1.p ∧ s.1.p ≤ o.p + 3 * t ∧ (s.2.length : Int) = t ∧ (∀ v ∈ s.2, vOk v = true) ∧ ∀ (i : Nat) v c, s.2[i]? = some v → cs[i]? = some c → vFit v c = true) (fun f s h => ?_) (fun f t s h0 ht h ih => ?_) _ 0 (o, []) (by omega) (by omega) (by omega) ⟨by simp only; omega, by simp only; omega, by simp, by simp, by simp⟩
  · obtain ⟨g1, g2, g3, g4, g5⟩ := h
    rw [m_spec_l20Fit_l1, show decide ((cs.length : Int) < cs.length) = false by simp, cond_false]; unfold m_spec_l20Fit_j1 m_spec_l20Fit_j2; rw [odd0, Option.bind_some, cond_false]; exact Tot.ret ⟨fits_mk hc (rowOk_mk (by simp only; omega) g4) (by simp only; omega) g5, by simp only; omega, by simp only; omega⟩
  · obtain ⟨g1, g2, g3, g4, g5⟩ := h
    obtain ⟨y, hx⟩ : ∃ y, cs[t.toNat]? = some y := ⟨_, List.getElem?_eq_getElem (by omega)⟩; rw [m_spec_l20Fit_l1, decide_eq_true ht, cond_true]; refine Tot.eq (at_z h0 hx) (Tot.bind (D_Like (hc2 _ (List.mem_of_getElem? hx)) (by omega)) (fun x hx' => Tot.app (by simp only [List.length_cons, List.length_nil]; omega) (Tot.ck (by omega) (by omega) ?_))); refine ih (x.2, s.2 ++ [x.1]) ⟨by simp only; omega, by simp only; omega, by first | (simp; done) | (simp; omega), ?_, ?_⟩
    · intro v hv
      rcases List.mem_append.1 hv with hv | hv
      · exact g4 v hv
      · rw [List.mem_singleton.1 hv]; exact hx'.1.1
    · intro i v c hv hcv
      simp only at hv; rw [List.getElem?_append] at hv
      split at hv
      · exact g5 i v c hv hcv
      · rename_i hi
        have e : i = s.2.length := by
          rcases Nat.lt_or_ge i (s.2.length + 1) with h | h
          · omega
          · rw [List.getElem?_eq_none (by simp; omega)] at hv; cases hv
        subst e; rw [Nat.sub_self] at hv; cases hv; have e2 : t.toNat = s.2.length := by omega
        rw [e2] at hx; rw [hx] at hcv; cases hcv; exact hx'.1.2.1
theorem D_Bag {o : Rd} {cs : List Col} (ho : 0 ≤ o.p ∧ o.p ≤ 1000000000 - 10000) (hc : colsOk cs = true) : Tot (m_spec_l20Bag o cs 0) fun r => (r.1.length ≤ 6 ∧ ∀ x ∈ r.1, rowFits cs x = true) ∧ o.p ≤ r.2.p ∧ r.2.p ≤ o.p + 600 := by
  unfold m_spec_l20Bag; refine Tot.bind (T_pick (by omega)) (fun r hr => ?_); refine Tot.down (fun f t (s : Rd × Rows) => m_spec_l20Bag_l1 f cs 0 t s.1 s.2) (fun t s => t ≤ r.1 ∧ o.p ≤ s.1.p ∧ s.1.p + 90 * t ≤ o.p + 1 + 90 * r.1 ∧ (s.2.length : Int) + t = r.1 ∧ ∀ x ∈ s.2, rowFits cs x = true) (fun f s h => ?_) (fun f t s ht h ih => ?_) _ r.1 (r.2, []) (by omega) (by omega) ⟨by omega, by simp only; omega, by simp only; omega, by simp, by simp⟩
  · obtain ⟨g1, g2, g3, g4, g5⟩ := h
    rw [m_spec_l20Bag_l1, show decide ((0 : Int) > 0) = false from rfl, cond_false]; exact Tot.ret ⟨⟨by simp only; omega, g5⟩, by simp only; omega, by simp only; omega⟩
  · obtain ⟨g1, g2, g3, g4, g5⟩ := h
    rw [m_spec_l20Bag_l1, decide_eq_true (show t > 0 by omega), cond_true]
    have j2 : ∀ (q : Rd) (x : Row), s.1.p ≤ q.p → q.p ≤ s.1.p + 90 → rowFits cs x = true → Tot (m_spec_l20Bag_j2 (m_spec_l20Bag_l1 f) cs 0 t q (s.2 ++ [x])) fun r => (r.1.length ≤ 6 ∧ ∀ x ∈ r.1, rowFits cs x = true) ∧ o.p ≤ r.2.p ∧ r.2.p ≤ o.p + 600 := by
      intro q x h1 h2 h3; unfold m_spec_l20Bag_j2; refine Tot.ck (by omega) (by omega) ?_; refine ih (q, s.2 ++ [x]) ⟨by omega, by simp only; omega, by simp only; omega, by first | (simp; done) | (simp; omega), ?_⟩; intro c hc; simp only [List.mem_append, List.mem_cons, List.mem_nil_iff, or_false] at hc; rcases hc with hc | rfl
      · exact g5 c hc
      · exact h3
    have j1 : ∀ (b : Bool) (q : Rd), s.1.p ≤ q.p → q.p ≤ s.1.p + 2 → (b = true → 0 < s.2.length) → Tot (m_spec_l20Bag_j1 (m_spec_l20Bag_l1 f) cs 0 t b q s.2) fun r => (r.1.length ≤ 6 ∧ ∀ x ∈ r.1, rowFits cs x = true) ∧ o.p ≤ r.2.p ∧ r.2.p ≤ o.p + 600 := by
      intro b q h1 h2 h3; unfold m_spec_l20Bag_j1; refine Tot.bif (fun hb => ?_) (fun _ => ?_)
      · have := h3 hb
        refine Tot.bind (T_pick (by omega)) (fun x hx => Tot.at (by omega) (by omega) (fun _ _ => Tot.at (by omega) (by omega) (fun y hy => ?_))); have hy' := g5 y hy; have hl := (rowOk_all (fits_get hy').2.1).1; refine Tot.eq (E_l3Own (by omega)) (Tot.app (by simp only [List.length_cons, List.length_nil]; omega) (j2 _ _ (by omega) (by omega) hy'))
      · refine Tot.bind (D_Fit (by omega) hc) (fun x hx => Tot.app (by simp only [List.length_cons, List.length_nil]; omega) (j2 _ _ (by omega) (by omega) hx.1))
    refine Tot.bif (fun h3 => ?_) (fun _ => j1 _ _ (by omega) (by omega) (by intro e; cases e)); simp only [gt_iff_lt, decide_eq_true_eq] at h3; refine Tot.bind (T_pick (by omega)) (fun x hx => j1 _ _ (by omega) (by omega) (fun _ => by omega))
theorem perm_flat_app {α β : Type} (g h : α → List β) : ∀ l : List α, (l.flatMap fun x => g x ++ h x).Perm (l.flatMap g ++ l.flatMap h)
  | [] => by simp
  | x :: l => by
    rw [List.flatMap_cons, List.flatMap_cons, List.flatMap_cons, List.append_assoc, List.append_assoc]; refine List.Perm.append_left _ ?_; refine ((perm_flat_app g h l).append_left _).trans ?_; rw [← List.append_assoc, ← List.append_assoc]; exact List.Perm.append_right _ List.perm_append_comm
theorem perm_flat_swap {α β γ : Type} (f : α → β → List γ) (b : List β) : ∀ a : List α, (a.flatMap fun x => b.flatMap fun y => f x y).Perm (b.flatMap fun y => a.flatMap fun x => f x y)
  | [] => by
    simp only [List.flatMap_nil]; rw [show (b.flatMap fun _ => ([] : List γ)) = [] by induction b <;> simp_all]
  | x :: a => by
    simp only [List.flatMap_cons]; exact ((perm_flat_swap f b a).append_left _).trans (perm_flat_app _ _ b).symm
theorem filter_map_flat {α β : Type} (p : β → Bool) (f : α → β) : ∀ l : List α, (l.map f).filter p = l.flatMap fun x => if p (f x) = true then [f x] else []
  | [] => rfl
  | x :: l => by
    rw [List.map_cons, List.flatMap_cons, ← filter_map_flat p f l]
    by_cases h : p (f x) = true
    · rw [List.filter_cons_of_pos h, if_pos h]; rfl
    · rw [List.filter_cons_of_neg h, if_neg h]; rfl
theorem flat_congr {α β : Type} {f g : α → List β} : ∀ {l : List α}, (∀ x ∈ l, f x = g x) → l.flatMap f = l.flatMap g
  | [], _ => rfl
  | x :: l, h => by rw [List.flatMap_cons, List.flatMap_cons, h x List.mem_cons_self, flat_congr fun y hy => h y (List.mem_cons_of_mem _ hy)]
def parts (r : Row) (b : Rows) (e : List Pt) : Rows := (b.map (r ++ ·)).filter (holdsB e)
theorem fits_rsSm {cs : List Col} {rs : Rows} (h : rs.length ≤ 400000000) (hf : ∀ r ∈ rs, rowFits cs r = true) : rsSm rs := by
  refine ⟨h, fun r hr => ?_⟩; have := rowOk_all (fits_get (hf r hr)).2.1; refine ⟨by omega, fun v hv => ?_⟩; have := (vN (this.2 v hv)).2; unfold vSm; omega
theorem E_kept {a : Rows} {p : Row → Option Bool} {q : Row → Bool} (h : a.length ≤ 1000) (hl : ∀ r ∈ a, r.length ≤ 4) (hp : ∀ r ∈ a, p r = some (q r)) : m_impl_kept a p = some (a.filter q) := by
  unfold m_impl_kept; have e := scanMF (f := fun r => if q r = true then some r else none) (J := fun o => m_impl_kept_j2 p o) a (fun n k o => m_impl_kept_l1 p n a (a.length : Int) k o) (fun n k r o hr ho => ?_) (fun n o ho => by rw [m_impl_kept_l1, dnlt, cond_false]) _ fuel0
  · rw [e]
    unfold m_impl_kept_j2; have ef : a.filterMap (fun r => if q r = true then some r else none) = a.filter q := by rw [← List.filterMap_eq_filter]; rfl
    have := List.length_filter_le q a; rw [ef, E_rowsCopy (by omega) (fun r hr => by have := hl r (List.mem_filter.1 hr).1; omega)]; rfl
  · have hk := lt_of_at hr
    rw [m_impl_kept_l1, dlt hk, cond_true, at_of hr, Option.bind_some, hp r (List.mem_of_getElem? hr), Option.bind_some]; unfold m_impl_kept_j1; cases q r with
    | true => rw [cond_true, app1 (by omega), Option.bind_some, ck1 (by omega), Option.bind_some]; rfl
    | false => rw [cond_false, ck1 (by omega), Option.bind_some]; simp
def belowN (cuts : List Int) (n : Int) : Nat := (cuts.filter fun x => decide (x ≤ n)).length
theorem E_below {cuts : List Int} {n : Int} (h : cuts.length ≤ 1000) : m_impl_below cuts n = some (belowN cuts n : Int) := by
  unfold m_impl_below; rw [L_slices_Clone_Lint_int (by omega), Option.bind_some, L_slices_DeleteFunc_Lint_int (p := fun x => m_impl_below_1 x n) (q := fun x => decide (x > n)) (by omega) (fun x _ => rfl), Option.bind_some]; unfold belowN
  congr 4
  funext x
  rw [Bool.eq_iff_iff]; simp
theorem below_le (cuts : List Int) (n : Int) : belowN cuts n ≤ cuts.length := List.length_filter_le _ _
theorem below_mono {cuts : List Int} {m n : Int} (h : m ≤ n) : belowN cuts m ≤ belowN cuts n := by
  unfold belowN
  induction cuts with
  | nil => simp
  | cons x l ih =>
    by_cases h1 : x ≤ m
    · rw [List.filter_cons_of_pos (by simpa using h1), List.filter_cons_of_pos (by simp; omega)]; simpa using ih
    · rw [List.filter_cons_of_neg (by simpa using h1)]
      by_cases h2 : x ≤ n
      · rw [List.filter_cons_of_pos (by simpa using h2)]; simp only [List.length_cons]; omega
      · rw [List.filter_cons_of_neg (by simpa using h2)]; exact ih
def risP (l : List Int) : Prop := l.length ≤ 4 ∧ (∀ x ∈ l, -9999 ≤ x ∧ x ≤ 9999) ∧ ∀ (k : Nat) x y, l[k]? = some x → l[k + 1]? = some y → x < y
theorem ris_loop {l : List Int} (h : risP l) : ∀ (d k n : Nat), k + d = l.length → d < n → m_impl_rising_l1 n l (-9999) 9999 l (l.length : Int) (k : Int) = some true := by
  intro d
  induction d with
  | zero =>
    intro k n hk hd; obtain ⟨n, rfl⟩ : ∃ q, n = q + 1 := ⟨n - 1, by omega⟩; have : k = l.length := by omega
    subst this; rw [m_impl_rising_l1, dnlt]; rfl
  | succ d ih =>
    intro k n hk hd; obtain ⟨n, rfl⟩ : ∃ q, n = q + 1 := ⟨n - 1, by omega⟩; have hlt : k < l.length := by omega
    have hl := h.1; obtain ⟨x, hx⟩ : ∃ x, l[k]? = some x := ⟨_, List.getElem?_eq_getElem hlt⟩; have hb := h.2.1 x (List.mem_of_getElem? hx)
    have nxt : m_impl_rising_j1 (m_impl_rising_l1 n) l (-9999) 9999 l (l.length : Int) (k : Int) false = some true := by
      unfold m_impl_rising_j1; rw [cond_false, ck1 (by omega), Option.bind_some, show ((k : Int) + 1) = ((k + 1 : Nat) : Int) by omega]; exact ih (k + 1) n (by omega) (by omega)
    rw [m_impl_rising_l1, dlt hlt, cond_true, at_of hx, Option.bind_some, E_between, Option.bind_some, decide_eq_true hb.1, decide_eq_true hb.2, Bool.and_self, Bool.not_true, cond_false]
    by_cases hk0 : k = 0
    · subst hk0
      exact nxt
    · obtain ⟨j, rfl⟩ : ∃ j, k = j + 1 := ⟨k - 1, by omega⟩
      obtain ⟨y, hy⟩ : ∃ y, l[j]? = some y := ⟨_, List.getElem?_eq_getElem (by omega)⟩; have hlt' := h.2.2 j y x hy hx; rw [decide_eq_true (show (((j + 1 : Nat) : Int)) > 0 by omega), cond_true, ckI_of (by omega) (by omega), Option.bind_some, show (((j + 1 : Nat) : Int) - 1) = (j : Int) by omega, at_of hy, Option.bind_some, decide_eq_false (show ¬ y ≥ x by omega)]; exact nxt
theorem E_CutsOk {l : List Int} (h : risP l) : m_impl_CutsOk l = some true := by
  unfold m_impl_CutsOk m_impl_CutsOk_j1 m_impl_rising; rw [decide_eq_true (show (l.length : Int) ≤ 4 by have := h.1; omega), cond_true]; have e := ris_loop h l.length 0 (((l.length : Int) - 0).toNat + 1) (by omega) fuel0; rw [show (((0 : Nat) : Int)) = 0 from rfl] at e; rw [e]; rfl
theorem tyV_sz1 {v : V} {k : Int} (h : tyV v k) : v.S.size ≤ 1000 := (vN h.1).2
def partN (cuts : List Int) (v : V) : Nat := if v.Kind = 0 then 0 else belowN cuts v.N
theorem E_PartOf {cuts : List Int} {v : V} (hc : risP cuts) (hv : tyV v 1) : m_impl_PartOf cuts v = some (partN cuts v : Int) := by
  unfold m_impl_PartOf; rw [E_CutsOk hc, Option.bind_some, Bool.not_true, cond_false, E_Value_ok (by have := tyV_sz1 hv; omega), Option.bind_some, hv.1]; unfold m_impl_PartOf_j1 partN; rw [Bool.not_true, cond_false]
  by_cases h0 : v.Kind = 0
  · rw [beqE h0, cond_true, if_pos h0]; rfl
  · rw [beqF h0, cond_false, beqE (hv.2.resolve_right h0), cond_true, if_neg h0, E_below (by have := hc.1; omega)]; rfl
theorem part_le {cuts : List Int} {v : V} : partN cuts v ≤ cuts.length := by
  unfold partN
  split
  · exact Nat.zero_le _
  · exact below_le _ _
theorem copies_loop {L : List Rows} (hL : L.length ≤ 100) (h : ∀ l ∈ L, l.length ≤ 100 ∧ ∀ r ∈ l, r.length ≤ 100) : ∀ (d k n : Nat), k + d = L.length → d < n → m_impl_partsOf_l2 n (L.length : Int) (k : Int) L = some L := by
  intro d
  induction d with
  | zero =>
    intro k n hk hd; obtain ⟨n, rfl⟩ : ∃ q, n = q + 1 := ⟨n - 1, by omega⟩; have : k = L.length := by omega
    subst this; rw [m_impl_partsOf_l2, dnlt]; rfl
  | succ d ih =>
    intro k n hk hd; obtain ⟨n, rfl⟩ : ∃ q, n = q + 1 := ⟨n - 1, by omega⟩; have hlt : k < L.length := by omega
    obtain ⟨l, hl⟩ : ∃ l, L[k]? = some l := ⟨_, List.getElem?_eq_getElem hlt⟩; have hb := h l (List.mem_of_getElem? hl)
    have hset : L.set k l = L := by
      apply List.ext_getElem?
      intro i; rw [List.getElem?_set]
      by_cases e : k = i
      · subst e; rw [if_pos rfl, if_pos hlt, hl]
      · rw [if_neg e]
    rw [m_impl_partsOf_l2, dlt hlt, cond_true, at_of hl, Option.bind_some, Option.bind_some, E_rowsCopy (by omega) (fun r hr => by have := hb.2 r hr; omega), Option.bind_some, Option.bind_some, ck1 (by omega), Option.bind_some, Int.toNat_natCast, hset, show ((k : Int) + 1) = ((k + 1 : Nat) : Int) by omega]; exact ih (k + 1) n (by omega) (by omega)
def seqI : Int → Nat → List Int
  | _, 0 => []
  | a, m + 1 => a :: seqI (a + 1) m
theorem seqI_mem : ∀ {m : Nat} {a x : Int}, x ∈ seqI a m ↔ a ≤ x ∧ x < a + m
  | 0, a, x => by first | (simp [seqI]; done) | (simp [seqI]; omega)
  | m + 1, a, x => by rw [seqI, List.mem_cons, seqI_mem (m := m)]; omega
theorem seqI_nodup : ∀ (m : Nat) (a : Int), (seqI a m).Nodup
  | 0, a => List.nodup_nil
  | m + 1, a => by
    rw [seqI, List.nodup_cons]; exact ⟨fun h => by have := seqI_mem.1 h; omega, seqI_nodup m _⟩
theorem seqI_len : ∀ (m : Nat) (a : Int), (seqI a m).length = m
  | 0, _ => rfl
  | m + 1, a => by rw [seqI, List.length_cons, seqI_len]
theorem E_cloneI {l : List Int} (h : l.length ≤ 900000000) : m_impl_clone_int l = some l := by
  unfold m_impl_clone_int; cases l with
  | nil => rfl
  | cons x l =>
    rw [beqF (by simp; omega), cond_false]; unfold appN? m_slices_Clip_Lint_int_o; rw [if_pos (by simp at h ⊢; omega)]; rfl
theorem pf_loop : ∀ (m n : Nat) (a : Int) (o : List Int), m < n → (-10 ≤ a ∧ a + m ≤ 100) → o.length + m ≤ 1000 → m_impl_PartsFor_l1 n (a + m - 1) a o = some (o ++ seqI a m) := by
  intro m
  induction m with
  | zero =>
    intro n a o hn ha ho; obtain ⟨n, rfl⟩ : ∃ q, n = q + 1 := ⟨n - 1, by omega⟩; rw [m_impl_PartsFor_l1, decide_eq_false (show ¬ a ≤ a + ((0 : Nat) : Int) - 1 by omega), cond_false]; unfold m_impl_PartsFor_j3; rw [E_cloneI (by omega)]; simp [seqI]
  | succ m ih =>
    intro n a o hn ha ho; obtain ⟨n, rfl⟩ : ∃ q, n = q + 1 := ⟨n - 1, by omega⟩; rw [m_impl_PartsFor_l1, decide_eq_true (show a ≤ a + ((m + 1 : Nat) : Int) - 1 by omega), cond_true, app_of (by simp; omega), Option.bind_some, ckI_of (by omega) (by omega), Option.bind_some]; have := ih n (a + 1) (o ++ [a]) (by omega) (by omega) (by simp; omega); rw [show a + 1 + (m : Int) - 1 = a + ((m + 1 : Nat) : Int) - 1 by omega] at this; rw [this, seqI, List.append_assoc]; rfl
theorem pf_j2 {a : Int} {b : Int} (ha : 0 ≤ a) (hb : a ≤ b) (h : b ≤ 10) : m_impl_PartsFor_j2 a b = some (seqI a (b - a).toNat.succ) := by
  unfold m_impl_PartsFor_j2; have := pf_loop (b - a).toNat.succ ((b - a).toNat + 2) a [] (by omega) (by omega) (by simp; omega); rw [show a + (((b - a).toNat.succ : Nat) : Int) - 1 = b by omega] at this; rw [this, List.nil_append]
def num (n : Int) : V := ⟨1, n, ⟨#[]⟩⟩
theorem cmpS_nil : cmpS ⟨#[]⟩ ⟨#[]⟩ = 0 := (TO_str.eq0 _ _).2 rfl
theorem vOrd_num (m n : Int) : vOrd (num m) (num n) = cmpI m n := by
  unfold vOrd num; rw [show cmpI (1 : Int) 1 = 0 from rfl, cmpS_nil]; unfold cmpI
  by_cases h : m < n
  · rw [if_pos h]; rfl
  · rw [if_neg h]
    by_cases h2 : n < m
    · rw [if_pos h2]; rfl
    · rw [if_neg h2]; rfl
theorem num_of {v : V} (h : vOk v = true) (hk : v.Kind = 1) : v = num v.N ∧ -9999 ≤ v.N ∧ v.N ≤ 9999 := by
  obtain ⟨k, m, s⟩ := v; simp only at hk; subst hk; unfold vOk at h; rw [if_neg (show ¬ (1 : Int) = 0 by decide), if_pos rfl] at h; simp only [Bool.and_eq_true, decide_eq_true_eq] at h; rw [h.1]; exact ⟨rfl, h.2⟩
theorem cmp_part {cuts : List Int} {v : V} {kind n : Int} (hv : tyV v 1) (hn : -9999 ≤ n ∧ n ≤ 9999) (h : cmpT kind v (num n) = 1) : (kind = 1 → partN cuts v = belowN cuts n) ∧ (kind = 3 → partN cuts v ≤ belowN cuts (n - 1)) ∧ (kind = 4 → partN cuts v ≤ belowN cuts n) := by
  unfold cmpT at h
  split at h
  · by_cases h0 : v.Kind = 0
    · rw [if_pos (.inl h0)] at h; cases h
    · obtain ⟨e, b1, b2⟩ := num_of hv.1 (hv.2.resolve_right h0)
      rw [if_neg (fun hx => hx.elim h0 (fun h1 => by cases h1)), if_pos (show v.Kind = (num n).Kind from hv.2.resolve_right h0)] at h; have hp : partN cuts v = belowN cuts v.N := by unfold partN; rw [if_neg h0]
      rw [hp]; rw [e, vOrd_num] at h
      have hr : cmpR kind (cmpI v.N n) = true := by
        cases hc : cmpR kind (cmpI v.N n) with
        | true => rfl
        | false => rw [hc, if_neg (by decide)] at h; cases h
      unfold cmpR cmpI at hr; refine ⟨fun hk => ?_, fun hk => ?_, fun hk => ?_⟩
      · subst hk
        rw [if_pos rfl] at hr
        have : v.N = n := by
          have hr := of_decide_eq_true hr
          split at hr
          · cases hr
          · split at hr
            · cases hr
            · omega
        rw [this]
      · subst hk
        rw [if_neg (by decide), if_neg (by decide), if_pos rfl] at hr; have hr := of_decide_eq_true hr; refine below_mono ?_
        split at hr
        · omega
        · split at hr
          · exact absurd hr (by decide)
          · exact absurd hr (by decide)
      · subst hk
        rw [if_neg (by decide), if_neg (by decide), if_neg (by decide)] at hr; have hr := of_decide_eq_true hr; refine below_mono ?_
        split at hr
        · omega
        · split at hr
          · exact absurd hr (by decide)
          · omega
  · cases h
theorem E_PartsFor {cuts : List Int} {kind n : Int} (hc : risP cuts) (hk : 1 ≤ kind ∧ kind ≤ 4) (hn : -1 ≤ n ∧ n ≤ 10) :
    ∃ ks, m_impl_PartsFor cuts kind n = some ks ∧ ks.Nodup ∧ ks.length ≤ 20 ∧ (∀ k ∈ ks, 0 ≤ k ∧ k ≤ cuts.length) ∧ ∀ v, tyV v 1 → cmpT kind v (num n) = 1 → ((partN cuts v : Nat) : Int) ∈ ks := by
  have hl := hc.1; have hb := below_le cuts n; have hb1 := below_le cuts (n - 1); unfold m_impl_PartsFor; rw [E_CutsOk hc, Option.bind_some, Bool.not_true, cond_false, show m_impl_numOk n = some true by unfold m_impl_numOk; rw [E_between, decide_eq_true (show (-9999 : Int) ≤ n by omega), decide_eq_true (show n ≤ (9999 : Int) by omega)]; rfl, Option.bind_some]; unfold m_impl_PartsFor_j1; rw [Bool.not_true, cond_false, E_below (by omega)]
  have fin : ∀ (a b : Int), 0 ≤ a → a ≤ b → b ≤ cuts.length → (∀ v, tyV v 1 → cmpT kind v (num n) = 1 → a ≤ ((partN cuts v : Nat) : Int) ∧ ((partN cuts v : Nat) : Int) ≤ b) → ∃ ks, m_impl_PartsFor_j2 a b = some ks ∧ ks.Nodup ∧ ks.length ≤ 20 ∧ (∀ k ∈ ks, 0 ≤ k ∧ k ≤ cuts.length) ∧ ∀ v, tyV v 1 → cmpT kind v (num n) = 1 → ((partN cuts v : Nat) : Int) ∈ ks := by
    intro a b h1 h2 h3 h4; refine ⟨_, pf_j2 h1 h2 (by omega), seqI_nodup _ _, by rw [seqI_len]; omega, fun k hk => ?_, fun v hv hx => ?_⟩
    · have := seqI_mem.1 hk; omega
    · have := h4 v hv hx
      rw [seqI_mem]; omega
  have hk' : kind = 1 ∨ kind = 2 ∨ kind = 3 ∨ kind = 4 := by omega
  rcases hk' with rfl | rfl | rfl | rfl
  · rw [show ((1 : Int) == 1) = true from rfl, cond_true, Option.bind_some, Option.bind_some]
    refine fin (belowN cuts n) (belowN cuts n) (by omega) (Int.le_refl _) (by omega) fun v hv hx => ?_; have := (cmp_part (cuts := cuts) hv (by omega) hx).1 rfl; omega
  · rw [show ((2 : Int) == 1) = false from rfl, cond_false, show ((2 : Int) == 2) = true from rfl, cond_true]
    refine fin 0 (cuts.length : Int) (by omega) (by omega) (by omega) fun v hv hx => ?_; have := part_le (cuts := cuts) (v := v); omega
  · rw [show ((3 : Int) == 1) = false from rfl, cond_false, show ((3 : Int) == 2) = false from rfl, cond_false, show ((3 : Int) == 3) = true from rfl, cond_true]
    rw [ckI_of (by omega) (by omega), Option.bind_some, E_below (by omega), Option.bind_some]; refine fin 0 (belowN cuts (n - 1)) (by omega) (by omega) (by omega) fun v hv hx => ?_; have := (cmp_part (cuts := cuts) hv (by omega) hx).2.1 rfl; omega
  · rw [show ((4 : Int) == 1) = false from rfl, cond_false, show ((4 : Int) == 2) = false from rfl, cond_false, show ((4 : Int) == 3) = false from rfl, cond_false, show ((4 : Int) == 4) = true from rfl, cond_true, Option.bind_some]
    refine fin 0 (belowN cuts n) (by omega) (by omega) (by omega) fun v hv hx => ?_; have := (cmp_part (cuts := cuts) hv (by omega) hx).2.2 rfl; omega
def suits (kind n : Int) (r : Row) : Bool := decide (cmpT kind (rowAt r 0) (num n) = 1)
theorem parts_perm {ks : List Int} {f : Row → Int} {p : Row → Bool} (hn : ks.Nodup) {l : Rows} (h : ∀ r ∈ l, p r = true → f r ∈ ks) : (ks.flatMap fun k => (l.filter fun r => decide (f r = k)).filter p).Perm (l.filter p) := by
  have e1 : (ks.flatMap fun k => (l.filter fun r => decide (f r = k)).filter p) = ks.flatMap fun k => l.flatMap fun r => if (p r && decide (f r = k)) = true then [r] else [] := by
    congr 1
    funext k
    rw [List.filter_filter]; have := filter_map_flat (fun r => p r && decide (f r = k)) id l; rw [List.map_id] at this; exact this
  have e2 : l.filter p = l.flatMap fun r => if p r = true then [r] else [] := by
    have := filter_map_flat p id l; rw [List.map_id] at this; exact this
  rw [e1, e2]; refine (perm_flat_swap _ l ks).trans ?_; rw [flat_congr (g := fun r => if p r = true then [r] else []) fun r hr => ?_]
  by_cases hp : p r = true
  · rw [if_pos hp]
    have hm := h r hr hp; simp only [hp, Bool.true_and, decide_eq_true_eq]; clear h hr hp e1 e2
    induction ks with
    | nil => cases hm
    | cons k ks ih =>
      rw [List.nodup_cons] at hn; rw [List.flatMap_cons]; rcases List.mem_cons.1 hm with e | hm
      · rw [if_pos e]
        have : (ks.flatMap fun k => if f r = k then [r] else []) = [] := by
          rw [List.flatMap_eq_nil_iff]; intro k' hk'; rw [if_neg (fun e' => hn.1 (by rw [← e, e']; exact hk'))]
        rw [this]; rfl
      · rw [if_neg (fun e' => hn.1 (by rw [← e']; exact hm)), List.nil_append]
        exact ih hn.2 hm
  · rw [if_neg hp]
    have hp' : p r = false := by simpa using hp
    rw [List.flatMap_eq_nil_iff]; intro k _; rw [hp']; rfl
def okAt (l : List Int) (k : Nat) : Bool := (decide (-9999 ≤ l.getD k 0) && decide (l.getD k 0 ≤ 9999)) && (decide (k = 0) || decide (l.getD (k - 1) 0 < l.getD k 0))
def cutsB (l : List Int) : Bool := decide (l.length ≤ 4) && (List.range' 0 l.length).all (okAt l)
theorem getD_k {l : List Int} {k : Nat} (h : k < l.length) : l[k]? = some (l.getD k 0) := by
  rw [List.getD_eq_getElem?_getD, List.getElem?_eq_getElem h]; rfl
theorem rise_loop {l : List Int} (hl : l.length ≤ 1000) : ∀ (d k n : Nat), k + d = l.length → d < n → m_impl_rising_l1 n l (-9999) 9999 l (l.length : Int) (k : Int) = some ((List.range' k d).all (okAt l)) := by
  intro d
  induction d with
  | zero =>
    intro k n hk hd; obtain ⟨n, rfl⟩ : ∃ q, n = q + 1 := ⟨n - 1, by omega⟩; have : k = l.length := by omega
    subst this; rw [m_impl_rising_l1, dnlt]; rfl
  | succ d ih =>
    intro k n hk hd; obtain ⟨n, rfl⟩ : ∃ q, n = q + 1 := ⟨n - 1, by omega⟩; have hlt : k < l.length := by omega
    have hx := getD_k hlt
    have nxt : ∀ b, m_impl_rising_j1 (m_impl_rising_l1 n) l (-9999) 9999 l (l.length : Int) (k : Int) b = some (!b && (List.range' (k + 1) d).all (okAt l)) := by
      intro b; unfold m_impl_rising_j1; cases b with
      | true => rfl
      | false =>
        rw [cond_false, ck1 (by omega), Option.bind_some, show ((k : Int) + 1) = ((k + 1 : Nat) : Int) by omega, ih (k + 1) n (by omega) (by omega)]; rfl
    rw [m_impl_rising_l1, dlt hlt, cond_true, at_of hx, Option.bind_some, E_between, Option.bind_some, List.range'_succ, List.all_cons]; unfold okAt; cases hb : (decide (-9999 ≤ l.getD k 0) && decide (l.getD k 0 ≤ 9999)) with
    | false => rw [Bool.not_false, cond_true, nxt]; rfl
    | true =>
      rw [Bool.not_true, cond_false, Bool.true_and]
      by_cases hk0 : k = 0
      · subst hk0
        rw [decide_eq_false (show ¬ (((0 : Nat) : Int)) > 0 by omega), cond_false, nxt, decide_eq_true rfl]; rfl
      · have hy := getD_k (l := l) (k := k - 1) (by omega)
        rw [decide_eq_true (show ((k : Nat) : Int) > 0 by omega), cond_true, ckI_of (by omega) (by omega), Option.bind_some, show ((k : Int) - 1) = ((k - 1 : Nat) : Int) by omega, at_of hy, Option.bind_some, nxt, decide_eq_false hk0, Bool.false_or]
        congr 2
        rw [Bool.eq_iff_iff]; simp
theorem E_CutsOk_g {l : List Int} : m_impl_CutsOk l = some (cutsB l) := by
  unfold m_impl_CutsOk m_impl_CutsOk_j1 m_impl_rising cutsB
  by_cases h : l.length ≤ 4
  · rw [decide_eq_true (show (l.length : Int) ≤ 4 by omega), cond_true, decide_eq_true h]
    have e := rise_loop (l := l) (by omega) l.length 0 (((l.length : Int) - 0).toNat + 1) (by omega) fuel0; rw [show (((0 : Nat) : Int)) = 0 from rfl] at e; rw [e]; rfl
  · rw [decide_eq_false (show ¬ (l.length : Int) ≤ 4 by omega), decide_eq_false h]; rfl
theorem cuts_loop {l : List Int} (hl : l.length ≤ 1000) : ∀ (d k n : Nat), k + d = l.length → d < n → m_spec_CutsOk_l1 n l (k : Int) = some ((List.range' k d).all (okAt l) && decide (l.length ≤ 4)) := by
  intro d
  induction d with
  | zero =>
    intro k n hk hd; obtain ⟨n, rfl⟩ : ∃ q, n = q + 1 := ⟨n - 1, by omega⟩; have : k = l.length := by omega
    subst this; rw [m_spec_CutsOk_l1, dnlt, cond_false]; unfold m_spec_CutsOk_j2
    congr 1
    rw [Bool.eq_iff_iff]; simp; omega
  | succ d ih =>
    intro k n hk hd; obtain ⟨n, rfl⟩ : ∃ q, n = q + 1 := ⟨n - 1, by omega⟩; have hlt : k < l.length := by omega
    have hx := getD_k hlt
    have nxt : ∀ b, m_spec_CutsOk_j1 (m_spec_CutsOk_l1 n) l (k : Int) b = some ((!b && (List.range' (k + 1) d).all (okAt l)) && decide (l.length ≤ 4)) := by
      intro b; unfold m_spec_CutsOk_j1; cases b with
      | true => rfl
      | false =>
        rw [cond_false, ck1 (by omega), Option.bind_some, show ((k : Int) + 1) = ((k + 1 : Nat) : Int) by omega, ih (k + 1) n (by omega) (by omega)]; rfl
    rw [m_spec_CutsOk_l1, dlt hlt, cond_true, at_of hx, Option.bind_some, E_l1In, Option.bind_some, List.range'_succ, List.all_cons]; unfold okAt; cases hb : (decide (-9999 ≤ l.getD k 0) && decide (l.getD k 0 ≤ 9999)) with
    | false => rw [Bool.not_false, cond_true, nxt]; rfl
    | true =>
      rw [Bool.not_true, cond_false, Bool.true_and]
      by_cases hk0 : k = 0
      · subst hk0
        rw [decide_eq_false (show ¬ (((0 : Nat) : Int)) > 0 by omega), cond_false, nxt, decide_eq_true rfl]; rfl
      · have hy := getD_k (l := l) (k := k - 1) (by omega)
        rw [decide_eq_true (show ((k : Nat) : Int) > 0 by omega), cond_true, ckI_of (by omega) (by omega), Option.bind_some, show ((k : Int) - 1) = ((k - 1 : Nat) : Int) by omega, at_of hy, Option.bind_some, Option.bind_some, nxt, decide_eq_false hk0, Bool.false_or]
        congr 3
        rw [Bool.eq_iff_iff]; simp
theorem E_spec_CutsOk_g {l : List Int} (hl : l.length ≤ 1000) : m_spec_CutsOk l = some (cutsB l) := by
  unfold m_spec_CutsOk cutsB; have e := cuts_loop hl l.length 0 (((l.length : Int) - 0).toNat + 1) (by omega) fuel0; rw [show (((0 : Nat) : Int)) = 0 from rfl] at e; rw [e, Bool.and_comm]
theorem cutsB_ris {l : List Int} (h : cutsB l = true) : risP l := by
  unfold cutsB at h; rw [Bool.and_eq_true, decide_eq_true_eq, List.all_eq_true] at h; have at' : ∀ k, k < l.length → okAt l k = true := fun k hk => h.2 k (by rw [List.mem_range'_1]; omega); refine ⟨h.1, fun x hx => ?_, fun k x y hx hy => ?_⟩
  · obtain ⟨k, hk⟩ := List.getElem?_of_mem hx
    have hlt : k < l.length := by
      rcases Nat.lt_or_ge k l.length with g | g
      · exact g
      · rw [List.getElem?_eq_none g] at hk; cases hk
    have := at' k hlt; unfold okAt at this; rw [getD_of hk] at this; simp only [Bool.and_eq_true, decide_eq_true_eq] at this; exact this.1
  · have hlt : k + 1 < l.length := by
      rcases Nat.lt_or_ge (k + 1) l.length with g | g
      · exact g
      · rw [List.getElem?_eq_none g] at hy; cases hy
    have := at' (k + 1) hlt; unfold okAt at this; rw [getD_of hy, show k + 1 - 1 = k from rfl, getD_of hx] at this; simp only [Bool.and_eq_true, Bool.or_eq_true, decide_eq_true_eq] at this; rcases this.2 with g | g
    · omega
    · exact g
theorem asc_lt {l : List Int} (h : risP l) : ∀ (j k : Nat) (x y : Int), j < k → l[j]? = some x → l[k]? = some y → x < y := by
  intro j k
  induction k with
  | zero => intro x y hj; omega
  | succ k ih =>
    intro x y hj hx hy
    have hk : k < l.length := by
      rcases Nat.lt_or_ge (k + 1) l.length with g | g
      · omega
      · rw [List.getElem?_eq_none g] at hy; cases hy
    have hz : l[k]? = some l[k] := List.getElem?_eq_getElem hk; have h1 := h.2.2 k _ y hz hy
    by_cases e : j = k
    · subst e; rw [hz] at hx; cases hx; exact h1
    · have := ih x l[k] (by omega) hx hz
      omega
theorem filter_pre {p : Int → Bool} : ∀ (l : List Int) (m : Nat), m ≤ l.length → (∀ (k : Nat) x, l[k]? = some x → (p x = true ↔ k < m)) → (l.filter p).length = m
  | [], m, hm, _ => by simp at hm; simp [hm]
  | x :: l, 0, _, h => by
    rw [List.filter_cons_of_neg (by have := h 0 x rfl; simp at this; simpa using this)]; exact filter_pre l 0 (Nat.zero_le _) fun k y hy => by have := h (k + 1) y (by simpa using hy); simpa using this
  | x :: l, m + 1, hm, h => by
    rw [List.filter_cons_of_pos ((h 0 x rfl).2 (by omega)), List.length_cons, filter_pre l m (by simpa using hm) fun k y hy => by have := h (k + 1) y (by simpa using hy); rw [this]; omega]
theorem cnt_loop {R : Type} {L : Nat → Int → Option R} {J : Int → Option R} {q : Int → Bool} {l : List Int} (hl : risP l) (mono : ∀ x y, x < y → q y = true → q x = true)
    (step : ∀ n (k : Nat) x, l[k]? = some x → L (n + 1) (k : Int) = if q x = true then L n ((k : Int) + 1) else J (k : Int)) (stop : ∀ n, L (n + 1) (l.length : Int) = J (l.length : Int)) : ∀ (d k n : Nat), k + d = l.length → d < n → (∀ (j : Nat) x, j < k → l[j]? = some x → q x = true) → L n (k : Int) = J ((l.filter q).length : Int) := by
  intro d
  induction d with
  | zero =>
    intro k n hk hd h; obtain ⟨n, rfl⟩ : ∃ m, n = m + 1 := ⟨n - 1, by omega⟩; have : k = l.length := by omega
    subst this; rw [stop, filter_pre l l.length (Nat.le_refl _) fun j x hx => ⟨fun _ => ?_, fun hj => h j x hj hx⟩]; rcases Nat.lt_or_ge j l.length with g | g
    · exact g
    · rw [List.getElem?_eq_none g] at hx; cases hx
  | succ d ih =>
    intro k n hk hd h; obtain ⟨n, rfl⟩ : ∃ m, n = m + 1 := ⟨n - 1, by omega⟩; have hlt : k < l.length := by omega
    have hx : l[k]? = some l[k] := List.getElem?_eq_getElem hlt; rw [step n k _ hx]
    by_cases hq : q l[k] = true
    · rw [if_pos hq, show ((k : Int) + 1) = ((k + 1 : Nat) : Int) by omega]
      refine ih (k + 1) n (by omega) (by omega) fun j x hj hjx => ?_
      by_cases e : j = k
      · subst e; rw [hx] at hjx; cases hjx; exact hq
      · exact h j x (by omega) hjx
    · rw [if_neg hq, filter_pre l k (by omega) fun j x hjx => ⟨fun hqx => ?_, fun hj => h j x hj hjx⟩]
      rcases Nat.lt_or_ge j k with g | g
      · exact g
      · exfalso
        by_cases e : j = k
        · subst e; rw [hx] at hjx; cases hjx; exact hq hqx
        · exact hq (mono _ _ (asc_lt hl k j _ _ (by omega) hx hjx) hqx)
theorem E_spec_PartOf {cuts : List Int} {v : V} (hc : cutsB cuts = true) (hv : tyV v 1) : m_spec_PartOf cuts v = some (partN cuts v : Int) := by
  have hr := cutsB_ris hc; have hl := hr.1; unfold m_spec_PartOf; rw [E_spec_CutsOk_g (by omega), hc, Option.bind_some, Bool.not_true, cond_false, E_spec_ValueOk (by have := tyV_sz1 hv; omega), Option.bind_some, hv.1, Bool.not_true, cond_false]; unfold m_spec_PartOf_j1 partN
  by_cases h0 : v.Kind = 0
  · rw [beqF' (show ¬ v.Kind = 1 by omega), cond_true, bneF h0, cond_false, if_pos h0, show (1000000000 : Nat) = 999999999 + 1 from rfl, m_spec_PartOf_l1, beqF (show ¬ v.Kind = 1 by omega), cond_false]
    unfold m_spec_PartOf_j2 m_spec_PartOf_j3; cases decide ((0 : Int) < (cuts.length : Int)) <;> rfl
  · have h1 := hv.2.resolve_right h0
    rw [bneF h1, cond_false, cond_false, if_neg h0]
    have e := cnt_loop (L := fun n k => m_spec_PartOf_l1 n cuts v k) (J := fun k => some k) (q := fun x => decide (x ≤ v.N)) hr (fun x y h1 h2 => by simp at h2 ⊢; omega) (fun n k x hx => by
      have hlt := lt_of_at hx; rw [m_spec_PartOf_l1, dlt hlt, cond_true, beqE h1, cond_true, at_of hx, Option.bind_some]; unfold m_spec_PartOf_j2
      by_cases hq : x ≤ v.N
      · rw [decide_eq_true hq, cond_true, ck1 (by omega), Option.bind_some, if_pos rfl]
      · rw [decide_eq_false hq, cond_false, if_neg (by decide)]; rfl) (fun n => by rw [m_spec_PartOf_l1, dnlt, cond_false]; rfl) cuts.length 0 1000000000 (by omega) (by omega) (fun j x hj => by omega)
    exact e
def sel (kind a b k : Int) : Bool := if kind = 2 then true else if kind = 1 then decide (k = a) else if kind = 3 then decide (k ≤ b) else decide (k ≤ a)
def ksOf (cuts : List Int) (kind n : Int) : List Int := (seqI 0 (cuts.length + 1)).filter (sel kind (belowN cuts n) (belowN cuts (n - 1)))
theorem sel_loop {cuts : List Int} {kind a b : Int} (hl : cuts.length ≤ 10) (hk : kind = 1 ∨ kind = 2 ∨ kind = 3 ∨ kind = 4) : ∀ (m n : Nat) (k : Int) (o : List Int), k + m = cuts.length + 1 → 0 ≤ k → m < n → o.length + m ≤ 100 → m_spec_PartsFor_l3 n cuts kind a b k o = some (o ++ (seqI k m).filter (sel kind a b)) := by
  intro m
  induction m with
  | zero =>
    intro n k o h1 h0 h2 h3; obtain ⟨n, rfl⟩ : ∃ q, n = q + 1 := ⟨n - 1, by omega⟩; rw [m_spec_PartsFor_l3, decide_eq_false (show ¬ k ≤ (cuts.length : Int) by omega), cond_false]; simp [seqI, m_spec_PartsFor_j8]
  | succ m ih =>
    intro n k o h1 h0 h2 h3; obtain ⟨n, rfl⟩ : ∃ q, n = q + 1 := ⟨n - 1, by omega⟩
    have nxt : ∀ s : Bool, s = sel kind a b k → m_spec_PartsFor_j6 (m_spec_PartsFor_l3 n) cuts kind a b k s o = some (o ++ (seqI k (m + 1)).filter (sel kind a b)) := by
      intro s hs; unfold m_spec_PartsFor_j6 m_spec_PartsFor_j7; rw [seqI]; cases s with
      | true => rw [cond_true, app_of (by simp; omega), Option.bind_some, ckI_of (by omega) (by omega), Option.bind_some, ih n (k + 1) (o ++ [k]) (by omega) (by omega) (by omega) (by simp; omega), List.filter_cons_of_pos hs.symm, List.append_assoc]; rfl
      | false => rw [cond_false, ckI_of (by omega) (by omega), Option.bind_some, ih n (k + 1) o (by omega) (by omega) (by omega) (by omega), List.filter_cons_of_neg (by rw [← hs]; decide)]
    rw [m_spec_PartsFor_l3, decide_eq_true (show k ≤ (cuts.length : Int) by omega), cond_true]; rcases hk with rfl | rfl | rfl | rfl
    · rw [show ((1 : Int) == 2) = false from rfl, cond_false, show ((1 : Int) == 1) = true from rfl, cond_true, show ((1 : Int) == 3) = false from rfl, cond_false, show ((1 : Int) == 4) = false from rfl, cond_false]
      by_cases e : k = a
      · rw [beqE e, cond_true]; exact nxt _ (by unfold sel; rw [if_neg (by decide), if_pos rfl, decide_eq_true e])
      · rw [beqF e, cond_false]; exact nxt _ (by unfold sel; rw [if_neg (by decide), if_pos rfl, decide_eq_false e])
    · rw [show ((2 : Int) == 2) = true from rfl, cond_true]; exact nxt _ (by unfold sel; rw [if_pos rfl])
    · rw [show ((3 : Int) == 2) = false from rfl, cond_false, show ((3 : Int) == 1) = false from rfl, cond_false, show ((3 : Int) == 3) = true from rfl, cond_true, show ((3 : Int) == 4) = false from rfl, cond_false]
      by_cases e : k ≤ b
      · rw [decide_eq_true e, cond_true]; exact nxt _ (by unfold sel; rw [if_neg (by decide), if_neg (by decide), if_pos rfl, decide_eq_true e])
      · rw [decide_eq_false e, cond_false]; exact nxt _ (by unfold sel; rw [if_neg (by decide), if_neg (by decide), if_pos rfl, decide_eq_false e])
    · rw [show ((4 : Int) == 2) = false from rfl, cond_false, show ((4 : Int) == 1) = false from rfl, cond_false, show ((4 : Int) == 3) = false from rfl, cond_false, show ((4 : Int) == 4) = true from rfl, cond_true]
      exact nxt _ (by unfold sel; rw [if_neg (by decide), if_neg (by decide), if_neg (by decide)])
theorem E_spec_PartsFor {cuts : List Int} {kind n : Int} (hc : cutsB cuts = true) (hn : -1 ≤ n ∧ n ≤ 10) : m_spec_PartsFor cuts kind n = some (if 1 ≤ kind ∧ kind ≤ 4 then ksOf cuts kind n else []) := by
  have hr := cutsB_ris hc; have hl := hr.1; unfold m_spec_PartsFor; rw [E_spec_CutsOk_g (by omega), hc, Option.bind_some, Bool.not_true, cond_false, E_l1In, decide_eq_true (show (-9999 : Int) ≤ n by omega), decide_eq_true (show n ≤ (9999 : Int) by omega), Option.bind_some, Bool.and_self, Bool.not_true, cond_false, E_l1In, Option.bind_some]; unfold m_spec_PartsFor_j1
  by_cases hk : 1 ≤ kind ∧ kind ≤ 4
  · rw [decide_eq_true hk.1, decide_eq_true hk.2, Bool.and_self, Bool.not_true, cond_false, if_pos hk]
    have e1 := cnt_loop (L := fun f k => m_spec_PartsFor_l1 f cuts kind n k 0 []) (J := fun k => m_spec_PartsFor_j3 cuts kind n k 0 []) (q := fun x => decide (x ≤ n)) hr (fun x y h1 h2 => by simp at h2 ⊢; omega) (fun f k x hx => by
      have hlt := lt_of_at hx; rw [m_spec_PartsFor_l1, dlt hlt, cond_true, at_of hx, Option.bind_some]; unfold m_spec_PartsFor_j2
      by_cases hq : x ≤ n
      · rw [decide_eq_true hq, cond_true, ck1 (by omega), Option.bind_some, if_pos rfl]
      · rw [decide_eq_false hq, cond_false, if_neg (by decide)]) (fun f => by rw [m_spec_PartsFor_l1, dnlt, cond_false]; rfl) cuts.length 0 1000000000 (by omega) (by omega) (fun j x hj => by omega)
    have e2 := cnt_loop (L := fun f k => m_spec_PartsFor_l2 f cuts kind n (belowN cuts n) k []) (J := fun k => m_spec_PartsFor_j5 cuts kind (belowN cuts n) k []) (q := fun x => decide (x < n)) hr (fun x y h1 h2 => by simp at h2 ⊢; omega) (fun f k x hx => by
      have hlt := lt_of_at hx; rw [m_spec_PartsFor_l2, dlt hlt, cond_true, at_of hx, Option.bind_some]; unfold m_spec_PartsFor_j4
      by_cases hq : x < n
      · rw [decide_eq_true hq, cond_true, ck1 (by omega), Option.bind_some, if_pos rfl]
      · rw [decide_eq_false hq, cond_false, if_neg (by decide)]) (fun f => by rw [m_spec_PartsFor_l2, dnlt, cond_false]; rfl) cuts.length 0 1000000000 (by omega) (by omega) (fun j x hj => by omega)
    have eb : (cuts.filter fun x => decide (x < n)).length = belowN cuts (n - 1) := by
      unfold belowN
      congr 1
      refine List.filter_congr fun x _ => ?_; rw [Bool.eq_iff_iff]; simp; omega
    refine e1.trans ?_; show m_spec_PartsFor_j3 cuts kind n (belowN cuts n) 0 [] = _; unfold m_spec_PartsFor_j3; refine e2.trans ?_; rw [eb]; unfold m_spec_PartsFor_j5; rw [sel_loop (by omega) (by omega) (cuts.length + 1) _ 0 [] (by omega) (by omega) (by omega) (by simp; omega)]; rfl
  · rw [if_neg hk]
    have : (decide (1 ≤ kind) && decide (kind ≤ 4)) = false := by
      rw [Bool.and_eq_false_iff, decide_eq_false_iff_not, decide_eq_false_iff_not]; omega
    rw [this]; rfl
theorem seqI_eq : ∀ (m : Nat) (a c : Int), a ≤ c → c < a + m → (seqI a m).filter (fun k => decide (k = c)) = [c]
  | 0, a, c, h1, h2 => by omega
  | m + 1, a, c, h1, h2 => by
    rw [seqI]
    by_cases e : a = c
    · subst e
      rw [List.filter_cons_of_pos (by simp)]
      congr 1
      rw [List.filter_eq_nil_iff]; intro x hx; have := seqI_mem.1 hx; simp; omega
    · rw [List.filter_cons_of_neg (by simpa using e), seqI_eq m (a + 1) c (by omega) (by omega)]
theorem seqI_le : ∀ (m : Nat) (a b : Int), a ≤ b + 1 → b < a + m → (seqI a m).filter (fun k => decide (k ≤ b)) = seqI a (b - a + 1).toNat
  | 0, a, b, h1, h2 => by rw [show (b - a + 1).toNat = 0 by omega]; rfl
  | m + 1, a, b, h1, h2 => by
    rw [seqI]
    by_cases e : a ≤ b
    · rw [List.filter_cons_of_pos (by simpa using e), seqI_le m (a + 1) b (by omega) (by omega), show (b - a + 1).toNat = (b - (a + 1) + 1).toNat + 1 by omega, seqI]
    · rw [List.filter_cons_of_neg (by simpa using e), show (b - a + 1).toNat = 0 by omega]
      show _ = []; rw [List.filter_eq_nil_iff]; intro x hx; have := seqI_mem.1 hx; simp; omega
theorem sel_1 (a b : Int) : sel 1 a b = fun k => decide (k = a) := by funext k; unfold sel; rw [if_neg (by decide), if_pos rfl]
theorem sel_2 (a b : Int) : sel 2 a b = fun _ => true := by funext k; unfold sel; rw [if_pos rfl]
theorem sel_3 (a b : Int) : sel 3 a b = fun k => decide (k ≤ b) := by funext k; unfold sel; rw [if_neg (by decide), if_neg (by decide), if_pos rfl]
theorem sel_4 (a b : Int) : sel 4 a b = fun k => decide (k ≤ a) := by funext k; unfold sel; rw [if_neg (by decide), if_neg (by decide), if_neg (by decide)]
theorem E_impl_PartsFor_g {cuts : List Int} {kind n : Int} (hc : cutsB cuts = true) (hn : -1 ≤ n ∧ n ≤ 10) : m_impl_PartsFor cuts kind n = some (if 1 ≤ kind ∧ kind ≤ 4 then ksOf cuts kind n else []) := by
  have hr := cutsB_ris hc; have hl := hr.1; have hb := below_le cuts n; have hb1 := below_le cuts (n - 1); unfold m_impl_PartsFor; rw [E_CutsOk_g, hc, Option.bind_some, Bool.not_true, cond_false, show m_impl_numOk n = some true by unfold m_impl_numOk; rw [E_between, decide_eq_true (show (-9999 : Int) ≤ n by omega), decide_eq_true (show n ≤ (9999 : Int) by omega)]; rfl, Option.bind_some]; unfold m_impl_PartsFor_j1; rw [Bool.not_true, cond_false, E_below (by omega)]
  by_cases hk : 1 ≤ kind ∧ kind ≤ 4
  · rw [if_pos hk]
    unfold ksOf; have hk' : kind = 1 ∨ kind = 2 ∨ kind = 3 ∨ kind = 4 := by omega
    rcases hk' with rfl | rfl | rfl | rfl
    · rw [show ((1 : Int) == 1) = true from rfl, cond_true, Option.bind_some, Option.bind_some, pf_j2 (by omega) (Int.le_refl _) (by omega), sel_1, seqI_eq _ _ _ (by omega) (by omega), show ((belowN cuts n : Int) - (belowN cuts n : Int)).toNat.succ = 1 by omega]; rfl
    · rw [show ((2 : Int) == 1) = false from rfl, cond_false, show ((2 : Int) == 2) = true from rfl, cond_true, pf_j2 (by omega) (by omega) (by omega), sel_2, List.filter_eq_self.2 (fun _ _ => rfl), show ((cuts.length : Int) - 0).toNat.succ = cuts.length + 1 by omega]
    · rw [show ((3 : Int) == 1) = false from rfl, cond_false, show ((3 : Int) == 2) = false from rfl, cond_false, show ((3 : Int) == 3) = true from rfl, cond_true, ckI_of (by omega) (by omega), Option.bind_some, E_below (by omega), Option.bind_some, pf_j2 (by omega) (by omega) (by omega), sel_3, seqI_le _ _ _ (by omega) (by omega), show ((belowN cuts (n - 1) : Int) - 0).toNat.succ = ((belowN cuts (n - 1) : Int) - 0 + 1).toNat by omega]
    · rw [show ((4 : Int) == 1) = false from rfl, cond_false, show ((4 : Int) == 2) = false from rfl, cond_false, show ((4 : Int) == 3) = false from rfl, cond_false, show ((4 : Int) == 4) = true from rfl, cond_true, Option.bind_some, pf_j2 (by omega) (by omega) (by omega), sel_4, seqI_le _ _ _ (by omega) (by omega), show ((belowN cuts n : Int) - 0).toNat.succ = ((belowN cuts n : Int) - 0 + 1).toNat by omega]
  · rw [if_neg hk, beqF (show ¬ kind = 1 by omega), cond_false, beqF (show ¬ kind = 2 by omega), cond_false, beqF (show ¬ kind = 3 by omega), cond_false, beqF (show ¬ kind = 4 by omega), cond_false]
theorem ks_ok {cuts : List Int} {kind n : Int} (hc : cutsB cuts = true) (hk : 1 ≤ kind ∧ kind ≤ 4) (hn : -1 ≤ n ∧ n ≤ 10) : (ksOf cuts kind n).Nodup ∧ (ksOf cuts kind n).length ≤ 20 ∧ (∀ k ∈ ksOf cuts kind n, 0 ≤ k ∧ k ≤ cuts.length) ∧ ∀ v, tyV v 1 → cmpT kind v (num n) = 1 → ((partN cuts v : Nat) : Int) ∈ ksOf cuts kind n := by
  have hl := (cutsB_ris hc).1; have h1 := E_impl_PartsFor_g (kind := kind) hc hn; rw [if_pos hk] at h1; obtain ⟨ks, e1, e2⟩ := E_PartsFor (cutsB_ris hc) hk hn; rw [h1] at e1; cases e1; exact e2
def distF (c : Nat) (f : Row → Nat) (rows : Rows) : List Rows := (List.range (c + 1)).map fun k => rows.filter fun r => decide (f r = k)
theorem distF_get {c : Nat} {f : Row → Nat} {rows : Rows} {k : Nat} (h : k ≤ c) : (distF c f rows)[k]? = some (rows.filter fun r => decide (f r = k)) := by
  unfold distF; rw [List.getElem?_map, List.getElem?_range (by omega)]; rfl
theorem distF_snoc {c : Nat} {f : Row → Nat} {rows : Rows} {r : Row} {k : Nat} (hk : k ≤ c) (h : f r = k) : (distF c f rows).set k ((rows.filter fun r => decide (f r = k)) ++ [r]) = distF c f (rows ++ [r]) := by
  apply List.ext_getElem?
  intro i; rw [List.getElem?_set]; have hl : (distF c f rows).length = c + 1 := by unfold distF; simp
  by_cases e : k = i
  · subst e
    rw [if_pos rfl, if_pos (by omega), distF_get hk, List.filter_append, List.filter_cons_of_pos (by simpa using h)]; rfl
  · rw [if_neg e]
    by_cases hi : i ≤ c
    · rw [distF_get hi, distF_get hi, List.filter_append, List.filter_cons_of_neg (by simp; omega), List.filter_nil, List.append_nil]
    · rw [List.getElem?_eq_none (by omega), List.getElem?_eq_none (by unfold distF; simp; omega)]
theorem distF_nil (c : Nat) (f : Row → Nat) : distF c f [] = List.replicate (c + 1) [] := by
  unfold distF
  apply List.ext_getElem?
  intro i
  by_cases h : i < c + 1
  · rw [List.getElem?_map, List.getElem?_range h, List.getElem?_replicate, if_pos h]; rfl
  · rw [List.getElem?_eq_none (by simp; omega), List.getElem?_eq_none (by simp; omega)]
theorem fit_ty1 {cs : List Col} {r : Row} {i : Int} (h : rowFits cs r = true) (hi : inR cs.length i = true) : tyV (rowAt r i) (colAt cs i).Kind := by
  obtain ⟨f1, f2, f3, f4⟩ := fits_get h; have hr : inR r.length i = true := by rw [f3]; exact hi
  have hx := inR_get (d := v0) hr; have := f4 _ _ _ hx (inR_get (d := col0) hi); unfold vFit at this; rw [Bool.or_eq_true, decide_eq_true_eq, Bool.and_eq_true, decide_eq_true_eq] at this; exact ⟨(rowOk_all f2).2 _ (List.mem_of_getElem? hx), this.imp id (fun h => h.1)⟩
def ptI (cuts : List Int) (i : Int) (r : Row) : Nat := partN cuts (rowAt r i)
def rdy (cs : List Col) (rows : Rows) (i : Int) (cuts : List Int) : Prop := rows.length ≤ 30 ∧ (∀ r ∈ rows, rowFits cs r = true) ∧ inR cs.length i = true ∧ (colAt cs i).Kind = 1 ∧ cutsB cuts = true
theorem rdy_row {cs : List Col} {rows : Rows} {i : Int} {cuts : List Int} (h : rdy cs rows i cuts) {r : Row} (hr : r ∈ rows) : at? r i = some (rowAt r i) ∧ tyV (rowAt r i) 1 ∧ r.length ≤ 4 := by
  obtain ⟨h1, h2, h3, h4, h5⟩ := h; have hf := h2 r hr; have hir : inR r.length i = true := by rw [(fits_get hf).2.2.1]; exact h3
  have := fit_ty1 hf h3; rw [h4] at this; exact ⟨getD_in (d := v0) hir, this, (rowOk_all (fits_get hf).2.1).1⟩
theorem dist_loop {cs : List Col} {rows : Rows} {i : Int} {cuts : List Int} (h : rdy cs rows i cuts) : ∀ (d k n : Nat), k + d = rows.length → d < n → m_impl_partsOf_l1 n i cuts rows (rows.length : Int) (k : Int) (distF cuts.length (ptI cuts i) (rows.take k)) = m_impl_partsOf_j1 (distF cuts.length (ptI cuts i) rows) := by
  have h30 := h.1; intro d
  induction d with
  | zero =>
    intro k n hk hd; obtain ⟨n, rfl⟩ : ∃ q, n = q + 1 := ⟨n - 1, by omega⟩; have : k = rows.length := by omega
    subst this; rw [m_impl_partsOf_l1, dnlt, cond_false, List.take_length]
  | succ d ih =>
    intro k n hk hd; obtain ⟨n, rfl⟩ : ∃ q, n = q + 1 := ⟨n - 1, by omega⟩; have hlt : k < rows.length := by omega
    obtain ⟨r, hr⟩ : ∃ r, rows[k]? = some r := ⟨_, List.getElem?_eq_getElem hlt⟩; obtain ⟨ha, hv, _⟩ := rdy_row h (List.mem_of_getElem? hr); have hle : ptI cuts i r ≤ cuts.length := part_le; have hg := distF_get (f := ptI cuts i) (rows := rows.take k) hle; have hfl := List.length_filter_le (fun r' => decide (ptI cuts i r' = ptI cuts i r)) (rows.take k); rw [List.length_take] at hfl; rw [m_impl_partsOf_l1, dlt hlt, cond_true, at_of hr, Option.bind_some, ha, Option.bind_some, E_PartOf (cutsB_ris h.2.2.2.2) hv, Option.bind_some]; change (at? _ ((ptI cuts i r : Nat) : Int)).bind _ = _; rw [at_of hg, Option.bind_some]; change (at? _ ((ptI cuts i r : Nat) : Int)).bind _ = _; rw [at_of hg, Option.bind_some, app1 (by omega), Option.bind_some]; change (at? _ ((ptI cuts i r : Nat) : Int)).bind _ = _; rw [at_of hg, Option.bind_some, ck1 (by omega), Option.bind_some]; change m_impl_partsOf_l1 n i cuts rows (rows.length : Int) ((k : Int) + 1) ((distF cuts.length (ptI cuts i) (rows.take k)).set (((ptI cuts i r : Nat) : Int)).toNat _) = _; rw [Int.toNat_natCast, distF_snoc hle rfl]; have ht : rows.take k ++ [r] = rows.take (k + 1) := by rw [List.take_add_one, hr]; rfl
    rw [ht, show ((k : Int) + 1) = ((k + 1 : Nat) : Int) by omega]; exact ih (k + 1) n (by omega) (by omega)
theorem E_partsOf_g {cs : List Col} {rows : Rows} {i : Int} {cuts : List Int} (h : rdy cs rows i cuts) : m_impl_partsOf rows i cuts = some (distF cuts.length (ptI cuts i) rows) := by
  have hc1 := (cutsB_ris h.2.2.2.2).1; have h30 := h.1; unfold m_impl_partsOf; rw [ckI_of (by omega) (by omega), Option.bind_some, show mk2? ((cuts.length : Int) + 1) ((cuts.length : Int) + 1) ([] : Rows) = some (distF cuts.length (ptI cuts i) []) by unfold mk2?; rw [if_pos (by omega), distF_nil, show ((cuts.length : Int) + 1).toNat = cuts.length + 1 by omega], Option.bind_some]; have := dist_loop h rows.length 0 (((rows.length : Int) - 0).toNat + 1) (by omega) fuel0; rw [List.take_zero, show (((0 : Nat) : Int)) = 0 from rfl] at this; rw [this]; unfold m_impl_partsOf_j1
  exact copies_loop (by unfold distF; simp; omega) (fun l hl => by
    unfold distF at hl; obtain ⟨k, _, rfl⟩ := List.mem_map.1 hl; have := List.length_filter_le (fun r => decide (ptI cuts i r = k)) rows; refine ⟨by omega, fun r hr => ?_⟩; have := (rdy_row h (List.mem_filter.1 hr).1).2.2; omega) _ 0 _ (by omega) fuel0
theorem spec_parts_in {cs : List Col} {rows : Rows} {i : Int} {cuts : List Int} {K : List Col → Rows → Int → List Int → Int → List Rows → Option (List Rows)} (h : rdy cs rows i cuts) (k : Nat) (o : List Rows) : m_spec_PartsOf_l2 K (((rows.length : Int) - 0).toNat + 1) cs rows i cuts (k : Int) 0 o [] = m_spec_PartsOf_j3 K cs rows i cuts (k : Int) o (rows.filter fun r => decide (ptI cuts i r = k)) := by
  have h30 := h.1; have e := scanMF (f := fun r => if decide (ptI cuts i r = k) = true then some r else none) (J := fun o' => m_spec_PartsOf_j3 K cs rows i cuts (k : Int) o o') rows (fun n m o' => m_spec_PartsOf_l2 K n cs rows i cuts (k : Int) m o o') (fun n m r o' hr ho => ?_) (fun n o' ho => by rw [m_spec_PartsOf_l2, dnlt, cond_false]) _ fuel0
  · rw [e]
    congr 1
    rw [← List.filterMap_eq_filter]; rfl
  · have hlt := lt_of_at hr
    obtain ⟨ha, hv, hl4⟩ := rdy_row h (List.mem_of_getElem? hr); rw [m_spec_PartsOf_l2, dlt hlt, cond_true, at_of hr, Option.bind_some, ha, Option.bind_some, E_spec_PartOf h.2.2.2.2 hv, Option.bind_some, beqD]; have e2 : decide (((partN cuts (rowAt r i) : Nat) : Int) = (k : Int)) = decide (ptI cuts i r = k) := by unfold ptI; rw [Bool.eq_iff_iff]; simp; omega
    rw [e2]; unfold m_spec_PartsOf_j2; cases decide (ptI cuts i r = k) with
    | true => rw [cond_true, Option.bind_some, E_l3Own (by omega), Option.bind_some, app1 (by omega), Option.bind_some, ck1 (by omega), Option.bind_some]; rfl
    | false => rw [cond_false, ck1 (by omega), Option.bind_some]; simp
def prB (cs : List Col) (i : Int) (cuts : List Int) : Bool := inR cs.length i && (decide ((colAt cs i).Kind = 1) && cutsB cuts)
def drn (cs : List Col) (rows : Rows) (cuts : List Int) : Prop := colsOk cs = true ∧ rows.length ≤ 30 ∧ (∀ r ∈ rows, rowFits cs r = true) ∧ cuts.length ≤ 100
theorem drn_rows {cs : List Col} {rows : Rows} {cuts : List Int} (h : drn cs rows cuts) : rowsOk cs rows = true ∧ rsSm rows := ⟨by unfold rowsOk; rw [h.1, List.all_eq_true.2 h.2.2.1]; rfl, fits_rsSm (by have := h.2.1; omega) h.2.2.1⟩
theorem drn_rdy {cs : List Col} {rows : Rows} {i : Int} {cuts : List Int} (h : drn cs rows cuts) (hp : prB cs i cuts = true) : rdy cs rows i cuts := by
  unfold prB at hp; simp only [Bool.and_eq_true, decide_eq_true_eq] at hp; exact ⟨h.2.1, h.2.2.1, hp.1, hp.2.1, hp.2.2⟩
theorem E_partsOk_g {cs : List Col} {rows : Rows} {i : Int} {cuts : List Int} (h : drn cs rows cuts) : m_impl_partsOk cs rows i cuts = some (prB cs i cuts) := by
  have l1 := (colsOk_all h.1).1; obtain ⟨ro, sr⟩ := drn_rows h; unfold m_impl_partsOk m_impl_partsOk_j1 prB; rw [E_impl_ColumnsOk (by omega), Option.bind_some, h.1, cond_true, E_impl_RowsOk (by omega) sr, Option.bind_some, ro, cond_true, ckI_of (by omega) (by omega), Option.bind_some, E_between, Option.bind_some]; show (bif inR cs.length i then _ else _) = _; cases hi : inR cs.length i with
  | false => rfl
  | true =>
    rw [cond_true, getD_in (d := col0) hi, Option.bind_some, beqD, E_CutsOk_g]; show (bif decide ((colAt cs i).Kind = 1) then _ else _) = _; cases decide ((colAt cs i).Kind = 1) <;> rfl
theorem E_l28 {cs : List Col} {rows : Rows} {i : Int} {cuts : List Int} (h : drn cs rows cuts) : m_spec_l28Ready cs rows i cuts = some (prB cs i cuts) := by
  have l1 := (colsOk_all h.1).1; obtain ⟨ro, sr⟩ := drn_rows h; unfold m_spec_l28Ready m_spec_l28Ready_j1 prB; rw [E_spec_CutsOk_g (by have := h.2.2.2; omega), Option.bind_some]; cases hc : cutsB cuts with
  | false => simp
  | true =>
    rw [cond_true, E_spec_RowsOk (by omega) sr, Option.bind_some, ro, cond_true, ckI_of (by omega) (by omega), Option.bind_some, E_l1In, Option.bind_some]; show (bif inR cs.length i then _ else _) = _; cases hi : inR cs.length i with
    | false => rfl
    | true =>
      rw [cond_true, getD_in (d := col0) hi, Option.bind_some, beqD]; show some (decide ((colAt cs i).Kind = 1)) = _; simp
theorem parts_out {cs : List Col} {rows : Rows} {i : Int} {cuts : List Int} (hd : drn cs rows cuts) (hp : prB cs i cuts = true) : ∀ (d k n : Nat), k + d = cuts.length + 1 → d < n → m_spec_PartsOf_l1 n cs rows i cuts (k : Int) ((List.range k).map fun k => rows.filter fun r => decide (ptI cuts i r = k)) = some (distF cuts.length (ptI cuts i) rows) := by
  have h := drn_rdy hd hp; have hl := hd.2.2.2; intro d
  induction d with
  | zero =>
    intro k n hk hd'; obtain ⟨n, rfl⟩ : ∃ q, n = q + 1 := ⟨n - 1, by omega⟩; have : k = cuts.length + 1 := by omega
    subst this; rw [m_spec_PartsOf_l1, decide_eq_false (show ¬ ((cuts.length + 1 : Nat) : Int) ≤ (cuts.length : Int) by omega), cond_false]; rfl
  | succ d ih =>
    intro k n hk hd'; obtain ⟨n, rfl⟩ : ∃ q, n = q + 1 := ⟨n - 1, by omega⟩; rw [m_spec_PartsOf_l1, decide_eq_true (show (k : Int) ≤ (cuts.length : Int) by omega), cond_true, E_l28 hd, hp, Option.bind_some]; unfold m_spec_PartsOf_j1; rw [cond_true, spec_parts_in h]; unfold m_spec_PartsOf_j3 m_spec_PartsOf_j4; rw [app_of (by simp; omega), Option.bind_some, ck1 (by omega), Option.bind_some]; have := ih (k + 1) n (by omega) (by omega); rw [List.range_succ, List.map_append] at this; rw [show ((k : Int) + 1) = ((k + 1 : Nat) : Int) by omega]; exact this
theorem E_spec_PartsOf {cs : List Col} {rows : Rows} {i : Int} {cuts : List Int} (hd : drn cs rows cuts) : m_spec_PartsOf cs rows i cuts = some (if prB cs i cuts = true then distF cuts.length (ptI cuts i) rows else []) := by
  unfold m_spec_PartsOf
  by_cases hp : prB cs i cuts = true
  · rw [if_pos hp]
    exact parts_out hd hp (cuts.length + 1) 0 1000000000 (by omega) (by have := hd.2.2.2; omega)
  · rw [if_neg hp, show (1000000000 : Nat) = 999999999 + 1 from rfl, m_spec_PartsOf_l1, E_l28 hd, Option.bind_some]
    have hp' : prB cs i cuts = false := by simpa using hp
    rw [hp']; unfold m_spec_PartsOf_j1; cases decide ((0 : Int) ≤ (cuts.length : Int)) <;> rfl
def suitI (i kind n : Int) (r : Row) : Bool := decide (cmpT kind (rowAt r i) (num n) = 1)
def ksG (cuts : List Int) (kind n : Int) : List Int := if 1 ≤ kind ∧ kind ≤ 4 then ksOf cuts kind n else []
def prunedG (cs : List Col) (rows : Rows) (i : Int) (cuts : List Int) (kind n : Int) : Rows := if prB cs i cuts = true then (ksG cuts kind n).flatMap fun k => (rows.filter fun r => decide (((ptI cuts i r : Nat) : Int) = k)).filter (suitI i kind n) else []
theorem prB_cuts {cs : List Col} {i : Int} {cuts : List Int} (hp : prB cs i cuts = true) : cutsB cuts = true := by
  unfold prB at hp; simp only [Bool.and_eq_true] at hp; exact hp.2.2
theorem ksG_ok {cuts : List Int} {kind n : Int} (hc : cutsB cuts = true) (hn : -1 ≤ n ∧ n ≤ 10) : (ksG cuts kind n).length ≤ 20 ∧ ∀ k ∈ ksG cuts kind n, 0 ≤ k ∧ k ≤ cuts.length := by
  unfold ksG
  by_cases hk : 1 ≤ kind ∧ kind ≤ 4
  · rw [if_pos hk]
    have := ks_ok (kind := kind) hc hk hn; exact ⟨this.2.1, this.2.2.1⟩
  · rw [if_neg hk]; exact ⟨by simp, by simp⟩
theorem fold_flat (g : Int → Rows) : ∀ (x : List Int) (o : Rows), x.foldl (fun (o : Rows) (k : Int) => o ++ g k) o = o ++ x.flatMap g
  | [], o => by simp
  | k :: x, o => by rw [List.foldl_cons, fold_flat g x, List.flatMap_cons, List.append_assoc]
theorem distF_at {c : Nat} {f : Row → Nat} {rows : Rows} {k : Int} (h0 : 0 ≤ k) (h : k ≤ c) : at? (distF c f rows) k = some (rows.filter fun r => decide (((f r : Nat) : Int) = k)) := by
  have hd := distF_get (c := c) (f := f) (rows := rows) (k := k.toNat) (by omega)
  have ef : (rows.filter fun r => decide (f r = k.toNat)) = rows.filter fun r => decide (((f r : Nat) : Int) = k) := by
    refine List.filter_congr fun r _ => ?_; rw [Bool.eq_iff_iff, decide_eq_true_eq, decide_eq_true_eq]; omega
  rw [ef] at hd; exact at_z h0 hd
theorem num_sz (n : Int) : (num n).S.size ≤ 20 := by show ByteArray.size ⟨#[]⟩ ≤ 20; decide
theorem E_impl_PrunedRows_g {cs : List Col} {rows : Rows} {i : Int} {cuts : List Int} {kind n : Int} (hd : drn cs rows cuts) (hn : -1 ≤ n ∧ n ≤ 10) : m_impl_PrunedRows cs rows i cuts kind n = some (prunedG cs rows i cuts kind n) := by
  unfold m_impl_PrunedRows prunedG; rw [E_partsOk_g hd, Option.bind_some]
  by_cases hp : prB cs i cuts = true
  · have h := drn_rdy hd hp
    have hc := prB_cuts hp; obtain ⟨k1, k2⟩ := ksG_ok (kind := kind) hc hn; have h30 := hd.2.1; rw [hp, Bool.not_true, cond_false, if_pos rfl, E_partsOf_g h, Option.bind_some, E_impl_PartsFor_g hc hn, Option.bind_some]; change m_impl_PrunedRows_l1 ((((ksG cuts kind n).length : Int) - 0).toNat + 1) i kind n (distF cuts.length (ptI cuts i) rows) (ksG cuts kind n) ((ksG cuts kind n).length : Int) 0 [] = _; have h' := scanF (f := fun (o : Rows) (k : Int) => o ++ (rows.filter fun r => decide (((ptI cuts i r : Nat) : Int) = k)).filter (suitI i kind n)) (J := fun o => m_impl_PrunedRows_j1 o) (fun k o => o.length ≤ 30 * k) (ksG cuts kind n) (fun f k o => m_impl_PrunedRows_l1 f i kind n (distF cuts.length (ptI cuts i) rows) (ksG cuts kind n) ((ksG cuts kind n).length : Int) k o) (fun f k x o hx ho => ?_) (fun f o ho => by rw [m_impl_PrunedRows_l1, dnlt, cond_false]) _ fuel0 [] (by simp)
    · rw [h'.1, fold_flat, List.nil_append]; rfl
    · have hlt := lt_of_at hx
      have hb := k2 x (List.mem_of_getElem? hx); have l1 := List.length_filter_le (fun r => decide (((ptI cuts i r : Nat) : Int) = x)) rows; have l2 := List.length_filter_le (suitI i kind n) (rows.filter fun r => decide (((ptI cuts i r : Nat) : Int) = x)); refine ⟨?_, by rw [List.length_append]; omega⟩; rw [m_impl_PrunedRows_l1, dlt hlt, cond_true, at_of hx, Option.bind_some, distF_at hb.1 hb.2, Option.bind_some]
      rw [E_kept (q := suitI i kind n) (by omega) (fun r hr => (rdy_row h (List.mem_filter.1 hr).1).2.2) (fun r hr => by
        obtain ⟨ha, hv, _⟩ := rdy_row h (List.mem_filter.1 hr).1; unfold m_impl_PrunedRows_1; rw [ha, Option.bind_some]; change (m_impl_Compare kind (rowAt r i) (num n)).bind _ = _; rw [E_impl_Compare (by have := tyV_sz1 hv; omega) (by have := num_sz n; omega), Option.bind_some, beqD]; rfl), Option.bind_some, app_of (by omega), Option.bind_some, ck1 (by omega), Option.bind_some]
  · rw [if_neg hp]
    have hp' : prB cs i cuts = false := by simpa using hp
    rw [hp']; rfl
theorem spec_in {K : Int → Int → Int → List Rows → List Int → Int → Rows → Option Rows} {cs : List Col} {rows part : Rows} {i : Int} {cuts ks : List Int} {kind n : Int} {L : List Rows} {q : Nat} {o : Rows} (h : rdy cs rows i cuts) (hs : ∀ r ∈ part, r ∈ rows) (hp : part.length ≤ 30) (ho : o.length ≤ 1000) (hq : q < 1000) :
    m_spec_PrunedRows_l2 K (((part.length : Int) - 0).toNat + 1) i kind n L ks (q : Int) part 0 o = K i kind n L ks ((q : Int) + 1) (o ++ part.filter (suitI i kind n)) := by
  have h' := scanF (f := fun (o : Rows) r => if suitI i kind n r = true then o ++ [r] else o) (J := fun o => m_spec_PrunedRows_j3 K i kind n L ks (q : Int) o) (fun k o => o.length ≤ 1000 + k) part (fun f k o => m_spec_PrunedRows_l2 K f i kind n L ks (q : Int) part k o) (fun f k r o hr ho => ?_) (fun f o ho => by rw [m_spec_PrunedRows_l2, dnlt, cond_false]) _ fuel0 o (by omega)
  · rw [h'.1]
    unfold m_spec_PrunedRows_j3; rw [ck1 (by omega), Option.bind_some]
    congr 1
    clear h' hs hp ho
    induction part generalizing o with
    | nil => simp
    | cons r part ih =>
      rw [List.foldl_cons, ih]
      by_cases e : suitI i kind n r = true
      · rw [if_pos e, List.filter_cons_of_pos e, List.append_assoc]; rfl
      · rw [if_neg e, List.filter_cons_of_neg e]
  · have hlt := lt_of_at hr
    obtain ⟨ha, hv, _⟩ := rdy_row h (hs r (List.mem_of_getElem? hr)); refine ⟨?_, by show (if _ then _ else _ : Rows).length ≤ _; split <;> (try rw [List.length_append, List.length_singleton]) <;> omega⟩; rw [m_spec_PrunedRows_l2, dlt hlt, cond_true, at_of hr, Option.bind_some, ha, Option.bind_some]; change (m_spec_Compare kind (rowAt r i) (num n)).bind _ = _; rw [E_spec_Compare (by unfold vSm; have := tyV_sz1 hv; omega) (by unfold vSm; have := num_sz n; omega), Option.bind_some, beqD]; unfold m_spec_PrunedRows_j2; show (bif suitI i kind n r then _ else _) = _; cases suitI i kind n r with
    | true => rw [cond_true, Option.bind_some, app1 (by omega), Option.bind_some, ck1 (by omega), Option.bind_some]; rfl
    | false => rw [cond_false, ck1 (by omega), Option.bind_some]; rfl
theorem E_spec_PrunedRows_g {cs : List Col} {rows : Rows} {i : Int} {cuts : List Int} {kind n : Int} (hd : drn cs rows cuts) (hn : -1 ≤ n ∧ n ≤ 10) : m_spec_PrunedRows cs rows i cuts kind n = some (prunedG cs rows i cuts kind n) := by
  unfold m_spec_PrunedRows prunedG; rw [E_spec_PartsOf hd, Option.bind_some]
  by_cases hp : prB cs i cuts = true
  · have h := drn_rdy hd hp
    have hc := prB_cuts hp; obtain ⟨k1, k2⟩ := ksG_ok (kind := kind) hc hn; have h30 := hd.2.1; rw [if_pos hp, if_pos hp, E_spec_PartsFor hc hn, Option.bind_some]; change m_spec_PrunedRows_l1 1000000000 i kind n (distF cuts.length (ptI cuts i) rows) (ksG cuts kind n) 0 [] = _; have h' := scanF (f := fun (o : Rows) (k : Int) => o ++ (rows.filter fun r => decide (((ptI cuts i r : Nat) : Int) = k)).filter (suitI i kind n)) (J := fun o => some o) (fun k o => o.length ≤ 30 * k) (ksG cuts kind n) (fun f k o => m_spec_PrunedRows_l1 f i kind n (distF cuts.length (ptI cuts i) rows) (ksG cuts kind n) k o) (fun f k x o hx ho => ?_) (fun f o ho => by rw [m_spec_PrunedRows_l1, dnlt, cond_false]; rfl) 1000000000 (by omega) [] (by simp)
    · rw [h'.1, fold_flat, List.nil_append]
    · have hlt := lt_of_at hx
      have hb := k2 x (List.mem_of_getElem? hx); have l1 := List.length_filter_le (fun r => decide (((ptI cuts i r : Nat) : Int) = x)) rows; have l2 := List.length_filter_le (suitI i kind n) (rows.filter fun r => decide (((ptI cuts i r : Nat) : Int) = x)); refine ⟨?_, by rw [List.length_append]; omega⟩; rw [m_spec_PrunedRows_l1, dlt hlt, cond_true]; unfold m_spec_PrunedRows_j1; rw [decide_eq_true (show ((distF cuts.length (ptI cuts i) rows).length : Int) > 0 by unfold distF; simp), cond_true, at_of hx, Option.bind_some, distF_at hb.1 hb.2, Option.bind_some, spec_in h (fun r hr => (List.mem_filter.1 hr).1) (by omega) (by omega) (by omega)]
  · rw [if_neg hp, if_neg hp]
    have e0 : ∀ ks : List Int, m_spec_PrunedRows_l1 1000000000 i kind n [] ks 0 [] = some [] := by
      intro ks; rw [show (1000000000 : Nat) = 999999999 + 1 from rfl, m_spec_PrunedRows_l1]; unfold m_spec_PrunedRows_j1; cases decide ((0 : Int) < (ks.length : Int)) <;> rfl
    obtain ⟨ks, hks⟩ : ∃ ks, m_spec_PartsFor cuts kind n = some ks := by
      cases hc : cutsB cuts with
      | true => exact ⟨_, E_spec_PartsFor hc hn⟩
      | false =>
        unfold m_spec_PartsFor; rw [E_spec_CutsOk_g (by have := hd.2.2.2; omega), hc]; exact ⟨[], rfl⟩
    rw [hks, Option.bind_some, e0]
theorem T_CutsN {o : Rd} {n : Int} (ho : 0 ≤ o.p ∧ o.p ≤ 100000000) (hn : 0 ≤ n ∧ n ≤ 1000) : Tot (m_spec_l20Cuts o n) fun r => r.1.length ≤ 20 ∧ o.p ≤ r.2.p ∧ r.2.p ≤ o.p + 30 := by
  unfold m_spec_l20Cuts; refine Tot.bind (T_pick (by omega)) (fun a ha => Tot.ck (by omega) (by omega) (Tot.bind (T_pick (by omega)) (fun b hb => ?_)))
  have key : ∀ (f : Nat) (t x : Int) (q : Rd) (l : List Int), 0 ≤ t → t < f → (l.length : Int) + t = b.1 → (-1 ≤ x ∧ x + 2 * t ≤ 12) → o.p ≤ q.p → q.p + t ≤ o.p + 10 → Tot (m_spec_l20Cuts_l1 f n x t q l) fun r => r.1.length ≤ 20 ∧ o.p ≤ r.2.p ∧ r.2.p ≤ o.p + 30 := by
    intro f
    induction f with
    | zero => intro t x q l h1 h2; omega
    | succ f ih =>
      intro t x q l h1 h2 h3 h4 h5 h6; rw [m_spec_l20Cuts_l1]
      by_cases ht : t > 0
      · rw [decide_eq_true ht, cond_true]
        refine Tot.app (by simp only [List.length_cons, List.length_nil]; omega) (Tot.ck (by omega) (by omega) (Tot.bind (T_pick (by omega)) (fun c hc => Tot.ck (by omega) (by omega) (Tot.ck (by omega) (by omega) ?_)))); exact ih (t - 1) (x + 1 + c.1) c.2 (l ++ [x]) (by omega) (by omega) (by simp; omega) (by omega) (by omega) (by omega)
      · rw [decide_eq_false ht, cond_false]
        unfold m_spec_l20Cuts_j1 m_spec_l20Cuts_j2; refine Tot.bind (T_odd (by omega) (by omega)) (fun w hw => Tot.bif (fun _ => ?_) (fun _ => Tot.ret ⟨by simp only; omega, by simp only; omega, by simp only; omega⟩)); refine Tot.bind (T_pick (by omega)) (fun u hu => Tot.bif (fun _ => ?_) (fun _ => Tot.bif (fun _ => ?_) (fun _ => ?_)))
        · exact Tot.ck (by omega) (by omega) (Tot.app (by simp only [List.length_cons, List.length_nil]; omega) (Tot.ret ⟨by simp; omega, by simp only; omega, by simp only; omega⟩))
        · exact Tot.app (by simp only [List.length_cons, List.length_nil]; omega) (Tot.ret ⟨by simp; omega, by simp only; omega, by simp only; omega⟩)
        · exact Tot.ck (by omega) (by omega) (Tot.ck (by omega) (by omega) (Tot.ck (by omega) (by omega) (Tot.ck (by omega) (by omega) (Tot.app (by simp only [List.length_cons, List.length_nil]; omega) (Tot.ret ⟨by simp; omega, by simp only; omega, by simp only; omega⟩)))))
  exact key _ b.1 (a.1 - 1) b.2 [] (by omega) (by omega) (by simp) (by omega) (by omega) (by omega)
theorem D_Parted {o : Rd} {n : Int} (ho : 0 ≤ o.p ∧ o.p ≤ 10000000) (hn : 0 ≤ n ∧ n ≤ 1000) : Tot (m_spec_l20Parted o n) fun r => drn r.1 r.2.1 r.2.2.2.1 ∧ (-10 ≤ r.2.2.1 ∧ r.2.2.1 ≤ 10) ∧ o.p ≤ r.2.2.2.2.p ∧ r.2.2.2.2.p ≤ o.p + 3000 := by
  unfold m_spec_l20Parted; refine Tot.bind (T_pick (by omega)) (fun a ha => Tot.lt (Tot.bind (D_Columns (by omega)) (fun c hc => ?_))); obtain ⟨⟨c1, c2, c3⟩, c4, c5⟩ := hc; refine Tot.at (by omega) (by omega) (fun x hx => Tot.app (by simp) ?_)
  have hcs : colsOk ([⟨1, a.1 == 0⟩] ++ [x]) = true := colsOk_mk (by simp) (fun z hz => by
    simp only [List.mem_append, List.mem_singleton] at hz; rcases hz with rfl | rfl
    · rfl
    · exact c3 _ hx)
  generalize ([⟨1, a.1 == 0⟩] ++ [x] : List Col) = cs at hcs ⊢; refine Tot.bind (D_Bag (by omega) hcs) (fun p hp => Tot.bind (D_Bag (by omega) hcs) (fun q hq => Tot.app (by omega) (Tot.bind (T_odd (by omega) (by omega)) (fun w hw => ?_)))); have fr : ∀ r ∈ p.1 ++ q.1, rowFits cs r = true := fun r hr => (List.mem_append.1 hr).elim (hp.1.2 r) (hq.1.2 r); have lr : (p.1 ++ q.1).length ≤ 30 := by rw [List.length_append]; omega
  have j1 : ∀ (i : Int) (z : Rd), (-10 ≤ i ∧ i ≤ 10) → o.p ≤ z.p → z.p ≤ o.p + 2000 → Tot (m_spec_l20Parted_j1 n cs i z (p.1 ++ q.1)) fun r => drn r.1 r.2.1 r.2.2.2.1 ∧ (-10 ≤ r.2.2.1 ∧ r.2.2.1 ≤ 10) ∧ o.p ≤ r.2.2.2.2.p ∧ r.2.2.2.2.p ≤ o.p + 3000 := by
    intro i z hi h1 h2; unfold m_spec_l20Parted_j1; exact Tot.bind (T_CutsN (by omega) hn) (fun k hk => Tot.ret ⟨⟨hcs, lr, fr, by simp only; omega⟩, hi, by simp only; omega, by simp only; omega⟩)
  refine Tot.bif (fun _ => Tot.bind (T_pick (by omega)) (fun u hu => Tot.ck (by omega) (by omega) (j1 _ _ (by omega) (by omega) (by omega)))) (fun _ => j1 _ _ (by omega) (by omega) (by omega))
def pdOk (r : List Col × Rows × Int × List Int × Int × Int) : Prop := drn r.1 r.2.1 r.2.2.2.1 ∧ (-1 ≤ r.2.2.2.2.2 ∧ r.2.2.2.2.2 ≤ 10)
theorem T_DrawPrunedRows {l : List UInt8} : Tot (m_spec_DrawPrunedRows l) pdOk := by
  unfold m_spec_DrawPrunedRows; refine Tot.bind T_l20Open (fun o ho => Tot.bind (D_Parted (by omega) (by omega)) (fun r hr => Tot.bind (T_pick (by omega)) (fun k hk => Tot.ck (by omega) (by omega) (Tot.bind (T_pick (by omega)) (fun u hu => ?_))))); have hd := tdiv_b (m := u.1) (n := 19) (by omega) (by omega); exact Tot.quo (by omega) (by omega) (by omega) (Tot.ck (by omega) (by omega) (Tot.ck (by omega) (by omega) (Tot.bind (T_pick (by omega)) (fun z hz => Tot.ck (by omega) (by omega) (Tot.ret ⟨hr.1, by simp only; omega⟩)))))
theorem pure_FnPrunedRows (l : List UInt8) : m_laws_FnPrunedRows l = some true := by
  unfold m_laws_FnPrunedRows; cases hlen : decide ((l.length : Int) > 1048576)
  · rw [cond_false]
    obtain ⟨⟨cs, rows, i, cuts, kind, n⟩, hdr, hd, hn⟩ := T_DrawPrunedRows (l := l); simp only at hd hn; rw [hdr, Option.bind_some]; simp only
    have hsub : ∀ r ∈ prunedG cs rows i cuts kind n, r ∈ rows := by
      intro r hr; unfold prunedG at hr
      split at hr
      · obtain ⟨k, _, hr⟩ := List.mem_flatMap.1 hr
        exact (List.mem_filter.1 (List.mem_filter.1 hr).1).1
      · cases hr
    have h30 := hd.2.1; have l4 : ∀ r ∈ rows, r.length ≤ 4 := fun r hr => (rowOk_all (fits_get (hd.2.2.1 r hr)).2.1).1
    have outlen : prB cs i cuts = true → 1 ≤ kind ∧ kind ≤ 4 → (prunedG cs rows i cuts kind n).Perm (rows.filter (suitI i kind n)) := by
      intro hp hk; have h := drn_rdy hd hp; have hks := ks_ok (kind := kind) (prB_cuts hp) hk hn; unfold prunedG ksG; rw [if_pos hp, if_pos hk]; refine parts_perm hks.1 fun r hr hs => ?_; obtain ⟨_, hv, _⟩ := rdy_row h hr; exact hks.2.2.2 _ hv (of_decide_eq_true hs)
    have nil1 : ¬ (prB cs i cuts = true ∧ 1 ≤ kind ∧ kind ≤ 4) → prunedG cs rows i cuts kind n = [] := by
      intro hx; unfold prunedG ksG
      by_cases hp : prB cs i cuts = true
      · rw [if_pos hp, if_neg (fun hk => hx ⟨hp, hk⟩)]; rfl
      · rw [if_neg hp]
    have hlen2 : (prunedG cs rows i cuts kind n).length ≤ 30 := by
      by_cases hx : prB cs i cuts = true ∧ 1 ≤ kind ∧ kind ≤ 4
      · rw [(outlen hx.1 hx.2).length_eq]
        have := List.length_filter_le (suitI i kind n) rows; omega
      · rw [nil1 hx]; simp
    have es : m_laws_sameRows (prunedG cs rows i cuts kind n) (prunedG cs rows i cuts kind n) = some true := by
      rw [E_sameRows (by omega) (fun r hr => by have := l4 r (hsub r hr); omega)]; simp
    rw [E_impl_PrunedRows_g hd hn, Option.bind_some, E_spec_PrunedRows_g hd hn, Option.bind_some, es, Option.bind_some, Bool.not_true, cond_false]; unfold m_impl_PartsOf; rw [E_partsOk_g hd, Option.bind_some]
    have out : prunedG cs rows i cuts kind n = [] → m_laws_FnPrunedRows_j1 rows i kind n (prunedG cs rows i cuts kind n) true = some true := by
      intro h0; unfold m_laws_FnPrunedRows_j1 m_laws_FnPrunedRows_j2; rw [cond_true, h0, show ((([] : Rows).length : Int) == 0) = true from rfl, cond_true, E_alive]; rfl
    cases hp : prB cs i cuts with
    | false =>
      rw [Bool.not_false, cond_true, Option.bind_some, show ((([] : List Rows).length : Int) == 0) = true from rfl, cond_true]; exact out (nil1 fun hx => by rw [hp] at hx; cases hx.1)
    | true =>
      have h := drn_rdy hd hp; rw [Bool.not_true, cond_false, E_partsOf_g h, Option.bind_some, Option.bind_some, beqF (show ¬ ((distF cuts.length (ptI cuts i) rows).length : Int) = 0 by unfold distF; simp; omega), cond_false]
      by_cases h1 : kind < 1
      · rw [decide_eq_true h1, cond_true]
        exact out (nil1 fun hx => by omega)
      · rw [decide_eq_false h1, cond_false]
        by_cases h4 : kind > 4
        · rw [decide_eq_true h4]
          exact out (nil1 fun hx => by omega)
        · rw [decide_eq_false h4]
          have hperm := outlen hp ⟨by omega, by omega⟩; unfold m_laws_FnPrunedRows_j1; rw [cond_false]; have e := scanMF (f := fun r => if suitI i kind n r = true then some r else none) (J := fun o => m_laws_FnPrunedRows_j4 (prunedG cs rows i cuts kind n) o) rows (fun f k o => m_laws_FnPrunedRows_l1 f rows i kind n (prunedG cs rows i cuts kind n) k o) (fun f k r o hr ho => ?_) (fun f o ho => by rw [m_laws_FnPrunedRows_l1, dnlt, cond_false]) _ fuel0
          · rw [e]
            have ef : rows.filterMap (fun r => if suitI i kind n r = true then some r else none) = rows.filter (suitI i kind n) := by rw [← List.filterMap_eq_filter]; rfl
            rw [ef]; unfold m_laws_FnPrunedRows_j4 m_laws_FnPrunedRows_j5; have sr := (drn_rows hd).2; have lf := List.length_filter_le (suitI i kind n) rows; have s1 : rsSm (prunedG cs rows i cuts kind n) := ⟨by omega, fun r hr => sr.2 r (hsub r hr)⟩; have s2 : rsSm (rows.filter (suitI i kind n)) := ⟨by omega, fun r hr => sr.2 r (List.mem_filter.1 hr).1⟩; rw [E_impl_SameBag s1 s2, Option.bind_some, bag_perm.2 hperm, cond_true, E_alive]; rfl
          · have hlt := lt_of_at hr
            obtain ⟨ha, hv, _⟩ := rdy_row h (List.mem_of_getElem? hr); rw [m_laws_FnPrunedRows_l1, dlt hlt, cond_true, at_of hr, Option.bind_some, ha, Option.bind_some]; change (m_impl_Compare kind (rowAt r i) (num n)).bind _ = _; rw [E_impl_Compare (by have := tyV_sz1 hv; omega) (by have := num_sz n; omega), Option.bind_some, beqD]; unfold m_laws_FnPrunedRows_j3; show (bif suitI i kind n r then _ else _) = _; cases suitI i kind n r with
            | true => rw [cond_true, Option.bind_some, app1 (by omega), Option.bind_some, ck1 (by omega), Option.bind_some]; rfl
            | false => rw [cond_false, ck1 (by omega), Option.bind_some]; simp
  · rfl
end Go.Proofs.Ytjmeoggmdnlicaa
