/- What the mirrors come to, in plain Lean: the law itself at the end. -/
import Derived.Test.YtjmeoggmdnlicaaXW6
import Derived.Test.YtjmeoggmdnlicaaLd
set_option linter.unusedVariables false
set_option linter.unusedSimpArgs false
set_option linter.unnecessarySimpa false
namespace Go.Proofs.Ytjmeoggmdnlicaa
open Go.Proofs Go.Lift
abbrev V := S_impl_Value
abbrev Row := List V
abbrev Rows := List Row
def cmpI (a b : Int) : Int := if a < b then -1 else if b < a then 1 else 0
def cmpS (a b : ByteArray) : Int := if sLt a b then -1 else if sLt a b || sEq a b then 0 else 1
def orI (l : List Int) : Int := (l.find? (· != 0)).getD 0
def lower (l : List UInt8) : Bool := l.all fun b => decide (97 ≤ b.toNat) && decide (b.toNat ≤ 122)
def vOk (v : V) : Bool :=
  if v.Kind = 0 then decide (v = ⟨0, 0, ⟨#[]⟩⟩)
  else if v.Kind = 1 then decide (v.S = ⟨#[]⟩) && (decide (-9999 ≤ v.N) && decide (v.N ≤ 9999))
  else if v.Kind = 2 then decide (v.N = 0) && decide (v.S.size ≤ 6) && lower v.S.data.toList
  else if v.Kind = 3 then decide (v.S = ⟨#[]⟩) && (decide (0 ≤ v.N) && decide (v.N ≤ 1))
  else false
def vOrd (v w : V) : Int := orI [cmpI v.Kind w.Kind, cmpI v.N w.N, cmpS v.S w.S]
def rowOk (l : Row) : Bool := decide (l.length ≤ 4) && l.all vOk
def vSm (v : V) : Prop := v.S.size ≤ 1100000
def rSm (l : Row) : Prop := l.length ≤ 1100000 ∧ ∀ v ∈ l, vSm v
def rsSm (l : Rows) : Prop := l.length ≤ 400000000 ∧ ∀ r ∈ l, rSm r
def cmpL {α : Type} (p : α → α → Int) : List α → List α → Int
  | [], [] => 0
  | [], _ :: _ => -1
  | _ :: _, [] => 1
  | a :: x, b :: y => if p a b = 0 then cmpL p x y else p a b
def vvOrd (a b : V) : Int := if vOk a && vOk b then vOrd a b else 0
theorem E_IndexFunc_V {l : Row} {p : V → Option Bool} {q : V → Bool} (hl : l.length ≤ 900000000) (hp : ∀ v ∈ l, p v = some (q v)) : m_slices_ContainsFunc_Limpl_Value_impl_Value l p = some (l.any q) := by
  unfold m_slices_ContainsFunc_Limpl_Value_impl_Value m_slices_IndexFunc_Limpl_Value_impl_Value
  have key : ∀ (ys : Row) (k n : Nat), l.drop k = ys → k ≤ l.length → ys.length < n → ∃ i : Int, m_slices_IndexFunc_Limpl_Value_impl_Value_l1 p n l (l.length : Int) (k : Int) = some i ∧ decide (i ≥ 0) = ys.any q := by
    intro ys
    induction ys with
    | nil =>
      intro k n hd hk hn
      have : k = l.length := by
        have := congrArg List.length hd; simp at this; omega
      subst this; obtain ⟨m, rfl⟩ : ∃ m, n = m + 1 := ⟨n - 1, by simp at hn; omega⟩; exact ⟨-1, by simp only [m_slices_IndexFunc_Limpl_Value_impl_Value_l1, dnlt]; rfl, rfl⟩
    | cons y ys ih =>
      intro k n hd hk hn
      have hlt : k < l.length := by
        have := congrArg List.length hd; simp at this; omega
      have hc := List.drop_eq_getElem_cons hlt; rw [hd] at hc; simp only [List.cons.injEq] at hc; have hx : l[k]? = some y := by rw [List.getElem?_eq_getElem hlt, hc.1]
      obtain ⟨m, rfl⟩ : ∃ m, n = m + 1 := ⟨n - 1, by simp at hn; omega⟩; simp only [m_slices_IndexFunc_Limpl_Value_impl_Value_l1, dlt hlt, at_of hx, hp y (List.mem_of_getElem? hx), ck1 (show k < 1000000000000 by omega), Option.bind_some, cond_true]; cases hq : q y
      · obtain ⟨i, h1, h2⟩ := ih (k + 1) m hc.2.symm (by omega) (by simp at hn; omega)
        exact ⟨i, by simpa using h1, by rw [h2]; simp [hq]⟩
      · exact ⟨(k : Int), rfl, by simp [hq]⟩
  obtain ⟨i, h1, h2⟩ := key l 0 _ rfl (by omega) (show l.length < (((l.length : Int) - 0).toNat + 1) by omega); rw [show ((0 : Nat) : Int) = 0 from rfl] at h1; rw [h1]; simp only [Option.bind_some, h2]
theorem E_between (a b c : Int) : m_impl_between a b c = some (decide (b ≤ a) && decide (a ≤ c)) := by
  unfold m_impl_between m_impl_between_j1
  by_cases h : a ≥ b <;> simp [h]
theorem E_l1In (a b c : Int) : m_spec_l1In a b c = some (decide (b ≤ a) && decide (a ≤ c)) := by
  unfold m_spec_l1In m_spec_l1In_j1
  by_cases h : a ≥ b <;> simp [h]
theorem lower_any (l : List UInt8) : lower l = !(l.any fun b => !(decide (97 ≤ (b.toNat : Int)) && decide ((b.toNat : Int) ≤ 122))) := by
  unfold lower; rw [List.all_eq_not_any_not]
  congr 2
  funext b
  congr 1
  have h1 : decide (97 ≤ b.toNat) = decide (97 ≤ (b.toNat : Int)) := by rw [decide_eq_decide]; omega
  have h2 : decide (b.toNat ≤ 122) = decide ((b.toNat : Int) ≤ 122) := by rw [decide_eq_decide]; omega
  rw [h1, h2]
theorem E_letters {s : ByteArray} (h : s.size ≤ 900000000) : m_impl_letters s = some (lower s.data.toList) := by
  unfold m_impl_letters sBytes?; rw [if_pos (by omega)]; simp only [Option.bind_some]; have hl : s.data.toList.length ≤ 900000000 := h
  have := scanA (p := fun b : UInt8 => !(decide (97 ≤ (b.toNat : Int)) && decide ((b.toNat : Int) ≤ 122))) (r0 := false) (r1 := true) s.data.toList (fun n k => m_impl_letters_l1 n s.data.toList (s.data.toList.length : Int) k) (fun n k x hx => by
    have := lt_of_at hx; simp only [m_impl_letters_l1, dlt this, at_of hx, E_between, ck1 (show k < 1000000000000 by omega), Option.bind_some, cond_true]) (fun n => by simp only [m_impl_letters_l1, dnlt]; rfl) _ fuel0
  rw [this, lower_any]; cases s.data.toList.any fun b => !(decide (97 ≤ (b.toNat : Int)) && decide ((b.toNat : Int) ≤ 122)) <;> rfl
theorem sAt_of {s : ByteArray} {k : Nat} {x : UInt8} (h : s.data.toList[k]? = some x) : sAt? s (k : Int) = some x := by
  unfold sAt?; rw [if_pos (by omega)]; obtain ⟨h1, h2⟩ := List.getElem?_eq_some_iff.1 h; have hs : k < s.size := by have := h1; rwa [Array.length_toList] at this
  have : s[k]? = some (s[k]'hs) := by simp [hs]
  rw [Int.toNat_natCast, this]
  congr 1
theorem E_l1Text {s : ByteArray} (h : s.size ≤ 900000000) : m_spec_l1Text s = some (lower s.data.toList && decide (s.size ≤ 6)) := by
  unfold m_spec_l1Text; have hl : s.data.toList.length = s.size := rfl; rw [← hl]
  have := scanA (p := fun b : UInt8 => !(decide (97 ≤ (b.toNat : Int)) && decide ((b.toNat : Int) ≤ 122))) (r0 := false) (r1 := decide ((s.size : Int) ≤ 6)) s.data.toList (fun n k => m_spec_l1Text_l1 n s k) (fun n k x hx => by
    have := lt_of_at hx; have hd : decide ((k : Int) < (s.size : Int)) = true := by rw [← hl]; exact dlt this
    simp only [m_spec_l1Text_l1, m_spec_l1Text_j1, hd, sAt_of hx, ck1 (show k < 1000000000000 by omega), Option.bind_some, cond_true]; have e1 : ((97 : UInt8).toNat : Int) = 97 := rfl; have e2 : ((122 : UInt8).toNat : Int) = 122 := rfl; rw [e1, e2]
    by_cases h1 : (x.toNat : Int) < 97
    · have : ¬ (97 ≤ (x.toNat : Int)) := by omega
      simp [h1, this]
    · have h1' : 97 ≤ (x.toNat : Int) := by omega
      by_cases h2 : (x.toNat : Int) > 122
      · have : ¬ ((x.toNat : Int) ≤ 122) := by omega
        simp [h1, h2, this]
      · have : (x.toNat : Int) ≤ 122 := by omega
        simp [h1, h2, this, h1']) (fun n => by simp only [m_spec_l1Text_l1, hl, dnlt]; rfl) _ fuel0
  rw [this, lower_any]; have e : decide ((s.size : Int) ≤ 6) = decide (s.size ≤ 6) := by rw [decide_eq_decide]; omega
  rw [e]; cases s.data.toList.any fun b => !(decide (97 ≤ (b.toNat : Int)) && decide ((b.toNat : Int) ≤ 122)) <;> simp
theorem E_Value_ok {v : V} (h : v.S.size ≤ 900000000) : m_impl_Value_ok v = some (vOk v) := by
  unfold m_impl_Value_ok m_impl_Value_ok_j1 m_impl_Value_ok_j2 m_impl_Value_ok_j3 vOk; simp only [E_between, E_letters h, Option.bind_some, sEq_eq]
  by_cases h0 : v.Kind = 0
  · simp [h0]
  · by_cases h1 : v.Kind = 1
    · by_cases hs : v.S = ⟨#[]⟩ <;> simp [beqF h0, h0, h1, hs]
    · by_cases h2 : v.Kind = 2
      · by_cases hn : v.N = 0
        · by_cases hs : v.S.size ≤ 6
          · have : (v.S.size : Int) ≤ 6 := by omega
            simp [beqF h0, beqF h1, h0, h1, h2, hn, hs, this]
          · have : ¬ (v.S.size : Int) ≤ 6 := by omega
            simp [beqF h0, beqF h1, h0, h1, h2, hn, hs, this]
        · simp [beqF h0, beqF h1, h0, h1, h2, beqF hn, hn]
      · by_cases h3 : v.Kind = 3
        · by_cases hs : v.S = ⟨#[]⟩ <;> simp [beqF h0, beqF h1, beqF h2, h0, h1, h2, h3, hs]
        · simp [beqF h0, beqF h1, beqF h2, beqF h3, h0, h1, h2, h3]
theorem E_spec_ValueOk {v : V} (h : v.S.size ≤ 900000000) : m_spec_ValueOk v = some (vOk v) := by
  unfold m_spec_ValueOk m_spec_ValueOk_j1 m_spec_ValueOk_j2 m_spec_ValueOk_j3 m_spec_ValueOk_j4 vOk; simp only [E_l1In, E_l1Text h, Option.bind_some, sEq_eq]; obtain ⟨k, n, s⟩ := v; simp only [S_impl_Value.mk.injEq]
  by_cases h0 : k = 0
  · by_cases hn : n = 0
    · simp [h0, hn]
    · simp [h0, hn, beqF hn]
  · by_cases h1 : k = 1
    · by_cases hs : s = ⟨#[]⟩ <;> by_cases ha : -9999 ≤ n <;> by_cases hb : n ≤ 9999 <;> simp [beqF h0, h0, h1, hs, ha, hb]
    · by_cases h2 : k = 2
      · by_cases hn : n = 0
        · simp [beqF h0, beqF h1, h0, h1, h2, hn, Bool.and_comm]
        · simp [beqF h0, beqF h1, h0, h1, h2, beqF hn, hn]
      · by_cases h3 : k = 3
        · by_cases hs : s = ⟨#[]⟩ <;> by_cases ha : 0 ≤ n <;> by_cases hb : n ≤ 1 <;> simp [beqF h0, beqF h1, beqF h2, h0, h1, h2, h3, hs, ha, hb]
        · simp [beqF h0, beqF h1, beqF h2, beqF h3, h0, h1, h2, h3]
theorem E_impl_RowOk {l : Row} (h : rSm l) : m_impl_RowOk l = some (rowOk l) := by
  unfold m_impl_RowOk m_impl_RowOk_j1 rowOk; obtain ⟨h1, h2⟩ := h; rw [E_IndexFunc_V (q := fun v => !(vOk v)) (by omega) (fun v hv => by unfold m_impl_RowOk_1; rw [E_Value_ok (by have := h2 v hv; unfold vSm at this; omega)]; rfl)]; simp only [Option.bind_some]; rw [List.all_eq_not_any_not]
  by_cases h : l.length ≤ 4
  · have : (l.length : Int) ≤ 4 := by omega
    simp [h, this]
  · have : ¬ (l.length : Int) ≤ 4 := by omega
    simp [h, this]
theorem E_spec_RowOk {l : Row} (h : rSm l) : m_spec_RowOk l = some (rowOk l) := by
  unfold m_spec_RowOk rowOk; obtain ⟨h1, h2⟩ := h
  have := scanA (p := fun v => !(vOk v)) (r0 := false) (r1 := decide ((l.length : Int) ≤ 4)) l (fun n k => m_spec_RowOk_l1 n l k) (fun n k x hx => by
    have := lt_of_at hx; have hsm := h2 x (List.mem_of_getElem? hx); unfold vSm at hsm; simp only [m_spec_RowOk_l1, dlt this, at_of hx, E_spec_ValueOk (show x.S.size ≤ 900000000 by omega), ck1 (show k < 1000000000000 by omega), Option.bind_some, cond_true]) (fun n => by simp only [m_spec_RowOk_l1, dnlt]; rfl) _ fuel0
  rw [this, List.all_eq_not_any_not]; have e : decide ((l.length : Int) ≤ 4) = decide (l.length ≤ 4) := by rw [decide_eq_decide]; omega
  rw [e]; cases l.any fun v => !(vOk v) <;> simp
theorem E_CompareI (a b : Int) : m_cmp_Compare_int a b = some (cmpI a b) := by
  unfold m_cmp_Compare_int m_cmp_isNaN_int cmpI; have e : ∀ x : Int, (x != x) = false := fun x => by simp
  simp only [e, Option.bind_some, cond_false]
  by_cases h : a < b
  · simp [h]
  · by_cases h2 : a > b
    · simp [h, h2]
    · simp [h, h2]
theorem E_CompareS (a b : ByteArray) : m_cmp_Compare_string a b = some (cmpS a b) := by
  unfold m_cmp_Compare_string m_cmp_isNaN_string cmpS; have e : ∀ x : ByteArray, (!(sEq x x)) = false := fun x => by simp [sEq_eq]
  simp only [e, Option.bind_some, cond_false]; cases h1 : sLt a b <;> cases h2 : sEq a b <;> simp
theorem E_l1Cmp (a b : ByteArray) : m_spec_l1Cmp a b = some (cmpS a b) := by
  unfold m_spec_l1Cmp cmpS; cases h1 : sLt a b <;> cases h2 : sEq a b <;> simp
theorem E_Or {l : List Int} (h : l.length ≤ 900000000) : m_cmp_Or_int l = some (orI l) := by
  unfold m_cmp_Or_int
  rw [scanC l (fun n k (_ : Unit) => m_cmp_Or_int_l1 n 0 l (l.length : Int) k) (fun x s k => bif (x != 0) then some x else k s) (fun _ => some 0) (fun n k x s hx => by
    have := lt_of_at hx; rw [m_cmp_Or_int_l1, dlt this, cond_true, at_of hx, Option.bind_some, ck1 (show k < 1000000000000 by omega), Option.bind_some]) (fun n s => by rw [m_cmp_Or_int_l1, dnlt]; rfl) _ fuel0 ()]
  clear h; unfold orI
  induction l with
  | nil => rfl
  | cons x l ih =>
    simp only [foldC, List.find?_cons]; cases hx : (x != 0)
    · simpa using ih
    · rfl
theorem E_order (v w : V) : m_impl_Value_order v w = some (vOrd v w) := by
  unfold m_impl_Value_order vOrd; rw [E_CompareI, Option.bind_some, E_CompareI, Option.bind_some, E_CompareS, Option.bind_some, E_Or (by simp)]; rfl
def lessI (a b : Int) : Int := if a < b then 1 else 0
theorem E_Less (a b : Int) : m_spec_l1Less a b = some (lessI a b) := by
  unfold m_spec_l1Less lessI
  by_cases h : a < b <;> simp [h]
theorem less_b (a b : Int) : 0 ≤ lessI a b ∧ lessI a b ≤ 1 := by unfold lessI; split <;> omega
theorem orI_1 {x : Int} {l : List Int} (h : x ≠ 0) : orI (x :: l) = x := by simp [orI, h]
theorem orI_0 {l : List Int} : orI (0 :: l) = orI l := by simp [orI]
theorem cmpI_0 {a b : Int} : cmpI a b = 0 ↔ a = b := by unfold cmpI; split <;> (try split) <;> omega
theorem less_cmp {a b : Int} (h : a ≠ b) : 2 * lessI b a - 1 = cmpI a b := by unfold lessI cmpI; split <;> split <;> (try split) <;> omega
theorem E_ValueOrder {a b : V} (ha : vSm a) (hb : vSm b) : m_spec_ValueOrder a b = some (vvOrd a b) := by
  unfold m_spec_ValueOrder m_spec_ValueOrder_j1 vvOrd vOrd; unfold vSm at ha hb; rw [E_spec_ValueOk (by omega), Option.bind_some, E_spec_ValueOk (by omega), Option.bind_some]; cases vOk a
  · rfl
  cases vOk b
  · rfl
  simp only [Bool.not_true, cond_false, Bool.and_self, if_true, E_Less, E_l1Cmp, Option.bind_some]
  by_cases h1 : a.Kind = b.Kind
  · have : (a.Kind != b.Kind) = false := by simp [h1]
    rw [this, cond_false, cmpI_0.2 h1, orI_0]
    by_cases h2 : a.N = b.N
    · have : (a.N != b.N) = false := by simp [h2]
      rw [this, cond_false, cmpI_0.2 h2, orI_0]
      by_cases h3 : cmpS a.S b.S = 0
      · rw [h3, orI_0]; rfl
      · rw [orI_1 h3]
    · rw [beqF' h2, cond_true, orI_1 (by rw [ne_eq, cmpI_0]; exact h2), ← less_cmp h2]
      have := less_b b.N a.N; rw [ckI_of (by omega) (by omega), Option.bind_some, ckI_of (by omega) (by omega), Option.bind_some]
  · rw [beqF' h1, cond_true, orI_1 (by rw [ne_eq, cmpI_0]; exact h1), ← less_cmp h1]
    have := less_b b.Kind a.Kind; rw [ckI_of (by omega) (by omega), Option.bind_some, ckI_of (by omega) (by omega), Option.bind_some]
theorem E_clone {l : Row} (h : l.length ≤ 900000000) : m_impl_clone_impl_Value l = some l := by
  unfold m_impl_clone_impl_Value appN?; cases l with
  | nil => rfl
  | cons x l =>
    have e : (((x :: l).length : Int) == 0) = false := by simp; omega
    rw [e, cond_false, if_pos ⟨by simp, by omega⟩, Option.bind_some]; rfl
theorem foldl_snoc {α : Type} : ∀ (l a : List α), l.foldl (fun s x => s ++ [x]) a = a ++ l
  | [], a => by simp
  | x :: l, a => by rw [List.foldl_cons, foldl_snoc l]; simp
theorem E_rowsCopy {l : Rows} (h : l.length ≤ 900000000) (hr : ∀ r ∈ l, r.length ≤ 900000000) : m_impl_rowsCopy l = some l := by
  unfold m_impl_rowsCopy
  have := (scanF (f := fun (s : Rows) x => s ++ [x]) (J := fun s => some s) (fun k s => s.length = k) l (fun n k s => m_impl_rowsCopy_l1 n l (l.length : Int) k s) (fun n k x s hx hI => by
    have := lt_of_at hx; rw [m_impl_rowsCopy_l1, dlt this, cond_true, at_of hx, Option.bind_some, E_clone (hr x (List.mem_of_getElem? hx)), Option.bind_some, app_of (by simp; omega), Option.bind_some, ck1 (show k < 1000000000000 by omega), Option.bind_some]
    exact ⟨rfl, by simp [hI]⟩) (fun n s _ => by
      rw [m_impl_rowsCopy_l1, dnlt, cond_false]; unfold m_impl_rowsCopy_j1; rfl) _ fuel0 [] rfl).1
  rw [this, foldl_snoc]; rfl
theorem E_l3Own {l : Row} (h : l.length ≤ 900000000) : m_spec_l3Own l = some l := by
  unfold m_spec_l3Own; rw [app_of (by simp; omega)]; rfl
theorem cut_of {α : Type} {l : List α} {lo hi : Nat} (h : lo ≤ hi) (h2 : hi ≤ l.length) : cut? l (lo : Int) (hi : Int) = some ((l.take hi).drop lo) := by
  unfold cut?; rw [if_pos (by omega)]; simp
abbrev Rd := S_spec_l20Rd
def Rd.ok (o : Rd) : Prop := 0 ≤ o.p ∧ o.p ≤ 1000000000
structure TO {α : Type} (p : α → α → Int) : Prop where
  eq0 : ∀ a b, p a b = 0 ↔ a = b
  anti : ∀ a b, p a b < 0 ↔ 0 < p b a
  trans : ∀ a b c, p a b < 0 → p b c < 0 → p a c < 0
theorem TO.comap {α β : Type} {p : β → β → Int} (h : TO p) (f : α → β) (hf : ∀ a b, f a = f b → a = b) : TO fun a b => p (f a) (f b) where
  eq0 a b := ⟨fun e => hf a b ((h.eq0 _ _).1 e), fun e => (h.eq0 _ _).2 (by rw [e])⟩
  anti a b := h.anti _ _
  trans a b c := h.trans _ _ _
theorem TO.le_trans {α : Type} {p : α → α → Int} (h : TO p) {a b c : α} (h1 : p a b ≤ 0) (h2 : p b c ≤ 0) : p a c ≤ 0 := by
  rcases Int.lt_or_eq_of_le h1 with h1 | h1
  · rcases Int.lt_or_eq_of_le h2 with h2 | h2
    · exact Int.le_of_lt (h.trans _ _ _ h1 h2)
    · rw [← (h.eq0 _ _).1 h2]; omega
  · rw [(h.eq0 _ _).1 h1]; exact h2
theorem TO.le_antisymm {α : Type} {p : α → α → Int} (h : TO p) {a b : α} (h1 : p a b ≤ 0) (h2 : p b a ≤ 0) : a = b := by
  refine (h.eq0 _ _).1 ?_; have := h.anti a b; omega
theorem TO.total {α : Type} {p : α → α → Int} (h : TO p) (a b : α) : 0 < p a b ↔ p b a < 0 := (h.anti b a).symm
def lx (x y : Int) : Int := if x = 0 then y else x
theorem TO.lex {α β : Type} {p : α → α → Int} {q : β → β → Int} (h : TO p) (k : TO q) : TO fun (a b : α × β) => lx (p a.1 b.1) (q a.2 b.2) where
  eq0 a b := by
    have h1 := h.eq0 a.1 b.1; have h2 := k.eq0 a.2 b.2; unfold lx
    split
    · rename_i e; rw [h2]; exact ⟨fun e2 => Prod.ext (h1.1 e) e2, fun e2 => by rw [e2]⟩
    · rename_i e; exact ⟨fun e2 => absurd e2 e, fun e2 => absurd (h1.2 (by rw [e2])) e⟩
  anti a b := by
    have h1 := h.anti a.1 b.1; have h2 := k.anti a.2 b.2; have h3 := h.eq0 a.1 b.1; have h4 := h.eq0 b.1 a.1; unfold lx
    by_cases e : a.1 = b.1
    · rw [if_pos (h3.2 e), if_pos (h4.2 e.symm)]; exact h2
    · rw [if_neg (fun x => e (h3.1 x)), if_neg (fun x => e (h4.1 x).symm)]; exact h1
  trans a b c := by
    have h1 := h.trans a.1 b.1 c.1; have h2 := k.trans a.2 b.2 c.2; unfold lx
    by_cases e1 : a.1 = b.1
    · rw [if_pos ((h.eq0 _ _).2 e1), e1]
      by_cases e2 : b.1 = c.1
      · rw [if_pos ((h.eq0 _ _).2 e2), if_pos ((h.eq0 _ _).2 e2)]; exact h2
      · rw [if_neg (fun x => e2 ((h.eq0 _ _).1 x)), if_neg (fun x => e2 ((h.eq0 _ _).1 x))]; exact fun _ g => g
    · rw [if_neg (fun x => e1 ((h.eq0 _ _).1 x))]
      by_cases e2 : b.1 = c.1
      · rw [← e2, if_pos ((h.eq0 _ _).2 rfl), if_neg (fun x => e1 ((h.eq0 _ _).1 x))]; exact fun g _ => g
      · rw [if_neg (fun x => e2 ((h.eq0 _ _).1 x))]
        intro g1 g2; have := h1 g1 g2; rw [if_neg (by omega)]; exact this
theorem TO_int : TO cmpI where
  eq0 a b := by unfold cmpI; split <;> (try split) <;> omega
  anti a b := by unfold cmpI; split <;> split <;> (try split) <;> (try split) <;> omega
  trans a b c := by unfold cmpI; split <;> split <;> (try split) <;> (try split) <;> (try split) <;> omega
def cmpB : List UInt8 → List UInt8 → Int
  | [], [] => 0
  | [], _ :: _ => -1
  | _ :: _, [] => 1
  | a :: x, b :: y => lx (cmpI a.toNat b.toNat) (cmpB x y)
theorem cmpB_less : ∀ a b : List UInt8, (if Op.bytesLess a b then (-1 : Int) else if Op.bytesLess a b || a == b then 0 else 1) = cmpB a b
  | [], [] => rfl
  | [], _ :: _ => rfl
  | _ :: _, [] => rfl
  | a :: x, b :: y => by
    have ih := cmpB_less x y; simp only [cmpB, ← ih]; unfold lx cmpI; simp only [Op.bytesLess]; rcases Nat.lt_trichotomy a.toNat b.toNat with h | h | h
    · have h' : a < b := UInt8.lt_iff_toNat_lt.2 h
      have h2 : (a.toNat : Int) < b.toNat := by omega
      simp [h', h2]
    · have h' : a = b := UInt8.toNat_inj.1 h
      subst h'; simp
    · have h' : ¬ a < b := fun e => by have := UInt8.lt_iff_toNat_lt.1 e; omega
      have h2 : ¬ (a.toNat : Int) < b.toNat := by omega
      have h3 : (b.toNat : Int) < a.toNat := by omega
      have h4 : ¬ a = b := fun e => by rw [e] at h; omega
      simp [h', h2, h3, h4]
theorem TO_list {α : Type} {p : α → α → Int} (h : TO p) : TO (cmpL p) where
  eq0 := by
    intro a
    induction a with
    | nil => intro b; cases b <;> simp [cmpL]
    | cons x a ih =>
      intro b; cases b with
      | nil => simp [cmpL]
      | cons y b =>
        simp only [cmpL]
        split
        · rename_i e; rw [ih b, List.cons.injEq]; exact ⟨fun e2 => ⟨(h.eq0 _ _).1 e, e2⟩, fun e2 => e2.2⟩
        · rename_i e; rw [List.cons.injEq]; exact ⟨fun e2 => absurd e2 e, fun e2 => absurd ((h.eq0 _ _).2 e2.1) e⟩
  anti := by
    intro a
    induction a with
    | nil => intro b; cases b <;> simp [cmpL]
    | cons x a ih =>
      intro b; cases b with
      | nil => simp [cmpL]
      | cons y b =>
        simp only [cmpL]
        by_cases e : x = y
        · rw [if_pos ((h.eq0 _ _).2 e), if_pos ((h.eq0 _ _).2 e.symm)]; exact ih b
        · rw [if_neg (fun g => e ((h.eq0 _ _).1 g)), if_neg (fun g => e ((h.eq0 _ _).1 g).symm)]; exact h.anti x y
  trans := by
    intro a
    induction a with
    | nil => intro b c; cases b <;> cases c <;> simp [cmpL]
    | cons x a ih =>
      intro b c; cases b with
      | nil => simp [cmpL]
      | cons y b =>
        cases c with
        | nil => simp [cmpL]
        | cons z c =>
          simp only [cmpL]
          by_cases e1 : x = y
          · rw [if_pos ((h.eq0 _ _).2 e1), e1]
            by_cases e2 : y = z
            · rw [if_pos ((h.eq0 _ _).2 e2), if_pos ((h.eq0 _ _).2 e2)]; exact ih b c
            · rw [if_neg (fun g => e2 ((h.eq0 _ _).1 g)), if_neg (fun g => e2 ((h.eq0 _ _).1 g))]; exact fun _ g => g
          · rw [if_neg (fun g => e1 ((h.eq0 _ _).1 g))]
            by_cases e2 : y = z
            · rw [← e2, if_pos ((h.eq0 _ _).2 rfl), if_neg (fun g => e1 ((h.eq0 _ _).1 g))]; exact fun g _ => g
            · rw [if_neg (fun g => e2 ((h.eq0 _ _).1 g))]
              intro g1 g2; have := h.trans x y z g1 g2; rw [if_neg (by omega)]; exact this
theorem TO_byte : TO fun (a b : UInt8) => cmpI a.toNat b.toNat := TO_int.comap (fun b : UInt8 => (b.toNat : Int)) fun a b h => UInt8.toNat_inj.1 (by omega)
theorem cmpB_L : ∀ a b : List UInt8, cmpB a b = cmpL (fun (a b : UInt8) => cmpI a.toNat b.toNat) a b
  | [], [] => rfl
  | [], _ :: _ => rfl
  | _ :: _, [] => rfl
  | a :: x, b :: y => by simp only [cmpB, cmpL, lx, cmpB_L x y]
theorem TO_str : TO cmpS := by
  have h := (TO_list TO_byte).comap (fun s : ByteArray => s.data.toList) (fun a b h => ByteArray.ext (Array.toList_inj.1 h))
  have e : cmpS = fun a b : ByteArray => cmpL (fun (a b : UInt8) => cmpI a.toNat b.toNat) a.data.toList b.data.toList := by
    funext a b
    unfold cmpS sLt sEq; rw [ByteArray.toList_eq, ByteArray.toList_eq, cmpB_less, cmpB_L]
  rw [e]; exact h
theorem orI_2 (a b : Int) : orI [a, b] = lx a b := by
  unfold lx; split
  · rename_i h; subst h; rw [orI_0]
    by_cases h : b = 0
    · subst h; rfl
    · rw [orI_1 h]
  · rename_i h; rw [orI_1 h]
theorem orI_3 (a b c : Int) : orI [a, b, c] = lx a (lx b c) := by
  by_cases h : a = 0
  · subst h; rw [orI_0, orI_2]; rfl
  · rw [orI_1 h]; unfold lx; rw [if_neg h]
theorem TO_value : TO vOrd := by
  have h := (TO_int.lex (TO_int.lex TO_str)).comap (fun v : V => (v.Kind, (v.N, v.S))) (fun a b h => by
    cases a; cases b; simp only [Prod.mk.injEq] at h; simp [h])
  have e : vOrd = fun a b : V => lx (cmpI a.Kind b.Kind) (lx (cmpI a.N b.N) (cmpS a.S b.S)) := by
    funext a b; unfold vOrd; rw [orI_3]
  rw [e]; exact h
theorem L_slices_IndexFunc_Limpl_Column_impl_Column {l : List S_impl_Column} {p : S_impl_Column → Option Bool} {q : S_impl_Column → Bool} (hl : l.length ≤ 900000000) (hp : ∀ v ∈ l, p v = some (q v)) : m_slices_IndexFunc_Limpl_Column_impl_Column l p = some (idxI q l) := by
  unfold m_slices_IndexFunc_Limpl_Column_impl_Column
  exact scanI (q := q) (g := fun i => some i) l (fun n k => m_slices_IndexFunc_Limpl_Column_impl_Column_l1 p n l (l.length : Int) k) (fun n k x hx => by
    have := lt_of_at hx; rw [m_slices_IndexFunc_Limpl_Column_impl_Column_l1, dlt this, cond_true]; simp only [at_of hx, Option.bind_some, hp x (List.mem_of_getElem? hx), ck1 (show k < 1000000000000 by omega)]) (fun n => by rw [m_slices_IndexFunc_Limpl_Column_impl_Column_l1, dnlt]; rfl) _ fuel0
theorem L_slices_ContainsFunc_Limpl_Column_impl_Column {l : List S_impl_Column} {p : S_impl_Column → Option Bool} {q : S_impl_Column → Bool} (hl : l.length ≤ 900000000) (hp : ∀ v ∈ l, p v = some (q v)) : m_slices_ContainsFunc_Limpl_Column_impl_Column l p = some (l.any q) := by
  unfold m_slices_ContainsFunc_Limpl_Column_impl_Column; rw [L_slices_IndexFunc_Limpl_Column_impl_Column hl hp, Option.bind_some, (idxI_ge q l).2.2]
theorem L_slices_IndexFunc_LLimpl_Value_Limpl_Value {l : List (List S_impl_Value)} {p : (List S_impl_Value) → Option Bool} {q : (List S_impl_Value) → Bool} (hl : l.length ≤ 900000000) (hp : ∀ v ∈ l, p v = some (q v)) : m_slices_IndexFunc_LLimpl_Value_Limpl_Value l p = some (idxI q l) := by
  unfold m_slices_IndexFunc_LLimpl_Value_Limpl_Value
  exact scanI (q := q) (g := fun i => some i) l (fun n k => m_slices_IndexFunc_LLimpl_Value_Limpl_Value_l1 p n l (l.length : Int) k) (fun n k x hx => by
    have := lt_of_at hx; rw [m_slices_IndexFunc_LLimpl_Value_Limpl_Value_l1, dlt this, cond_true]; simp only [at_of hx, Option.bind_some, hp x (List.mem_of_getElem? hx), ck1 (show k < 1000000000000 by omega)]) (fun n => by rw [m_slices_IndexFunc_LLimpl_Value_Limpl_Value_l1, dnlt]; rfl) _ fuel0
theorem L_slices_ContainsFunc_LLimpl_Value_Limpl_Value {l : List (List S_impl_Value)} {p : (List S_impl_Value) → Option Bool} {q : (List S_impl_Value) → Bool} (hl : l.length ≤ 900000000) (hp : ∀ v ∈ l, p v = some (q v)) : m_slices_ContainsFunc_LLimpl_Value_Limpl_Value l p = some (l.any q) := by
  unfold m_slices_ContainsFunc_LLimpl_Value_Limpl_Value; rw [L_slices_IndexFunc_LLimpl_Value_Limpl_Value hl hp, Option.bind_some, (idxI_ge q l).2.2]
theorem L_slices_swapRangeCmpFunc_Limpl_Value {p : (List S_impl_Value) → (List S_impl_Value) → Option Int} (P X Q Y S : List (List S_impl_Value)) (hXY : X.length = Y.length) (hl : P.length + X.length + Q.length + Y.length + S.length ≤ 900000000) :
    m_slices_swapRangeCmpFunc_Limpl_Value (P ++ (X ++ (Q ++ (Y ++ S)))) (P.length : Int) ((P.length + X.length + Q.length : Nat) : Int) (X.length : Int) p = some (P ++ (Y ++ (Q ++ (X ++ S)))) := by
  unfold m_slices_swapRangeCmpFunc_Limpl_Value
  have key : ∀ (d i m : Nat), i + d = X.length → d < m → m_slices_swapRangeCmpFunc_Limpl_Value_l1 p m (P.length : Int) ((P.length + X.length + Q.length : Nat) : Int) (X.length : Int) (i : Int) (P ++ ((Y.take i ++ X.drop i) ++ (Q ++ ((X.take i ++ Y.drop i) ++ S)))) = some (P ++ (Y ++ (Q ++ (X ++ S)))) := by
    intro d
    induction d with
    | zero =>
      intro i m hi hm; obtain ⟨m, rfl⟩ : ∃ q, m = q + 1 := ⟨m - 1, by omega⟩; obtain rfl : i = X.length := by omega
      rw [m_slices_swapRangeCmpFunc_Limpl_Value_l1, dnlt, cond_false, List.take_length, List.drop_length, hXY, List.take_length, List.drop_length]; simp
    | succ d ih =>
      intro i m hi hm; obtain ⟨m, rfl⟩ : ∃ q, m = q + 1 := ⟨m - 1, by omega⟩; have hX : X.drop i = X[i] :: X.drop (i + 1) := List.drop_eq_getElem_cons (by omega); have hY : Y.drop i = Y[i] :: Y.drop (i + 1) := List.drop_eq_getElem_cons (by omega); have eo : P ++ ((Y.take i ++ X.drop i) ++ (Q ++ ((X.take i ++ Y.drop i) ++ S))) = (P ++ Y.take i) ++ X[i] :: ((X.drop (i + 1) ++ (Q ++ X.take i)) ++ Y[i] :: (Y.drop (i + 1) ++ S)) := by rw [hX, hY]; simp only [List.append_assoc, List.cons_append]
      have en : (P ++ Y.take i) ++ Y[i] :: ((X.drop (i + 1) ++ (Q ++ X.take i)) ++ X[i] :: (Y.drop (i + 1) ++ S)) = P ++ ((Y.take (i + 1) ++ X.drop (i + 1)) ++ (Q ++ ((X.take (i + 1) ++ Y.drop (i + 1)) ++ S))) := by
        rw [List.take_succ_eq_append_getElem (show i < Y.length by omega), List.take_succ_eq_append_getElem (show i < X.length by omega)]; simp only [List.append_assoc, List.cons_append, List.nil_append]
      have l1 : (P ++ Y.take i).length = P.length + i := by simp; omega
      have l2 : (P ++ Y.take i).length + 1 + (X.drop (i + 1) ++ (Q ++ X.take i)).length = P.length + X.length + Q.length + i := by simp; omega
      obtain ⟨g1, g2⟩ := at_two (P ++ Y.take i) (X.drop (i + 1) ++ (Q ++ X.take i)) (Y.drop (i + 1) ++ S) X[i] Y[i]; have st := set_two (P ++ Y.take i) (X.drop (i + 1) ++ (Q ++ X.take i)) (Y.drop (i + 1) ++ S) X[i] Y[i]; rw [l1] at g1; rw [l2] at g2; rw [l2, l1] at st; rw [eo]; generalize ho : (P ++ Y.take i) ++ X[i] :: ((X.drop (i + 1) ++ (Q ++ X.take i)) ++ Y[i] :: (Y.drop (i + 1) ++ S)) = o at g1 g2 st
      rw [m_slices_swapRangeCmpFunc_Limpl_Value_l1, dlt (show i < X.length by omega), cond_true, show ((P.length : Int) + (i : Int)) = ((P.length + i : Nat) : Int) by omega, show (((P.length + X.length + Q.length : Nat) : Int) + (i : Int)) = ((P.length + X.length + Q.length + i : Nat) : Int) by omega,
        ckI_of (x := ((P.length + i : Nat) : Int)) (by omega) (by omega), Option.bind_some, ckI_of (x := ((P.length + X.length + Q.length + i : Nat) : Int)) (by omega) (by omega), Option.bind_some, Option.bind_some]
      rw [at_of g2, Option.bind_some, Option.bind_some, Option.bind_some, at_of g1, Option.bind_some, Option.bind_some, Option.bind_some, Option.bind_some]; rw [ltE, Int.toNat_natCast, Int.toNat_natCast, at_set_ne g2 (show P.length + i ≠ P.length + X.length + Q.length + i by omega), Option.bind_some, Option.bind_some, ltE, ck1 (by omega), Option.bind_some, st, en, show ((i : Int) + 1) = ((i + 1 : Nat) : Int) by omega]; exact ih (i + 1) m (by omega) (by omega)
  have := key X.length 0 (((X.length : Int) - 0).toNat + 1) (by omega) (by omega); rw [show ((0 : Nat) : Int) = 0 from rfl, List.take_zero, List.drop_zero, List.take_zero, List.drop_zero, List.nil_append, List.nil_append] at this; exact this
theorem L_slices_rotateCmpFunc_Limpl_Value {p : (List S_impl_Value) → (List S_impl_Value) → Option Int} (P X Y S : List (List S_impl_Value)) (hX : 0 < X.length) (hY : 0 < Y.length) (hl : P.length + X.length + Y.length + S.length ≤ 900000000) :
    m_slices_rotateCmpFunc_Limpl_Value (P ++ (X ++ (Y ++ S))) (P.length : Int) ((P.length + X.length : Nat) : Int) ((P.length + X.length + Y.length : Nat) : Int) p = some (P ++ (Y ++ (X ++ S))) := by
  unfold m_slices_rotateCmpFunc_Limpl_Value; rw [ckI_of (by omega) (by omega), Option.bind_some, ckI_of (by omega) (by omega), Option.bind_some, show (((P.length + X.length : Nat) : Int) - (P.length : Int)) = (X.length : Int) by omega, show (((P.length + X.length + Y.length : Nat) : Int) - ((P.length + X.length : Nat) : Int)) = (Y.length : Int) by omega]
  have key : ∀ (d n mm : Nat) (P X Y S : List (List S_impl_Value)), X.length + Y.length ≤ d → d < n → 0 < X.length → 0 < Y.length → P.length + X.length + Y.length + S.length ≤ 900000000 → mm = P.length + X.length →
      m_slices_rotateCmpFunc_Limpl_Value_l1 p n (mm : Int) (X.length : Int) (Y.length : Int) (P ++ (X ++ (Y ++ S))) = some (P ++ (Y ++ (X ++ S))) := by
    intro d
    induction d with
    | zero => intro n mm P X Y S h0 h1 h2; omega
    | succ d ih =>
      intro n mm P X Y S h0 h1 h2 h3 h4 h5; obtain ⟨n, rfl⟩ : ∃ q, n = q + 1 := ⟨n - 1, by omega⟩; rw [m_slices_rotateCmpFunc_Limpl_Value_l1, neN]
      by_cases he : X.length = Y.length
      · rw [decide_eq_true he, Bool.not_true, cond_false]
        unfold m_slices_rotateCmpFunc_Limpl_Value_j1; have := L_slices_swapRangeCmpFunc_Limpl_Value (p := p) P X [] Y S he (by simp; omega); simp only [List.nil_append, List.length_nil, Nat.add_zero] at this; rw [ckI_of (by omega) (by omega), Option.bind_some, show ((mm : Int) - (X.length : Int)) = (P.length : Int) by omega, h5, this, Option.bind_some, lenQ_ok (by simp; omega), Option.bind_some]
      · rw [decide_eq_false he, Bool.not_false, cond_true]
        by_cases hg : X.length > Y.length
        · have hs : X = X.take Y.length ++ X.drop Y.length := (List.take_append_drop _ _).symm
          have lu : (X.take Y.length).length = Y.length := by simp; omega
          have lv : (X.drop Y.length).length = X.length - Y.length := by simp
          generalize X.take Y.length = U at hs lu; generalize X.drop Y.length = V at hs lv; subst hs; have := L_slices_swapRangeCmpFunc_Limpl_Value (p := p) P U V Y S lu (by simp at h4 ⊢; omega)
          rw [decide_eq_true (show (((U ++ V).length : Int) > (Y.length : Int)) by omega), cond_true, ckI_of (by omega) (by omega), Option.bind_some, show ((mm : Int) - ((U ++ V).length : Int)) = (P.length : Int) by omega, List.append_assoc, ← lu,
            show (mm : Int) = ((P.length + U.length + V.length : Nat) : Int) by simp at h5; omega, this, Option.bind_some, lenQ_ok (by simp; omega), Option.bind_some, ckI_of (by omega) (by omega), Option.bind_some]
          have e := ih n (P.length + U.length + V.length) (P ++ Y) V U S (by simp at h0; omega) (by omega) (by omega) (by omega) (by simp at h4 ⊢; omega) (by simp; omega); rw [show (((U ++ V).length : Int) - (U.length : Int)) = (V.length : Int) by simp; omega]; simp only [List.append_assoc] at e ⊢; exact e
        · have hs : Y = Y.take (Y.length - X.length) ++ Y.drop (Y.length - X.length) := (List.take_append_drop _ _).symm
          have lu : (Y.take (Y.length - X.length)).length = Y.length - X.length := by simp
          have lv : (Y.drop (Y.length - X.length)).length = X.length := by simp; omega
          generalize Y.take (Y.length - X.length) = U at hs lu; generalize Y.drop (Y.length - X.length) = V at hs lv; subst hs; have := L_slices_swapRangeCmpFunc_Limpl_Value (p := p) P X U V S lv.symm (by simp at h4 ⊢; omega)
          rw [decide_eq_false (show ¬ ((X.length : Int) > ((U ++ V).length : Int)) by omega), cond_false, ckI_of (by omega) (by omega), Option.bind_some, ckI_of (by omega) (by omega), Option.bind_some, ckI_of (by omega) (by omega), Option.bind_some, show ((mm : Int) - (X.length : Int)) = (P.length : Int) by omega,
            show ((mm : Int) + ((U ++ V).length : Int) - (X.length : Int)) = ((P.length + X.length + U.length : Nat) : Int) by simp; omega, List.append_assoc, this, Option.bind_some, lenQ_ok (by simp; omega), Option.bind_some, ckI_of (by omega) (by omega), Option.bind_some]
          have e := ih n mm P V U (X ++ S) (by simp at h0; omega) (by omega) (by omega) (by simp at he; omega) (by simp at h4 ⊢; omega) (by omega); rw [show (((U ++ V).length : Int) - (X.length : Int)) = (U.length : Int) by simp; omega, ← lv]; simp only [List.append_assoc] at e ⊢; exact e
  exact key (X.length + Y.length) 1000000000 _ P X Y S (Nat.le_refl _) (by omega) hX hY hl rfl
theorem L_up_slices_symMergeCmpFunc_Limpl_Value {rc : List (List S_impl_Value) → Int → Int → Int → ((List S_impl_Value) → (List S_impl_Value) → Option Int) → Option (List (List S_impl_Value))} {p : (List S_impl_Value) → (List S_impl_Value) → Option Int} (x : (List S_impl_Value)) : ∀ (B P R : List (List S_impl_Value)) (n : Nat), B.length < n → P.length + B.length + R.length ≤ 900000000 →
    m_slices_symMergeCmpFunc_Limpl_Value_l2 rc p n ((P.length + B.length + 1 : Nat) : Int) (P.length : Int) (P ++ x :: (B ++ R)) = some (P ++ (B ++ x :: R)) := by
  intro B
  induction B with
  | nil =>
    intro P R n hn hl; obtain ⟨n, rfl⟩ : ∃ q, n = q + 1 := ⟨n - 1, by omega⟩; rw [m_slices_symMergeCmpFunc_Limpl_Value_l2, ckI_of (by omega) (by omega), Option.bind_some, decide_eq_false (by simp), cond_false]; rfl
  | cons y B ih =>
    intro P R n hn hl; obtain ⟨n, rfl⟩ : ∃ q, n = q + 1 := ⟨n - 1, by omega⟩; obtain ⟨g1, g2⟩ := at_two P [] (B ++ R) x y; have st := set_two P [] (B ++ R) x y; rw [List.nil_append, List.nil_append, List.length_nil, Nat.add_zero] at st; rw [List.nil_append] at g1; rw [List.nil_append, List.length_nil, Nat.add_zero] at g2; rw [List.cons_append]; generalize ho : P ++ x :: y :: (B ++ R) = o at g1 g2 st; have hlen : (y :: B).length = B.length + 1 := rfl; rw [hlen] at hn hl; rw [m_slices_symMergeCmpFunc_Limpl_Value_l2, hlen, ckI_of (by omega) (by omega), Option.bind_some, decide_eq_true (by omega), cond_true, ck1 (show P.length < 1000000000000 by omega), Option.bind_some, Option.bind_some, show ((P.length : Int) + 1) = ((P.length + 1 : Nat) : Int) by omega, at_of g2, Option.bind_some, Option.bind_some, at_of g1, Option.bind_some, Option.bind_some, Option.bind_some, Option.bind_some, ltE, Int.toNat_natCast, Int.toNat_natCast, at_set_ne g2 (show P.length ≠ P.length + 1 by omega), Option.bind_some, Option.bind_some, ltE, Option.bind_some, st]; have := ih (P ++ [y]) R n (by omega) (by simp; omega); rw [show ((P ++ [y]).length + B.length + 1) = P.length + (B.length + 1) + 1 by simp; omega, show ((P ++ [y]).length : Nat) = P.length + 1 by simp] at this; rw [show P ++ y :: x :: (B ++ R) = (P ++ [y]) ++ x :: (B ++ R) by simp, this]; simp
theorem L_down_slices_symMergeCmpFunc_Limpl_Value {rc : List (List S_impl_Value) → Int → Int → Int → ((List S_impl_Value) → (List S_impl_Value) → Option Int) → Option (List (List S_impl_Value))} {p : (List S_impl_Value) → (List S_impl_Value) → Option Int} (x : (List S_impl_Value)) (Q : List (List S_impl_Value)) : ∀ (k : Nat) (A R : List (List S_impl_Value)) (n : Nat), A.length = k → k < n → Q.length + A.length + R.length ≤ 900000000 →
    m_slices_symMergeCmpFunc_Limpl_Value_l4 rc p n (Q.length : Int) ((Q.length + A.length : Nat) : Int) (Q ++ (A ++ x :: R)) = some (Q ++ x :: (A ++ R)) := by
  intro k
  induction k with
  | zero =>
    intro A R n hk hn hl; obtain rfl : A = [] := List.length_eq_zero_iff.1 hk; obtain ⟨n, rfl⟩ : ∃ q, n = q + 1 := ⟨n - 1, by omega⟩; rw [m_slices_symMergeCmpFunc_Limpl_Value_l4, decide_eq_false (by simp), cond_false]; rfl
  | succ k ih =>
    intro A R n hk hn hl; obtain ⟨n, rfl⟩ : ∃ q, n = q + 1 := ⟨n - 1, by omega⟩
    obtain ⟨A', z, rfl⟩ : ∃ A' z, A = A' ++ [z] := by
      have : A ≠ [] := by rintro rfl; simp at hk
      exact ⟨A.dropLast, A.getLast this, (List.dropLast_concat_getLast this).symm⟩
    have hk' : A'.length = k := by simpa using hk
    obtain ⟨g1, g2⟩ := at_two (Q ++ A') [] R z x; have st := set_two (Q ++ A') [] R x z; have l1 : (Q ++ A').length = Q.length + A'.length := by simp
    have e0 : Q ++ ((A' ++ [z]) ++ x :: R) = (Q ++ A') ++ z :: ([] ++ x :: R) := by simp
    have hset : (((Q ++ A') ++ z :: ([] ++ x :: R)).set (Q.length + A'.length + 1) z).set (Q.length + A'.length) x = (Q ++ A') ++ x :: z :: R := by
      rw [List.set_append_right _ _ (by rw [l1]; omega), l1, show Q.length + A'.length + 1 - (Q.length + A'.length) = 1 by omega, List.nil_append, List.set_cons_succ, List.set_cons_zero, List.set_append_right _ _ (by rw [l1]; omega), l1, Nat.sub_self, List.set_cons_zero]
    rw [l1] at g1; rw [l1, List.length_nil, Nat.add_zero] at g2; rw [e0]; generalize ho : (Q ++ A') ++ z :: ([] ++ x :: R) = o at g1 g2 hset; have hlen : (A' ++ [z]).length = A'.length + 1 := by simp
    rw [hlen] at hl ⊢; rw [m_slices_symMergeCmpFunc_Limpl_Value_l4, decide_eq_true (by omega), cond_true, show ((Q.length + (A'.length + 1) : Nat) : Int) = ((Q.length + A'.length + 1 : Nat) : Int) by omega, ckdd (by omega), Option.bind_some, Option.bind_some, at_of g1, Option.bind_some, Option.bind_some, at_of g2, Option.bind_some, Option.bind_some, Option.bind_some, Option.bind_some, ltE, Int.toNat_natCast, Int.toNat_natCast, at_set_ne g1 (show Q.length + A'.length + 1 ≠ Q.length + A'.length by omega), Option.bind_some, Option.bind_some, ltE, Option.bind_some, hset]; have := ih A' (z :: R) n hk' (by omega) (by simp; omega); rw [List.append_assoc, this]; simp
theorem L_b1_slices_symMergeCmpFunc_Limpl_Value {rc : List (List S_impl_Value) → Int → Int → Int → ((List S_impl_Value) → (List S_impl_Value) → Option Int) → Option (List (List S_impl_Value))} {p : (List S_impl_Value) → (List S_impl_Value) → Option Int} {q : (List S_impl_Value) → (List S_impl_Value) → Int} {U : List (List S_impl_Value)} (hp : ∀ x ∈ U, ∀ y ∈ U, p x y = some (q x y)) (x : (List S_impl_Value)) (P Y S : List (List S_impl_Value)) (hU : ∀ z ∈ x :: Y, z ∈ U) (hl : P.length + 1 + Y.length + S.length ≤ 900000000) :
    ∃ B1 B2, Y = B1 ++ B2 ∧ m_slices_symMergeCmpFunc_Limpl_Value_l1 rc p (((P.length + 1 + Y.length : Nat) : Int) - ((P.length + 1 : Nat) : Int)).toNat.succ (P.length : Int) ((P.length + 1 : Nat) : Int) ((P.length + 1 + Y.length : Nat) : Int) (P ++ ([x] ++ (Y ++ S))) = some (P ++ ((B1 ++ x :: B2) ++ S)) ∧ (∀ z, B1[B1.length - 1]? = some z → q z x < 0) ∧ (∀ z, B2[0]? = some z → ¬ q z x < 0) := by
  have hx0 : (P ++ ([x] ++ (Y ++ S)))[P.length]? = some x := by simp
  let good : Nat → Bool := fun h => match (P ++ ([x] ++ (Y ++ S)))[h]? with | some z => decide (q z x < 0) | none => false
  obtain ⟨k, k1, k2, k3, k4, k5⟩ := bsLoop (fun n i j => m_slices_symMergeCmpFunc_Limpl_Value_l1 rc p n (P.length : Int) i j (P ++ ([x] ++ (Y ++ S)))) (fun i => m_slices_symMergeCmpFunc_Limpl_Value_j1 rc p (P.length : Int) (i : Int) (P ++ ([x] ++ (Y ++ S)))) good (P.length + 1) (P.length + 1 + Y.length)
    (fun n i => by show m_slices_symMergeCmpFunc_Limpl_Value_l1 rc p (n + 1) _ _ _ _ = _; rw [m_slices_symMergeCmpFunc_Limpl_Value_l1, dnlt, cond_false])
    (fun n i j h1 h2 h3 => by
      show m_slices_symMergeCmpFunc_Limpl_Value_l1 rc p (n + 1) _ _ _ _ = _; obtain ⟨z, g1, g2, g3, g4⟩ := mid_get P [x] Y S (i := (i + j) / 2) (by omega) (by simp only [List.length_singleton]; omega); have gd : good ((i + j) / 2) = decide (q z x < 0) := by show (match (P ++ ([x] ++ (Y ++ S)))[(i + j) / 2]? with | some z => decide (q z x < 0) | none => false) = _; rw [g1]
      rw [m_slices_symMergeCmpFunc_Limpl_Value_l1, dlt h2, cond_true, show ((i : Int) + (j : Int)) = ((i + j : Nat) : Int) by omega, ckI_of (by omega) (by omega), Option.bind_some, uI_of (by omega) (by omega), Option.bind_some, shr_half, Option.bind_some, uI_of (by omega) (by omega), Option.bind_some, at_of g1, Option.bind_some, Option.bind_some, at_of hx0, Option.bind_some, Option.bind_some, hp z (hU z (by simpa using g2)) x (hU x (by simp)), Option.bind_some, gd]
      by_cases hq : q z x < 0
      · rw [decide_eq_true hq, cond_true, if_pos rfl, ck1 (by omega), Option.bind_some]
        rfl
      · rw [decide_eq_false hq, cond_false, if_neg (by simp)])
    (((P.length + 1 + Y.length : Nat) : Int) - ((P.length + 1 : Nat) : Int)).toNat.succ (by omega) (by omega)
  have k3' : m_slices_symMergeCmpFunc_Limpl_Value_l1 rc p (((P.length + 1 + Y.length : Nat) : Int) - ((P.length + 1 : Nat) : Int)).toNat.succ (P.length : Int) ((P.length + 1 : Nat) : Int) ((P.length + 1 + Y.length : Nat) : Int) (P ++ ([x] ++ (Y ++ S))) = m_slices_symMergeCmpFunc_Limpl_Value_j1 rc p (P.length : Int) (k : Int) (P ++ ([x] ++ (Y ++ S))) := k3; rw [k3']
  have gdef : ∀ h z, (P ++ ([x] ++ (Y ++ S)))[h]? = some z → good h = decide (q z x < 0) := fun h z hz => by
    show (match (P ++ ([x] ++ (Y ++ S)))[h]? with | some z => decide (q z x < 0) | none => false) = _; rw [hz]
  clear k3 k3'; obtain ⟨B1, B2, rfl, hB⟩ : ∃ B1 B2, Y = B1 ++ B2 ∧ B1.length = k - (P.length + 1) := ⟨Y.take (k - (P.length + 1)), Y.drop (k - (P.length + 1)), (List.take_append_drop _ _).symm, by simp; omega⟩; rw [List.length_append] at hl k2 k5; refine ⟨B1, B2, rfl, ?_, ?_, ?_⟩
  · unfold m_slices_symMergeCmpFunc_Limpl_Value_j1
    have := L_up_slices_symMergeCmpFunc_Limpl_Value (rc := rc) (p := p) x B1 P (B2 ++ S) 1000000000 (by omega) (by simp; omega); rw [show (k : Int) = ((P.length + B1.length + 1 : Nat) : Int) by omega, show P ++ ([x] ++ (B1 ++ B2 ++ S)) = P ++ x :: (B1 ++ (B2 ++ S)) by simp, this]; simp
  · intro z hz
    rcases k4 with h | h
    · have : B1 = [] := List.length_eq_zero_iff.1 (by omega)
      subst this; simp at hz
    · have hpos := lt_of_at hz
      have : (P ++ ([x] ++ (B1 ++ B2 ++ S)))[k - 1]? = some z := by
        rw [List.getElem?_append_right (by omega), List.getElem?_append_right (by simp; omega), List.append_assoc, List.getElem?_append_left (by simp; omega)]; rw [← hz]; congr 1; simp; omega
      rw [gdef _ _ this] at h; simpa using h
  · intro z hz
    rcases k5 with h | h
    · have : B2 = [] := List.length_eq_zero_iff.1 (by omega)
      subst this; simp at hz
    · have hpos := lt_of_at hz
      have : (P ++ ([x] ++ (B1 ++ B2 ++ S)))[k]? = some z := by
        rw [List.getElem?_append_right (by omega), List.getElem?_append_right (by simp; omega), List.append_assoc, List.getElem?_append_right (by simp; omega), List.getElem?_append_left (by simp; omega)]; rw [← hz]; congr 1; simp; omega
      rw [gdef _ _ this] at h; simpa using h
theorem L_b3_slices_symMergeCmpFunc_Limpl_Value {rc : List (List S_impl_Value) → Int → Int → Int → ((List S_impl_Value) → (List S_impl_Value) → Option Int) → Option (List (List S_impl_Value))} {p : (List S_impl_Value) → (List S_impl_Value) → Option Int} {q : (List S_impl_Value) → (List S_impl_Value) → Int} {U : List (List S_impl_Value)} (hp : ∀ x ∈ U, ∀ y ∈ U, p x y = some (q x y)) (y : (List S_impl_Value)) (P X S : List (List S_impl_Value)) (hU : ∀ z ∈ y :: X, z ∈ U) (hl : P.length + 1 + X.length + S.length ≤ 900000000) :
    ∃ A1 A2, X = A1 ++ A2 ∧ m_slices_symMergeCmpFunc_Limpl_Value_l3 rc p (((P.length + X.length : Nat) : Int) - (P.length : Int)).toNat.succ ((P.length + X.length : Nat) : Int) (P.length : Int) ((P.length + X.length : Nat) : Int) (P ++ (X ++ ([y] ++ S))) = some (P ++ ((A1 ++ y :: A2) ++ S)) ∧ (∀ z, A1[A1.length - 1]? = some z → ¬ q y z < 0) ∧ (∀ z, A2[0]? = some z → q y z < 0) := by
  have hx0 : (P ++ (X ++ ([y] ++ S)))[P.length + X.length]? = some y := by
    rw [List.getElem?_append_right (by omega), List.getElem?_append_right (by omega)]; simp
  let good : Nat → Bool := fun h => match (P ++ (X ++ ([y] ++ S)))[h]? with | some z => !decide (q y z < 0) | none => false
  obtain ⟨k, k1, k2, k3, k4, k5⟩ := bsLoop (fun n i j => m_slices_symMergeCmpFunc_Limpl_Value_l3 rc p n ((P.length + X.length : Nat) : Int) i j (P ++ (X ++ ([y] ++ S)))) (fun i => m_slices_symMergeCmpFunc_Limpl_Value_j4 rc p ((P.length + X.length : Nat) : Int) (i : Int) (P ++ (X ++ ([y] ++ S)))) good P.length (P.length + X.length)
    (fun n i => by show m_slices_symMergeCmpFunc_Limpl_Value_l3 rc p (n + 1) _ _ _ _ = _; rw [m_slices_symMergeCmpFunc_Limpl_Value_l3, dnlt, cond_false])
    (fun n i j h1 h2 h3 => by
      show m_slices_symMergeCmpFunc_Limpl_Value_l3 rc p (n + 1) _ _ _ _ = _; obtain ⟨z, g1, g2, g3, g4⟩ := mid_get P X [y] S (i := (i + j) / 2) (by omega) (by simp only [List.length_singleton]; omega); have gd : good ((i + j) / 2) = !decide (q y z < 0) := by show (match (P ++ (X ++ ([y] ++ S)))[(i + j) / 2]? with | some z => !decide (q y z < 0) | none => false) = _; rw [g1]
      rw [m_slices_symMergeCmpFunc_Limpl_Value_l3, dlt h2, cond_true, show ((i : Int) + (j : Int)) = ((i + j : Nat) : Int) by omega, ckI_of (by omega) (by omega), Option.bind_some, uI_of (by omega) (by omega), Option.bind_some, shr_half, Option.bind_some, uI_of (by omega) (by omega), Option.bind_some, at_of hx0, Option.bind_some, Option.bind_some, at_of g1, Option.bind_some, Option.bind_some, hp y (hU y (by simp)) z (hU z (by rcases List.mem_append.1 g2 with h | h <;> simp_all)), Option.bind_some, gd]
      by_cases hq : q y z < 0
      · rw [decide_eq_true hq, Bool.not_true, cond_false, if_neg (by simp)]
      · rw [decide_eq_false hq, Bool.not_false, cond_true, if_pos rfl, ck1 (by omega), Option.bind_some]
        rfl)
    (((P.length + X.length : Nat) : Int) - (P.length : Int)).toNat.succ (by omega) (by omega)
  have k3' : m_slices_symMergeCmpFunc_Limpl_Value_l3 rc p (((P.length + X.length : Nat) : Int) - (P.length : Int)).toNat.succ ((P.length + X.length : Nat) : Int) (P.length : Int) ((P.length + X.length : Nat) : Int) (P ++ (X ++ ([y] ++ S))) = m_slices_symMergeCmpFunc_Limpl_Value_j4 rc p ((P.length + X.length : Nat) : Int) (k : Int) (P ++ (X ++ ([y] ++ S))) := k3; rw [k3']
  have gdef : ∀ h z, (P ++ (X ++ ([y] ++ S)))[h]? = some z → good h = !decide (q y z < 0) := fun h z hz => by
    show (match (P ++ (X ++ ([y] ++ S)))[h]? with | some z => !decide (q y z < 0) | none => false) = _; rw [hz]
  clear k3 k3'; obtain ⟨A1, A2, rfl, hA⟩ : ∃ A1 A2, X = A1 ++ A2 ∧ A1.length = k - P.length := ⟨X.take (k - P.length), X.drop (k - P.length), (List.take_append_drop _ _).symm, by simp; omega⟩; rw [List.length_append] at hl k2 k5; refine ⟨A1, A2, rfl, ?_, ?_, ?_⟩
  · unfold m_slices_symMergeCmpFunc_Limpl_Value_j4
    have := L_down_slices_symMergeCmpFunc_Limpl_Value (rc := rc) (p := p) y (P ++ A1) A2.length A2 S ((((P.length + (A1 ++ A2).length : Nat) : Int) - (k : Int)).toNat + 1) rfl (by simp; omega) (by simp; omega); rw [show (((P ++ A1).length : Nat) : Int) = (k : Int) by simp; omega, show (((P ++ A1).length + A2.length : Nat) : Int) = ((P.length + (A1 ++ A2).length : Nat) : Int) by simp; omega] at this; rw [show P ++ (A1 ++ A2 ++ ([y] ++ S)) = (P ++ A1) ++ (A2 ++ y :: S) by simp, this]; simp
  · intro z hz
    rcases k4 with h | h
    · have : A1 = [] := List.length_eq_zero_iff.1 (by omega)
      subst this; simp at hz
    · have hpos := lt_of_at hz
      have : (P ++ (A1 ++ A2 ++ ([y] ++ S)))[k - 1]? = some z := by
        rw [List.getElem?_append_right (by omega), List.append_assoc, List.getElem?_append_left (by omega)]; rw [← hz]; congr 1; omega
      rw [gdef _ _ this] at h; simpa using h
  · intro z hz
    rcases k5 with h | h
    · have : A2 = [] := List.length_eq_zero_iff.1 (by omega)
      subst this; simp at hz
    · have hpos := lt_of_at hz
      have : (P ++ (A1 ++ A2 ++ ([y] ++ S)))[k]? = some z := by
        rw [List.getElem?_append_right (by omega), List.append_assoc, List.getElem?_append_right (by omega), List.getElem?_append_left (by omega)]; rw [← hz]; congr 1; omega
      rw [gdef _ _ this] at h; simpa using h
theorem L_s7_slices_symMergeCmpFunc_Limpl_Value {rc : List (List S_impl_Value) → Int → Int → Int → ((List S_impl_Value) → (List S_impl_Value) → Option Int) → Option (List (List S_impl_Value))} {p : (List S_impl_Value) → (List S_impl_Value) → Option Int} {q : (List S_impl_Value) → (List S_impl_Value) → Int} {U : List (List S_impl_Value)} (hp : ∀ x ∈ U, ∀ y ∈ U, p x y = some (q x y))
    {P X Y S : List (List S_impl_Value)} {a h m b : Nat} (ha : P.length = a) (hm : a + X.length = m) (hb : m + Y.length = b) (hU : ∀ z ∈ X ++ Y, z ∈ U) (hl : b + S.length ≤ 900000000)
    (lo hi : Nat) (l1 : a ≤ lo) (l2 : lo ≤ hi) (l3 : hi ≤ a + h) (l4 : hi ≤ m) (l5 : (a + h) + m ≤ lo + b) (l6 : a + h ≤ b) :
    ∃ k, lo ≤ k ∧ k ≤ hi ∧ m_slices_symMergeCmpFunc_Limpl_Value_j7 rc p (a : Int) (m : Int) (b : Int) ((a + h : Nat) : Int) (((a + h : Nat) : Int) + (m : Int)) (lo : Int) (hi : Int) (P ++ (X ++ (Y ++ S))) = m_slices_symMergeCmpFunc_Limpl_Value_j8 rc p (a : Int) (m : Int) (b : Int) ((a + h : Nat) : Int) (((a + h : Nat) : Int) + (m : Int)) (k : Int) (P ++ (X ++ (Y ++ S))) ∧
      (k = lo ∨ ∀ z w, (P ++ (X ++ (Y ++ S)))[(a + h) + m - 1 - (k - 1)]? = some z → (P ++ (X ++ (Y ++ S)))[k - 1]? = some w → decide (q z w < 0) = false) ∧ (k = hi ∨ ∀ z w, (P ++ (X ++ (Y ++ S)))[(a + h) + m - 1 - k]? = some z → (P ++ (X ++ (Y ++ S)))[k]? = some w → q z w < 0) := by
  unfold m_slices_symMergeCmpFunc_Limpl_Value_j7; rw [ckI_of (by omega) (by omega), Option.bind_some]
  let good : Nat → Bool := fun c => match (P ++ (X ++ (Y ++ S)))[(a + h) + m - 1 - c]?, (P ++ (X ++ (Y ++ S)))[c]? with | some z, some w => !decide (q z w < 0) | _, _ => false
  have gdef : ∀ c z w, (P ++ (X ++ (Y ++ S)))[(a + h) + m - 1 - c]? = some z → (P ++ (X ++ (Y ++ S)))[c]? = some w → good c = !decide (q z w < 0) := fun c z w hz hw => by
    show (match (P ++ (X ++ (Y ++ S)))[(a + h) + m - 1 - c]?, (P ++ (X ++ (Y ++ S)))[c]? with | some z, some w => !decide (q z w < 0) | _, _ => false) = _; rw [hz, hw]
  obtain ⟨k, k1, k2, k3, k4, k5⟩ := bsLoop (fun n i j => m_slices_symMergeCmpFunc_Limpl_Value_l5 rc p n (a : Int) (m : Int) (b : Int) ((a + h : Nat) : Int) (((a + h : Nat) : Int) + (m : Int)) i j ((((a + h : Nat) : Int) + (m : Int)) - 1) (P ++ (X ++ (Y ++ S))))
    (fun i => m_slices_symMergeCmpFunc_Limpl_Value_j8 rc p (a : Int) (m : Int) (b : Int) ((a + h : Nat) : Int) (((a + h : Nat) : Int) + (m : Int)) (i : Int) (P ++ (X ++ (Y ++ S)))) good lo hi
    (fun n i => by show m_slices_symMergeCmpFunc_Limpl_Value_l5 _ p (n + 1) _ _ _ _ _ _ _ _ _ = _; rw [m_slices_symMergeCmpFunc_Limpl_Value_l5, dnlt, cond_false])
    (fun n i j h1 h2 h3 => by
      show m_slices_symMergeCmpFunc_Limpl_Value_l5 _ p (n + 1) _ _ _ _ _ _ _ _ _ = _; generalize hc : (i + j) / 2 = c at *; obtain ⟨w, w1, w2, w3, w4⟩ := mid_get P X Y S (i := c) (by omega) (by omega); obtain ⟨z, z1, z2, z3, z4⟩ := mid_get P X Y S (i := (a + h) + m - 1 - c) (by omega) (by omega)
      rw [m_slices_symMergeCmpFunc_Limpl_Value_l5, dlt h2, cond_true, show ((i : Int) + (j : Int)) = ((i + j : Nat) : Int) by omega, ckI_of (by omega) (by omega), Option.bind_some, uI_of (by omega) (by omega), Option.bind_some, shr_half, Option.bind_some, uI_of (by omega) (by omega), Option.bind_some, hc, ckI_of (by omega) (by omega), Option.bind_some,
        show ((((a + h : Nat) : Int) + (m : Int)) - 1 - (c : Int)) = (((a + h) + m - 1 - c : Nat) : Int) by omega, at_of z1, Option.bind_some, Option.bind_some, at_of w1, Option.bind_some, Option.bind_some, hp z (hU z z2) w (hU w w2), Option.bind_some, gdef c z w z1 w1]
      by_cases hq : q z w < 0
      · rw [decide_eq_true hq, Bool.not_true, cond_false, if_neg (by simp)]
      · rw [decide_eq_false hq, Bool.not_false, cond_true, if_pos rfl, ck1 (by omega), Option.bind_some]
        rfl)
    (((hi : Int) - (lo : Int)).toNat + 1) (by omega) l2
  refine ⟨k, k1, k2, k3, ?_, ?_⟩
  · rcases k4 with hk | hk
    · exact .inl hk
    · refine .inr fun z w hz hw => ?_
      rw [gdef _ _ _ hz hw] at hk; simpa using hk
  · rcases k5 with hk | hk
    · exact .inl hk
    · refine .inr fun z w hz hw => ?_
      rw [gdef _ _ _ hz hw] at hk; simpa using hk
theorem LS_m12_slices_symMergeCmpFunc_Limpl_Value {rc : List (List S_impl_Value) → Int → Int → Int → ((List S_impl_Value) → (List S_impl_Value) → Option Int) → Option (List (List S_impl_Value))} {p : (List S_impl_Value) → (List S_impl_Value) → Option Int} {q : (List S_impl_Value) → (List S_impl_Value) → Int} {U : List (List S_impl_Value)} {κ : Type} {f : κ → (List S_impl_Value) → Bool} {d : Nat} (ih : ∀ (P X Y S : List (List S_impl_Value)), X.length + Y.length ≤ d → 0 < X.length → 0 < Y.length → (∀ z ∈ X ++ Y, z ∈ U) → P.length + X.length + Y.length + S.length ≤ 900000000 → OrdB (fun x r => decide (q r x < 0)) X → OrdB (fun x r => decide (q r x < 0)) Y →
    ∃ Z, StP f Z (X ++ Y) ∧ OrdB (fun x r => decide (q r x < 0)) Z ∧ rc (P ++ (X ++ (Y ++ S))) (P.length : Int) ((P.length + X.length : Nat) : Int) ((P.length + X.length + Y.length : Nat) : Int) p = some (P ++ (Z ++ S)))
    {P A2 B2 S : List (List S_impl_Value)} {a h e b : Nat} (ha : P.length = a) (hm : a + h + A2.length = e) (hb : e + B2.length = b) (hd : A2.length + B2.length ≤ d) (hU : ∀ z ∈ A2 ++ B2, z ∈ U) (hl : b + S.length ≤ 900000000) (oA2 : OrdB (fun x r => decide (q r x < 0)) A2) (oB2 : OrdB (fun x r => decide (q r x < 0)) B2)
    (Z1 : List (List S_impl_Value)) (hz : Z1.length = h) : ∃ Z2, StP f Z2 (A2 ++ B2) ∧ OrdB (fun x r => decide (q r x < 0)) Z2 ∧ m_slices_symMergeCmpFunc_Limpl_Value_j12 rc p (b : Int) ((a + h : Nat) : Int) (e : Int) (P ++ (Z1 ++ (A2 ++ (B2 ++ S)))) = some (P ++ ((Z1 ++ Z2) ++ S)) := by
  unfold m_slices_symMergeCmpFunc_Limpl_Value_j12
  have stay : A2 = [] ∨ B2 = [] → ∃ Z2, StP f Z2 (A2 ++ B2) ∧ OrdB (fun x r => decide (q r x < 0)) Z2 ∧ m_slices_symMergeCmpFunc_Limpl_Value_j13 rc p (b : Int) ((a + h : Nat) : Int) (e : Int) false (P ++ (Z1 ++ (A2 ++ (B2 ++ S)))) = some (P ++ ((Z1 ++ Z2) ++ S)) := by
    intro hn; refine ⟨A2 ++ B2, .refl _, ?_, ?_⟩
    · rcases hn with rfl | rfl
      · simpa using oB2
      · simpa using oA2
    · unfold m_slices_symMergeCmpFunc_Limpl_Value_j13
      rw [cond_false]; simp
  by_cases b1 : a + h < e
  · rw [dlt b1, cond_true]
    by_cases b2 : e < b
    · rw [dlt b2]
      obtain ⟨Z2, z1, z2, z3⟩ := ih (P ++ Z1) A2 B2 S hd (by omega) (by omega) hU (by rw [List.length_append]; omega) oA2 oB2; refine ⟨Z2, z1, z2, ?_⟩; unfold m_slices_symMergeCmpFunc_Limpl_Value_j13; rw [cond_true, ← List.append_assoc]; rw [List.length_append, ha, hz, hm, hb] at z3; have zl := z1.length_eq; rw [List.length_append] at zl; rw [z3, Option.bind_some, lenQ_ok (by simp; omega), Option.bind_some]; simp
    · rw [decide_eq_false (by omega)]
      exact stay (.inr (List.length_eq_zero_iff.1 (by omega)))
  · rw [decide_eq_false (by omega), cond_false]
    exact stay (.inl (List.length_eq_zero_iff.1 (by omega)))
theorem LS_m10_slices_symMergeCmpFunc_Limpl_Value {rc : List (List S_impl_Value) → Int → Int → Int → ((List S_impl_Value) → (List S_impl_Value) → Option Int) → Option (List (List S_impl_Value))} {p : (List S_impl_Value) → (List S_impl_Value) → Option Int} {q : (List S_impl_Value) → (List S_impl_Value) → Int} {U : List (List S_impl_Value)} {d : Nat} {κ : Type} {f : κ → (List S_impl_Value) → Bool} (hf : ∀ v, ∀ x ∈ U, ∀ y ∈ U, f v x = true → f v y = true → decide (q y x < 0) = false) (ht : ∀ x ∈ U, ∀ y ∈ U, ∀ z ∈ U, decide (q y x < 0) = false → decide (q z y < 0) = false → decide (q z x < 0) = false) (ih : ∀ (P X Y S : List (List S_impl_Value)), X.length + Y.length ≤ d → 0 < X.length → 0 < Y.length → (∀ z ∈ X ++ Y, z ∈ U) → P.length + X.length + Y.length + S.length ≤ 900000000 → OrdB (fun x r => decide (q r x < 0)) X → OrdB (fun x r => decide (q r x < 0)) Y →
    ∃ Z, StP f Z (X ++ Y) ∧ OrdB (fun x r => decide (q r x < 0)) Z ∧ rc (P ++ (X ++ (Y ++ S))) (P.length : Int) ((P.length + X.length : Nat) : Int) ((P.length + X.length + Y.length : Nat) : Int) p = some (P ++ (Z ++ S)))
    {P A1 A2 B1 B2 S : List (List S_impl_Value)} {a h k e b : Nat} (ha : P.length = a) (hk : a + A1.length = k) (hh : k + B1.length = a + h) (hm : a + h + A2.length = e) (hb : e + B2.length = b) (hd1 : A1.length + B1.length ≤ d) (hd : A2.length + B2.length ≤ d) (hU : ∀ z ∈ A1 ++ A2 ++ (B1 ++ B2), z ∈ U) (hl : b + S.length ≤ 900000000) (oX : OrdB (fun x r => decide (q r x < 0)) (A1 ++ A2)) (oY : OrdB (fun x r => decide (q r x < 0)) (B1 ++ B2))
    (c1 : ∀ x y, A1[A1.length - 1]? = some x → B2[0]? = some y → decide (q y x < 0) = false) (c2 : ∀ x y, B1[B1.length - 1]? = some x → A2[0]? = some y → decide (q y x < 0) = false) (c3 : ∀ x y, B1[B1.length - 1]? = some x → A2[0]? = some y → decide (q x y < 0) = true) :
    ∃ Z, StP f Z (A1 ++ A2 ++ (B1 ++ B2)) ∧ OrdB (fun x r => decide (q r x < 0)) Z ∧ m_slices_symMergeCmpFunc_Limpl_Value_j10 rc p (a : Int) (b : Int) ((a + h : Nat) : Int) (k : Int) (e : Int) (P ++ (A1 ++ (B1 ++ (A2 ++ (B2 ++ S))))) = some (P ++ (Z ++ S)) := by
  obtain ⟨oA1, oA2, oA⟩ := ord_split oX; obtain ⟨oB1, oB2, oB⟩ := ord_split oY; have last := LS_m12_slices_symMergeCmpFunc_Limpl_Value ih (P := P) (A2 := A2) (B2 := B2) (S := S) ha hm hb hd (fun z hz => hU z (by rcases List.mem_append.1 hz with h | h <;> simp [h])) hl oA2 oB2; unfold m_slices_symMergeCmpFunc_Limpl_Value_j10
  have stay : A1 = [] ∨ B1 = [] → ∃ Z, StP f Z (A1 ++ A2 ++ (B1 ++ B2)) ∧ OrdB (fun x r => decide (q r x < 0)) Z ∧ m_slices_symMergeCmpFunc_Limpl_Value_j11 rc p (a : Int) (b : Int) ((a + h : Nat) : Int) (k : Int) (e : Int) false (P ++ (A1 ++ (B1 ++ (A2 ++ (B2 ++ S))))) = some (P ++ (Z ++ S)) := by
    intro hn
    have oZ : OrdB (fun x r => decide (q r x < 0)) (A1 ++ B1) := by
      rcases hn with rfl | rfl
      · simpa using oB1
      · simpa using oA1
    obtain ⟨Z2, z1, z2, z3⟩ := last (A1 ++ B1) (by rw [List.length_append]; omega); obtain ⟨m1, m2⟩ := merge_midS hf ht hU oX oY c1 c2 c3 (.refl _) oZ z1 z2; refine ⟨_, m1, m2, ?_⟩; unfold m_slices_symMergeCmpFunc_Limpl_Value_j11; rw [cond_false, ← z3]
    congr 1; simp
  by_cases b1 : a < k
  · rw [dlt b1, cond_true]
    by_cases b2 : k < a + h
    · rw [dlt b2]
      obtain ⟨Z1, y1, y2, y3⟩ := ih P A1 B1 (A2 ++ (B2 ++ S)) hd1 (by omega) (by omega) (fun z hz => hU z (by rcases List.mem_append.1 hz with h | h <;> simp [h])) (by rw [List.length_append, List.length_append]; omega) oA1 oB1; have zl := y1.length_eq; rw [List.length_append] at zl; obtain ⟨Z2, z1, z2, z3⟩ := last Z1 (by omega); obtain ⟨m1, m2⟩ := merge_midS hf ht hU oX oY c1 c2 c3 y1 y2 z1 z2; refine ⟨_, m1, m2, ?_⟩; unfold m_slices_symMergeCmpFunc_Limpl_Value_j11; rw [ha, hk, hh] at y3; rw [cond_true, y3, Option.bind_some, lenQ_ok (by simp; omega), Option.bind_some]; exact z3
    · rw [decide_eq_false (by omega)]
      exact stay (.inr (List.length_eq_zero_iff.1 (by omega)))
  · rw [decide_eq_false (by omega), cond_false]
    exact stay (.inl (List.length_eq_zero_iff.1 (by omega)))
theorem LS_m8_slices_symMergeCmpFunc_Limpl_Value {rc : List (List S_impl_Value) → Int → Int → Int → ((List S_impl_Value) → (List S_impl_Value) → Option Int) → Option (List (List S_impl_Value))} {p : (List S_impl_Value) → (List S_impl_Value) → Option Int} {q : (List S_impl_Value) → (List S_impl_Value) → Int} {U : List (List S_impl_Value)} {d : Nat} {κ : Type} {f : κ → (List S_impl_Value) → Bool} (hf : ∀ v, ∀ x ∈ U, ∀ y ∈ U, f v x = true → f v y = true → decide (q y x < 0) = false) (ht : ∀ x ∈ U, ∀ y ∈ U, ∀ z ∈ U, decide (q y x < 0) = false → decide (q z y < 0) = false → decide (q z x < 0) = false) (ih : ∀ (P X Y S : List (List S_impl_Value)), X.length + Y.length ≤ d → 0 < X.length → 0 < Y.length → (∀ z ∈ X ++ Y, z ∈ U) → P.length + X.length + Y.length + S.length ≤ 900000000 → OrdB (fun x r => decide (q r x < 0)) X → OrdB (fun x r => decide (q r x < 0)) Y →
    ∃ Z, StP f Z (X ++ Y) ∧ OrdB (fun x r => decide (q r x < 0)) Z ∧ rc (P ++ (X ++ (Y ++ S))) (P.length : Int) ((P.length + X.length : Nat) : Int) ((P.length + X.length + Y.length : Nat) : Int) p = some (P ++ (Z ++ S)))
    {P A1 A2 B1 B2 S : List (List S_impl_Value)} {a h k e m b : Nat} (ha : P.length = a) (hk : a + A1.length = k) (hkm : k + A2.length = m) (hme : m + B1.length = e) (hh : k + B1.length = a + h) (hb : e + B2.length = b) (hd1 : A1.length + B1.length ≤ d) (hd : A2.length + B2.length ≤ d) (hU : ∀ z ∈ A1 ++ A2 ++ (B1 ++ B2), z ∈ U) (hl : b + S.length ≤ 900000000) (oX : OrdB (fun x r => decide (q r x < 0)) (A1 ++ A2)) (oY : OrdB (fun x r => decide (q r x < 0)) (B1 ++ B2))
    (c1 : ∀ x y, A1[A1.length - 1]? = some x → B2[0]? = some y → decide (q y x < 0) = false) (c2 : ∀ x y, B1[B1.length - 1]? = some x → A2[0]? = some y → decide (q y x < 0) = false) (c3 : ∀ x y, B1[B1.length - 1]? = some x → A2[0]? = some y → decide (q x y < 0) = true) :
    ∃ Z, StP f Z (A1 ++ A2 ++ (B1 ++ B2)) ∧ OrdB (fun x r => decide (q r x < 0)) Z ∧ m_slices_symMergeCmpFunc_Limpl_Value_j8 rc p (a : Int) (m : Int) (b : Int) ((a + h : Nat) : Int) (((a + h : Nat) : Int) + (m : Int)) (k : Int) (P ++ (A1 ++ A2 ++ (B1 ++ B2 ++ S))) = some (P ++ (Z ++ S)) := by
  obtain ⟨Z, f1, f2, f3⟩ := LS_m10_slices_symMergeCmpFunc_Limpl_Value hf ht ih (S := S) ha hk hh (show a + h + A2.length = e by omega) hb hd1 hd hU hl oX oY c1 c2 c3; refine ⟨Z, f1, f2, ?_⟩; unfold m_slices_symMergeCmpFunc_Limpl_Value_j8; rw [show ((((a + h : Nat) : Int) + (m : Int)) - (k : Int)) = (e : Int) by omega, ckI_of (by omega) (by omega), Option.bind_some]
  have stay : A2 = [] ∨ B1 = [] → m_slices_symMergeCmpFunc_Limpl_Value_j9 rc p (a : Int) (m : Int) (b : Int) ((a + h : Nat) : Int) (k : Int) (e : Int) false (P ++ (A1 ++ A2 ++ (B1 ++ B2 ++ S))) = some (P ++ (Z ++ S)) := by
    intro hn; unfold m_slices_symMergeCmpFunc_Limpl_Value_j9; rw [cond_false, ← f3]
    congr 1
    rcases hn with rfl | rfl <;> simp
  by_cases b1 : k < m
  · rw [dlt b1, cond_true]
    by_cases b2 : m < e
    · rw [dlt b2]
      unfold m_slices_symMergeCmpFunc_Limpl_Value_j9; have := L_slices_rotateCmpFunc_Limpl_Value (p := p) (P ++ A1) A2 B1 (B2 ++ S) (by omega) (by omega) (by rw [List.length_append, List.length_append]; omega); rw [List.length_append, ha, hk, hkm, hme] at this; rw [cond_true, show P ++ (A1 ++ A2 ++ (B1 ++ B2 ++ S)) = P ++ A1 ++ (A2 ++ (B1 ++ (B2 ++ S))) by simp, this, Option.bind_some, lenQ_ok (by simp; omega), Option.bind_some, ← f3]
      congr 1; simp
    · rw [decide_eq_false (by omega)]
      exact stay (.inr (List.length_eq_zero_iff.1 (by omega)))
  · rw [decide_eq_false (by omega), cond_false]
    exact stay (.inl (List.length_eq_zero_iff.1 (by omega)))
theorem LS_m7_slices_symMergeCmpFunc_Limpl_Value {rc : List (List S_impl_Value) → Int → Int → Int → ((List S_impl_Value) → (List S_impl_Value) → Option Int) → Option (List (List S_impl_Value))} {p : (List S_impl_Value) → (List S_impl_Value) → Option Int} {q : (List S_impl_Value) → (List S_impl_Value) → Int} {U : List (List S_impl_Value)} {d : Nat} {κ : Type} {f : κ → (List S_impl_Value) → Bool} (hf : ∀ v, ∀ x ∈ U, ∀ y ∈ U, f v x = true → f v y = true → decide (q y x < 0) = false) (hp : ∀ x ∈ U, ∀ y ∈ U, p x y = some (q x y)) (ht : ∀ x ∈ U, ∀ y ∈ U, ∀ z ∈ U, decide (q y x < 0) = false → decide (q z y < 0) = false → decide (q z x < 0) = false) (has : ∀ x ∈ U, ∀ y ∈ U, q y x < 0 → ¬ q x y < 0) (ih : ∀ (P X Y S : List (List S_impl_Value)), X.length + Y.length ≤ d → 0 < X.length → 0 < Y.length → (∀ z ∈ X ++ Y, z ∈ U) → P.length + X.length + Y.length + S.length ≤ 900000000 → OrdB (fun x r => decide (q r x < 0)) X → OrdB (fun x r => decide (q r x < 0)) Y →
    ∃ Z, StP f Z (X ++ Y) ∧ OrdB (fun x r => decide (q r x < 0)) Z ∧ rc (P ++ (X ++ (Y ++ S))) (P.length : Int) ((P.length + X.length : Nat) : Int) ((P.length + X.length + Y.length : Nat) : Int) p = some (P ++ (Z ++ S)))
    {P X Y S : List (List S_impl_Value)} {a h : Nat} (ha : P.length = a) (hh : (X.length + Y.length) / 2 = h) (hmid : (a + (a + X.length + Y.length)) / 2 = a + h) (hX : 2 ≤ X.length) (hY : 2 ≤ Y.length) (hd : X.length + Y.length ≤ d + 1) (hU : ∀ z ∈ X ++ Y, z ∈ U) (hl : a + X.length + Y.length + S.length ≤ 900000000) (oX : OrdB (fun x r => decide (q r x < 0)) X) (oY : OrdB (fun x r => decide (q r x < 0)) Y)
    (lo hi : Nat) (l1 : a ≤ lo) (l2 : lo ≤ hi) (l3 : hi ≤ a + h) (l4 : hi ≤ a + X.length) (l5 : (a + h) + (a + X.length) ≤ lo + (a + X.length + Y.length)) (l6 : (lo = a ∨ (a + h) + (a + X.length) = lo + (a + X.length + Y.length))) (l7 : (hi = a + h ∨ hi = a + X.length)) :
    ∃ Z, StP f Z (X ++ Y) ∧ OrdB (fun x r => decide (q r x < 0)) Z ∧ m_slices_symMergeCmpFunc_Limpl_Value_j7 rc p (a : Int) ((a + X.length : Nat) : Int) ((a + X.length + Y.length : Nat) : Int) ((a + h : Nat) : Int) (((a + h : Nat) : Int) + ((a + X.length : Nat) : Int)) (lo : Int) (hi : Int) (P ++ (X ++ (Y ++ S))) = some (P ++ (Z ++ S)) := by
  have hUX : ∀ z ∈ X, z ∈ U := fun z hz => hU z (by simp [hz]); have hUY : ∀ z ∈ Y, z ∈ U := fun z hz => hU z (by simp [hz]); have asy : ∀ x ∈ U, ∀ y ∈ U, q y x < 0 → decide (q x y < 0) = false := fun x hx y hy h => decide_eq_false (has x hx y hy h); obtain ⟨k, k1, k2, k3, k4, k5⟩ := L_s7_slices_symMergeCmpFunc_Limpl_Value (rc := rc) (S := S) (h := h) hp ha (m := a + X.length) (b := a + X.length + Y.length) rfl rfl hU (by omega) lo hi l1 l2 l3 l4 l5 (by omega); rw [k3]; clear k3; obtain ⟨e, he⟩ : ∃ e, (a + h) + (a + X.length) = k + e := ⟨(a + h) + (a + X.length) - k, by omega⟩; obtain ⟨A1, A2, B1, B2, rfl, rfl, hA, hB, c1, c2⟩ := cut_mid P X Y S (k := k) (e := e) (by omega) (by omega) (by omega) (by omega); have lA : (A1 ++ A2).length = A1.length + A2.length := List.length_append; have lB : (B1 ++ B2).length = B1.length + B2.length := List.length_append
  have d1 : ∀ x y, A1[A1.length - 1]? = some x → B2[0]? = some y → decide (q y x < 0) = false := by
    intro x y hx hy; obtain ⟨g1, g2⟩ := c1 x y hx hy; have p1 := lt_of_at hx; have p2 := lt_of_at hy; rcases k4 with hk | hk
    · omega
    · exact hk y x (by rw [show a + h + (a + (A1 ++ A2).length) - 1 - (k - 1) = e by omega]; exact g2) g1
  have d2 : ∀ x y, B1[B1.length - 1]? = some x → A2[0]? = some y → decide (q y x < 0) = false := by
    intro x y hx hy; obtain ⟨g1, g2⟩ := c2 x y hx hy; have p1 := lt_of_at hx; have p2 := lt_of_at hy; rcases k5 with hk | hk
    · omega
    · exact asy _ (hUX _ (List.mem_append_right _ (List.mem_of_getElem? hy))) _ (hUY _ (List.mem_append_left _ (List.mem_of_getElem? hx))) (hk x y (by rw [show a + h + (a + (A1 ++ A2).length) - 1 - k = e - 1 by omega]; exact g1) g2)
  have d3 : ∀ x y, B1[B1.length - 1]? = some x → A2[0]? = some y → decide (q x y < 0) = true := by
    intro x y hx hy; obtain ⟨g1, g2⟩ := c2 x y hx hy; have p1 := lt_of_at hx; have p2 := lt_of_at hy; rcases k5 with hk | hk
    · omega
    · exact decide_eq_true (hk x y (by rw [show a + h + (a + (A1 ++ A2).length) - 1 - k = e - 1 by omega]; exact g1) g2)
  exact LS_m8_slices_symMergeCmpFunc_Limpl_Value hf ht ih ha (by omega) (by omega) (show a + (A1 ++ A2).length + B1.length = e by omega) (by omega) (by omega) (by omega) (by omega) hU (by omega) oX oY d1 d2 d3
theorem LS_slices_symMergeCmpFunc_Limpl_Value {p : (List S_impl_Value) → (List S_impl_Value) → Option Int} {q : (List S_impl_Value) → (List S_impl_Value) → Int} {U : List (List S_impl_Value)} {κ : Type} {f : κ → (List S_impl_Value) → Bool} (hf : ∀ v, ∀ x ∈ U, ∀ y ∈ U, f v x = true → f v y = true → decide (q y x < 0) = false) (hp : ∀ x ∈ U, ∀ y ∈ U, p x y = some (q x y)) (ht : ∀ x ∈ U, ∀ y ∈ U, ∀ z ∈ U, decide (q y x < 0) = false → decide (q z y < 0) = false → decide (q z x < 0) = false) (has : ∀ x ∈ U, ∀ y ∈ U, q y x < 0 → ¬ q x y < 0) :
    ∀ (d fu : Nat) (P X Y S : List (List S_impl_Value)), X.length + Y.length ≤ d → d < fu → 0 < X.length → 0 < Y.length → (∀ z ∈ X ++ Y, z ∈ U) → P.length + X.length + Y.length + S.length ≤ 900000000 → OrdB (fun x r => decide (q r x < 0)) X → OrdB (fun x r => decide (q r x < 0)) Y →
    ∃ Z, StP f Z (X ++ Y) ∧ OrdB (fun x r => decide (q r x < 0)) Z ∧ m_slices_symMergeCmpFunc_Limpl_Value fu (P ++ (X ++ (Y ++ S))) (P.length : Int) ((P.length + X.length : Nat) : Int) ((P.length + X.length + Y.length : Nat) : Int) p = some (P ++ (Z ++ S)) := by
  intro d
  induction d with
  | zero => intro fu P X Y S h1 h2 h3; omega
  | succ d ih =>
    intro fu P X Y S hd hfu hX hY hU hl oX oY; obtain ⟨fu, rfl⟩ : ∃ g, fu = g + 1 := ⟨fu - 1, by omega⟩; have hUX : ∀ z ∈ X, z ∈ U := fun z hz => hU z (by simp [hz]); have hUY : ∀ z ∈ Y, z ∈ U := fun z hz => hU z (by simp [hz]); have asy : ∀ x ∈ U, ∀ y ∈ U, q y x < 0 → decide (q x y < 0) = false := fun x hx y hy h => decide_eq_false (has x hx y hy h); rw [m_slices_symMergeCmpFunc_Limpl_Value]; unfold m_slices_symMergeCmpFunc_Limpl_Value_b; rw [ckI_of (by omega) (by omega), Option.bind_some]
    by_cases hx1 : X.length = 1
    · rw [show ((((P.length + X.length : Nat) : Int) - (P.length : Int)) == 1) = true by rw [beq_iff_eq]; omega, cond_true]
      obtain ⟨x, rfl⟩ := List.length_eq_one_iff.1 hx1; obtain ⟨B1, B2, rfl, g1, g2, g3⟩ := L_b1_slices_symMergeCmpFunc_Limpl_Value (rc := m_slices_symMergeCmpFunc_Limpl_Value fu) hp x P Y S (by simpa using hU) (by simpa using hl); obtain ⟨o1, o2, o3⟩ := ord_split oY; have mm := (merge_midS hf (A1 := []) (A2 := [x]) (Z1 := B1) (Z2 := x :: B2) ht (by simpa using hU) (by simpa using oX) oY (fun a b ha => by simp at ha) (fun a b ha hb => by simp at hb; subst hb; exact asy _ (hUX _ (by simp)) _ (hUY _ (List.mem_append_left _ (List.mem_of_getElem? ha))) (g2 a ha)) (fun a b ha hb => by simp at hb; subst hb; exact decide_eq_true (g2 a ha)) (.refl _) o1 (.refl _) (ord_app (X := [x]) (List.pairwise_singleton _ _) o2 (ord_cross ht hUX (fun z hz => hUY z (by simp [hz])) (List.pairwise_singleton _ _) o2 (fun a b ha hb => by simp at ha; subst ha; exact decide_eq_false (g3 b hb))))); refine ⟨B1 ++ x :: B2, mm.1, mm.2, ?_⟩; refine Eq.trans ?_ g1; rfl
    · rw [show ((((P.length + X.length : Nat) : Int) - (P.length : Int)) == 1) = false by rw [beq_eq_false_iff_ne]; omega, cond_false]
      unfold m_slices_symMergeCmpFunc_Limpl_Value_j3; rw [ckI_of (by omega) (by omega), Option.bind_some]
      by_cases hy1 : Y.length = 1
      · rw [show ((((P.length + X.length + Y.length : Nat) : Int) - ((P.length + X.length : Nat) : Int)) == 1) = true by rw [beq_iff_eq]; omega, cond_true]
        obtain ⟨y, rfl⟩ := List.length_eq_one_iff.1 hy1; obtain ⟨A1, A2, rfl, g1, g2, g3⟩ := L_b3_slices_symMergeCmpFunc_Limpl_Value (rc := m_slices_symMergeCmpFunc_Limpl_Value fu) hp y P X S (fun z hz => by rcases List.mem_cons.1 hz with rfl | hz; exact hUY _ (by simp); exact hUX z hz) (by simp at hl ⊢; omega); obtain ⟨o1, o2, o3⟩ := ord_split oX; have mm := (merge_midS hf (A1 := A1) (A2 := A2) (B1 := [y]) (B2 := []) (Z1 := A1 ++ [y]) (Z2 := A2) ht (by simpa using hU) oX (by simpa using oY) (fun a b ha hb => by simp at hb) (fun a b ha hb => by simp at ha; subst ha; exact asy _ (hUX _ (List.mem_append_right _ (List.mem_of_getElem? hb))) _ (hUY _ (by simp)) (g3 b hb)) (fun a b ha hb => by simp at ha; subst ha; exact decide_eq_true (g3 b hb)) (.refl _) (ord_app (Y := [y]) o1 (List.pairwise_singleton _ _) (ord_cross ht (fun z hz => hUX z (by simp [hz])) hUY o1 (List.pairwise_singleton _ _) (fun a b ha hb => by simp at hb; subst hb; exact decide_eq_false (g2 a ha)))) (by rw [List.append_nil]; exact .refl _) o2); refine ⟨A1 ++ y :: A2, by simpa using mm.1, by simpa using mm.2, ?_⟩; refine Eq.trans ?_ g1; rfl
      · rw [show ((((P.length + X.length + Y.length : Nat) : Int) - ((P.length + X.length : Nat) : Int)) == 1) = false by rw [beq_eq_false_iff_ne]; omega, cond_false]
        unfold m_slices_symMergeCmpFunc_Limpl_Value_j6; generalize ha : P.length = a at *; have hmid : (a + (a + X.length + Y.length)) / 2 = a + (X.length + Y.length) / 2 := by omega
        rw [show ((a : Int) + ((a + X.length + Y.length : Nat) : Int)) = ((a + (a + X.length + Y.length) : Nat) : Int) by omega, ckI_of (by omega) (by omega), Option.bind_some, uI_of (by omega) (by omega), Option.bind_some, shr_half, Option.bind_some, uI_of (by omega) (by omega), Option.bind_some, hmid]; generalize hh : (X.length + Y.length) / 2 = h at *; rw [ckI_of (by omega) (by omega), Option.bind_some]; have go := fun lo hi => LS_m7_slices_symMergeCmpFunc_Limpl_Value (rc := m_slices_symMergeCmpFunc_Limpl_Value fu) (d := d) hf hp ht has (fun P X Y S h1 h2 h3 h4 h5 h6 h7 => ih fu P X Y S h1 (by omega) h2 h3 h4 h5 h6 h7) (P := P) (X := X) (Y := Y) (S := S) ha hh hmid (by omega) (by omega) hd hU hl oX oY lo hi
        by_cases hm : a + X.length > a + h
        · rw [decide_eq_true (show (((a + X.length : Nat) : Int) > ((a + h : Nat) : Int)) by omega), cond_true, ckI_of (by omega) (by omega), Option.bind_some, show (((a + h : Nat) : Int) + ((a + X.length : Nat) : Int) - ((a + X.length + Y.length : Nat) : Int)) = (((a + h) + (a + X.length) - (a + X.length + Y.length) : Nat) : Int) by omega]
          exact go _ _ (by omega) (by omega) (by omega) (by omega) (by omega) (by omega) (by omega)
        · rw [decide_eq_false (show ¬ (((a + X.length : Nat) : Int) > ((a + h : Nat) : Int)) by omega), cond_false]
          exact go a (a + X.length) (by omega) (by omega) (by omega) (by omega) (by omega) (by omega) (by omega)
theorem L_seg_slices_insertionSortCmpFunc_Limpl_Value {p : (List S_impl_Value) → (List S_impl_Value) → Option Int} {q : (List S_impl_Value) → (List S_impl_Value) → Int} (P X S : List (List S_impl_Value)) (hl : P.length + X.length + S.length ≤ 900000000) (hp : ∀ x ∈ X, ∀ y ∈ X, p x y = some (q x y)) : m_slices_insertionSortCmpFunc_Limpl_Value (P ++ (X ++ S)) (P.length : Int) ((P.length + X.length : Nat) : Int) p = some (P ++ (isort (fun x r => decide (q r x < 0)) X ++ S)) := by
  unfold m_slices_insertionSortCmpFunc_Limpl_Value; rw [ck1 (by omega), Option.bind_some]
  have get : ∀ (o : List (List S_impl_Value)) (j : Nat) (x : (List S_impl_Value)), o.length = X.length → o[j]? = some x → (P ++ (o ++ S))[P.length + j]? = some x := by
    intro o j x ho hx; have := lt_of_at hx; rw [List.getElem?_append_right (by omega), List.getElem?_append_left (by omega), ← hx]; congr 1; omega
  have hset : ∀ (o : List (List S_impl_Value)) (j : Nat) (x : (List S_impl_Value)), j < o.length → (P ++ (o ++ S)).set (P.length + j) x = P ++ (o.set j x ++ S) := by
    intro o j x hj; rw [List.set_append_right _ _ (by omega), List.set_append_left _ _ (by omega)]; congr 3; omega
  have := insSort (lt := fun r x => decide (q r x < 0)) (J := fun s => some (P ++ (s ++ S))) (N := X.length) (fun n i o => m_slices_insertionSortCmpFunc_Limpl_Value_l1 p n (P.length : Int) ((P.length + X.length : Nat) : Int) ((P.length : Int) + i) (P ++ (o ++ S))) (fun n m i j o => m_slices_insertionSortCmpFunc_Limpl_Value_l2 p (m_slices_insertionSortCmpFunc_Limpl_Value_l1 p n) m (P.length : Int) ((P.length + X.length : Nat) : Int) ((P.length : Int) + i) ((P.length : Int) + j) (P ++ (o ++ S))) (by omega)
    (fun o => ∀ x ∈ o, ∀ y ∈ o, p x y = some (q x y)) (fun a b h ha x hx y hy => ha x (h.mem_iff.2 hx) y (h.mem_iff.2 hy)) ?_ ?_ ?_ ?_ X rfl hp ((((P.length + X.length : Nat) : Int) - ((P.length : Int) + 1)).toNat + 1) (by omega) (by omega)
  · exact this
  · intro n i o hi
    show m_slices_insertionSortCmpFunc_Limpl_Value_l1 p (n + 1) _ _ _ _ = _; rw [m_slices_insertionSortCmpFunc_Limpl_Value_l1, decide_eq_true (by omega), cond_true]
  · intro n i o hi
    show m_slices_insertionSortCmpFunc_Limpl_Value_l1 p (n + 1) _ _ _ _ = _; rw [m_slices_insertionSortCmpFunc_Limpl_Value_l1, decide_eq_false (by omega), cond_false]
  · intro n m i o hi
    show m_slices_insertionSortCmpFunc_Limpl_Value_l2 p _ (m + 1) _ _ _ _ _ = _; rw [m_slices_insertionSortCmpFunc_Limpl_Value_l2, decide_eq_false (by omega), cond_false]; unfold m_slices_insertionSortCmpFunc_Limpl_Value_j1 m_slices_insertionSortCmpFunc_Limpl_Value_j2; rw [cond_false, ckI_of (by omega) (by omega), Option.bind_some, show (P.length : Int) + (i : Int) + 1 = (P.length : Int) + ((i + 1 : Nat) : Int) by omega]
  · intro n m i j o x y hi hj ho hc hx hy
    have hxy := hc x (List.mem_of_getElem? hx) y (List.mem_of_getElem? hy); have gx := get o _ x ho hx; have gy := get o _ y ho hy; have b1 := lt_of_at hx; show m_slices_insertionSortCmpFunc_Limpl_Value_l2 p _ (m + 1) _ _ _ _ _ = _; rw [m_slices_insertionSortCmpFunc_Limpl_Value_l2, decide_eq_true (by omega), cond_true, show (P.length : Int) + ((j + 1 : Nat) : Int) = ((P.length + j + 1 : Nat) : Int) by omega]; rw [show P.length + (j + 1) = P.length + j + 1 by omega] at gx; have st1 := hset o (j + 1) y b1; have st2 := hset (o.set (j + 1) y) j x (by simp; omega); rw [show P.length + (j + 1) = P.length + j + 1 by omega] at st1; rw [at_of gx, Option.bind_some, Option.bind_some, ckdd (show P.length + j < 1000000000000 by omega), Option.bind_some, at_of gy, Option.bind_some, Option.bind_some, hxy, Option.bind_some]; unfold m_slices_insertionSortCmpFunc_Limpl_Value_j1 m_slices_insertionSortCmpFunc_Limpl_Value_j2
    by_cases h : q x y < 0
    · rw [decide_eq_true h, cond_true, if_pos rfl, ckdd (show P.length + j < 1000000000000 by omega), Option.bind_some, Option.bind_some, at_of gy, Option.bind_some, Option.bind_some, at_of gx, Option.bind_some, Option.bind_some, Option.bind_some, Option.bind_some, ltE, Int.toNat_natCast, Int.toNat_natCast, at_set_ne gy (show P.length + j + 1 ≠ P.length + j by omega), Option.bind_some, Option.bind_some, ltE, Option.bind_some, st1, st2]
      rw [show ((P.length + j : Nat) : Int) = (P.length : Int) + (j : Int) by omega]
    · rw [decide_eq_false h, cond_false, ckI_of (by omega) (by omega), Option.bind_some, if_neg (by simp), show (P.length : Int) + (i : Int) + 1 = (P.length : Int) + ((i + 1 : Nat) : Int) by omega]
theorem L_stab_slices_SortStableFunc_LLimpl_Value_Limpl_Value {l : List (List S_impl_Value)} {p : (List S_impl_Value) → (List S_impl_Value) → Option Int} {q : (List S_impl_Value) → (List S_impl_Value) → Int} {κ : Type} {f : κ → (List S_impl_Value) → Bool} (hf : ∀ v, ∀ x ∈ l, ∀ y ∈ l, f v x = true → f v y = true → decide (q y x < 0) = false) (hl : l.length ≤ 100000) (hp : ∀ x ∈ l, ∀ y ∈ l, p x y = some (q x y)) (ht : ∀ x ∈ l, ∀ y ∈ l, ∀ z ∈ l, decide (q y x < 0) = false → decide (q z y < 0) = false → decide (q z x < 0) = false) (has : ∀ x ∈ l, ∀ y ∈ l, q y x < 0 → ¬ q x y < 0) :
    ∃ o, StP f o l ∧ OrdB (fun x r => decide (q r x < 0)) o ∧ m_slices_SortStableFunc_LLimpl_Value_Limpl_Value l p = some o := by
  have isO : ∀ X : List (List S_impl_Value), (∀ x ∈ X, x ∈ l) → OrdB (fun x r => decide (q r x < 0)) (isort (fun x r => decide (q r x < 0)) X) := fun X hX => isort_ord (fun x hx y hy z hz => ht x (hX x hx) y (hX y hy) z (hX z hz)) (fun x hx y hy h => decide_eq_false (has x (hX x hx) y (hX y hy) (of_decide_eq_true h)))
  have mrg : ∀ (P X Y S : List (List S_impl_Value)), 0 < X.length → 0 < Y.length → P.length + X.length + Y.length + S.length = l.length → (∀ x ∈ X, x ∈ l) → (∀ x ∈ Y, x ∈ l) → OrdB (fun x r => decide (q r x < 0)) X → OrdB (fun x r => decide (q r x < 0)) Y → ∃ Z, StP f Z (X ++ Y) ∧ OrdB (fun x r => decide (q r x < 0)) Z ∧ m_slices_symMergeCmpFunc_Limpl_Value 1000000000 (P ++ (X ++ (Y ++ S))) (P.length : Int) ((P.length + X.length : Nat) : Int) ((P.length + X.length + Y.length : Nat) : Int) p = some (P ++ (Z ++ S)) := by
    intro P X Y S hX hY hN hUX hUY oX oY; exact LS_slices_symMergeCmpFunc_Limpl_Value (f := f) (U := l) hf hp ht has (X.length + Y.length) 1000000000 P X Y S (Nat.le_refl _) (by omega) hX hY (fun z hz => by rcases List.mem_append.1 hz with h | h; exact hUX z h; exact hUY z h) (by omega) oX oY
  have r2 : ∀ n (bs : Nat) (o : List (List S_impl_Value)), 0 < bs → bs < l.length → o.length = l.length → (∀ x ∈ o, x ∈ l) → Chk (fun x r => decide (q r x < 0)) bs o → ∃ o', StP f o' o ∧ Chk (fun x r => decide (q r x < 0)) (2 * bs) o' ∧ m_slices_stableCmpFunc_Limpl_Value_l2 p (n + 1) (l.length : Int) (bs : Int) o = m_slices_stableCmpFunc_Limpl_Value_l2 p n (l.length : Int) ((2 * bs : Nat) : Int) o' := by
    intro n bs o hb hbl ho hU hC; have c2 : ckI ((2 : Int) * (bs : Int)) = some ((2 * bs : Nat) : Int) := by rw [ckI_of (by omega) (by omega)]; congr 1
    have := stable2S (f := f) (U := fun x => x ∈ l) (gt := fun x r => decide (q r x < 0)) (N := l.length) (bs := bs) (J := fun o' => m_slices_stableCmpFunc_Limpl_Value_l2 p n (l.length : Int) ((2 * bs : Nat) : Int) o') hb
      (fun n3 a b o => m_slices_stableCmpFunc_Limpl_Value_l3 p (m_slices_stableCmpFunc_Limpl_Value_l2 p n) n3 (l.length : Int) (bs : Int) (a : Int) (b : Int) o)
      (fun n3 P X Y S hX hY hN oX oY hUX hUY => by
        obtain ⟨Z, z1, z2, z3⟩ := mrg P X Y S (by omega) (by omega) hN hUX hUY oX oY; have zl := z1.length_eq; rw [List.length_append] at zl; refine ⟨Z, z1, z2, ?_⟩; show m_slices_stableCmpFunc_Limpl_Value_l3 p _ (n3 + 1) _ _ _ _ _ = _; rw [show P.length + X.length + Y.length = P.length + 2 * bs by omega] at z3; rw [m_slices_stableCmpFunc_Limpl_Value_l3, decide_eq_true (by omega), cond_true, ckI_of (by omega) (by omega), Option.bind_some, show ((P.length : Int) + (bs : Int)) = ((P.length + X.length : Nat) : Int) by omega, z3, Option.bind_some, lenQ_ok (by simp; omega), Option.bind_some, c2, Option.bind_some, ckI_of (by omega) (by omega), Option.bind_some]; rfl)
      (fun n3 P X Y hX hY0 hY hN oX oY hUX hUY => by
        obtain ⟨Z, z1, z2, z3⟩ := mrg P X Y [] (by omega) (by omega) (by simpa using hN) hUX hUY oX oY; have zl := z1.length_eq; rw [List.length_append] at zl; refine ⟨Z, z1, z2, ?_⟩; show m_slices_stableCmpFunc_Limpl_Value_l3 p _ (n3 + 1) _ _ _ _ _ = _; rw [List.append_nil, List.append_nil] at z3; rw [m_slices_stableCmpFunc_Limpl_Value_l3, decide_eq_false (by omega), cond_false]; unfold m_slices_stableCmpFunc_Limpl_Value_j2 m_slices_stableCmpFunc_Limpl_Value_j3; rw [ckI_of (by omega) (by omega), Option.bind_some, decide_eq_true (by omega), cond_true, show ((P.length : Int) + (bs : Int)) = ((P.length + X.length : Nat) : Int) by omega, show (l.length : Int) = ((P.length + X.length + Y.length : Nat) : Int) by omega, z3, Option.bind_some, lenQ_ok (by simp; omega), Option.bind_some, show ((bs : Int) * 2) = 2 * (bs : Int) by omega, c2, Option.bind_some])
      (fun n3 P X hX hN => by
        show m_slices_stableCmpFunc_Limpl_Value_l3 p _ (n3 + 1) _ _ _ _ _ = _; rw [m_slices_stableCmpFunc_Limpl_Value_l3, decide_eq_false (by omega), cond_false]; unfold m_slices_stableCmpFunc_Limpl_Value_j2 m_slices_stableCmpFunc_Limpl_Value_j3; rw [ckI_of (by omega) (by omega), Option.bind_some, decide_eq_false (by omega), cond_false, show ((bs : Int) * 2) = 2 * (bs : Int) by omega, c2, Option.bind_some])
      (((l.length : Int) - ((2 * bs : Nat) : Int)).toNat + 2) o [] (by
        rw [ho]; generalize hw : ((l.length : Int) - ((2 * bs : Nat) : Int)).toNat = w; rw [Nat.mul_add]; have : w ≤ 2 * bs * w := Nat.le_mul_of_pos_left w (by omega); omega) (by simpa using ho) hU hC
    obtain ⟨o', g1, g2, g3⟩ := this; refine ⟨o', g1, g2, ?_⟩; rw [m_slices_stableCmpFunc_Limpl_Value_l2, decide_eq_true (by omega), cond_true, c2, Option.bind_some]; simp only [List.nil_append, List.length_nil, Nat.zero_add] at g3; exact g3
  have r1 := stable1S (f := f) (U := fun x => x ∈ l) (gt := fun x r => decide (q r x < 0)) (N := l.length) (bs := 20) (J := fun o' => m_slices_stableCmpFunc_Limpl_Value_l2 p (((l.length : Int) - 20).toNat + 1) (l.length : Int) 20 o') (by omega)
    (fun n a b o => m_slices_stableCmpFunc_Limpl_Value_l1 p n (l.length : Int) 20 (a : Int) (b : Int) o) (fun X hX => isort_st fun v x hx y hy => hf v x (hX x hx) y (hX y hy)) isO
    (fun n P X S hX hN hU => by
      show m_slices_stableCmpFunc_Limpl_Value_l1 p (n + 1) _ _ _ _ _ = _; have := L_seg_slices_insertionSortCmpFunc_Limpl_Value (p := p) (q := q) P X S (by omega) (fun x hx y hy => hp x (hU x hx) y (hU y hy)); rw [hX] at this; rw [m_slices_stableCmpFunc_Limpl_Value_l1, decide_eq_true (by omega), cond_true, this, Option.bind_some, lenQ_ok (by simp [isort_len]), Option.bind_some, ckI_of (by omega) (by omega), Option.bind_some]; rfl)
    (fun n P X hX hN hU => by
      show m_slices_stableCmpFunc_Limpl_Value_l1 p (n + 1) _ _ _ _ _ = _; have := L_seg_slices_insertionSortCmpFunc_Limpl_Value (p := p) (q := q) P X [] (by simp; omega) (fun x hx y hy => hp x (hU x hx) y (hU y hy)); rw [hN, List.append_nil, List.append_nil] at this; rw [m_slices_stableCmpFunc_Limpl_Value_l1, decide_eq_false (by omega), cond_false]; unfold m_slices_stableCmpFunc_Limpl_Value_j1; rw [this, Option.bind_some, lenQ_ok (by simp [isort_len]), Option.bind_some])
    (((l.length : Int) - 20).toNat + 2) l [] (by omega) (by simp) (fun x h => h)
  obtain ⟨l1, g1, g2, g3⟩ := r1
  obtain ⟨o, k1, k2, k3⟩ := stable3S (f := f) (U := fun x => x ∈ l) (gt := fun x r => decide (q r x < 0)) (N := l.length) (J := fun o => some o) (fun n bs o => m_slices_stableCmpFunc_Limpl_Value_l2 p n (l.length : Int) (bs : Int) o) r2
    (fun n bs o h ho => by
      show m_slices_stableCmpFunc_Limpl_Value_l2 p (n + 1) _ _ _ = _; rw [m_slices_stableCmpFunc_Limpl_Value_l2, decide_eq_false (by omega), cond_false])
    (l.length - 20) (((l.length : Int) - 20).toNat + 1) 20 l1 (Nat.le_refl _) (by omega) (by omega) g1.length_eq (fun x hx => g1.mem_iff.1 hx) g2
  refine ⟨o, k1.trans g1, k2, ?_⟩; unfold m_slices_SortStableFunc_LLimpl_Value_Limpl_Value m_slices_stableCmpFunc_Limpl_Value; simp only [List.nil_append, List.length_nil, Nat.zero_add] at g3; have k3' : m_slices_stableCmpFunc_Limpl_Value_l2 p (((l.length : Int) - 20).toNat + 1) (l.length : Int) 20 l1 = some o := k3; have g3' : m_slices_stableCmpFunc_Limpl_Value_l1 p (((l.length : Int) - 20).toNat + 2) (l.length : Int) 20 0 20 l = some o := g3.trans k3'; rw [g3', Option.bind_some, lenQ_ok (k1.trans g1).length_eq, Option.bind_some]
theorem ltE {α β : Type} {x : α} {f : α → β} : lt x f = f x := rfl
theorem bneD {a b : Int} : (a != b) = !decide (a = b) := by by_cases h : a = b <;> simp [h]
theorem bneB {a b : Bool} : (a != b) = !decide (a = b) := by cases a <;> cases b <;> rfl
def wt_Llaws_Column (l : (List S_laws_Column)) : Nat := l.length
theorem wt_Llaws_Column_len {l : (List S_laws_Column)} : l.length ≤ wt_Llaws_Column l := by unfold wt_Llaws_Column; omega
theorem sz_Llaws_Column {a : (List S_laws_Column)} {left : Int} (hB : (B_list B_laws_Column) a) (h0 : 0 ≤ left) (h1 : left ≤ 1048576) : m_laws_szColumnS a left = some (szR left (wt_Llaws_Column a)) := by
  unfold m_laws_szColumnS wt_Llaws_Column; rw [ckSz' h0 h1 hB.1]; exact szE h0
def wt_laws_Value (v : S_laws_Value) : Nat := v.S.size
theorem sz_laws_Value {a : S_laws_Value} {left : Int} (hB : B_laws_Value a) (h0 : 0 ≤ left) (h1 : left ≤ 1048576) : m_laws_szValue a left = some (szR left (wt_laws_Value a)) := by
  unfold m_laws_szValue wt_laws_Value; unfold B_laws_Value at hB; rw [ckSz' h0 h1 hB.2.2]; exact szE h0
def wt_Llaws_Value (l : (List S_laws_Value)) : Nat := l.length + (l.map fun x => wt_laws_Value x).sum
theorem wt_Llaws_Value_len {l : (List S_laws_Value)} : l.length ≤ wt_Llaws_Value l := by unfold wt_Llaws_Value; omega
theorem wt_Llaws_Value_mem {l : (List S_laws_Value)} {x : S_laws_Value} (h : x ∈ l) : wt_laws_Value x ≤ wt_Llaws_Value l := by have := sum_mem (wt := fun x : S_laws_Value => wt_laws_Value x) h; unfold wt_Llaws_Value; omega
theorem sz_Llaws_Value {a : (List S_laws_Value)} {left : Int} (hB : (B_list B_laws_Value) a) (h0 : 0 ≤ left) (h1 : left ≤ 1048576) : m_laws_szValueS a left = some (szR left (wt_Llaws_Value a)) := by
  unfold m_laws_szValueS wt_Llaws_Value; rw [ckSz' h0 h1 hB.1]; refine szC (k := fun z => m_laws_szValueS_l1 (((a.length : Int) - (0 : Int)).toNat + 1) a z 0) h0 (fun e => ?_); refine szLoop0 (fun x => wt_laws_Value x) a (fun f z k => m_laws_szValueS_l1 f a z k) (fun f k z x hx hk h2 h3 => ?_) (fun f z => by rw [m_laws_szValueS_l1, dnlt]; rfl) (by omega) _ (szR_0 e) (szR_le h1); rw [m_laws_szValueS_l1, dlt (lt_of_at hx), cond_true, at_of hx, Option.bind_some, sz_laws_Value (hB.2 x (List.mem_of_getElem? hx)) h2 h3, Option.bind_some]; rw [ck1 (by omega)]; rfl
def wt_LLlaws_Value (l : (List (List S_laws_Value))) : Nat := l.length + (l.map fun x => wt_Llaws_Value x).sum
theorem wt_LLlaws_Value_len {l : (List (List S_laws_Value))} : l.length ≤ wt_LLlaws_Value l := by unfold wt_LLlaws_Value; omega
theorem wt_LLlaws_Value_mem {l : (List (List S_laws_Value))} {x : (List S_laws_Value)} (h : x ∈ l) : wt_Llaws_Value x ≤ wt_LLlaws_Value l := by have := sum_mem (wt := fun x : (List S_laws_Value) => wt_Llaws_Value x) h; unfold wt_LLlaws_Value; omega
theorem sz_LLlaws_Value {a : (List (List S_laws_Value))} {left : Int} (hB : (B_list (B_list B_laws_Value)) a) (h0 : 0 ≤ left) (h1 : left ≤ 1048576) : m_laws_szValueSS a left = some (szR left (wt_LLlaws_Value a)) := by
  unfold m_laws_szValueSS wt_LLlaws_Value; rw [ckSz' h0 h1 hB.1]; refine szC (k := fun z => m_laws_szValueSS_l1 (((a.length : Int) - (0 : Int)).toNat + 1) a z 0) h0 (fun e => ?_); refine szLoop0 (fun x => wt_Llaws_Value x) a (fun f z k => m_laws_szValueSS_l1 f a z k) (fun f k z x hx hk h2 h3 => ?_) (fun f z => by rw [m_laws_szValueSS_l1, dnlt]; rfl) (by omega) _ (szR_0 e) (szR_le h1); rw [m_laws_szValueSS_l1, dlt (lt_of_at hx), cond_true, at_of hx, Option.bind_some, sz_Llaws_Value (hB.2 x (List.mem_of_getElem? hx)) h2 h3, Option.bind_some]; rw [ck1 (by omega)]; rfl
def cv_laws_Column (v : S_laws_Column) : S_impl_Column := ⟨v.Kind, v.Empty⟩
theorem to_laws_Column {a : S_laws_Column} : m_laws_toColumn a = some (cv_laws_Column a) := by
  unfold m_laws_toColumn cv_laws_Column
  all_goals rfl
def cv_Llaws_Column (l : (List S_laws_Column)) : (List S_impl_Column) := l.map cv_laws_Column
theorem to_Llaws_Column {a : (List S_laws_Column)} (h : wt_Llaws_Column a ≤ 100000000000) : m_laws_toColumnS a = some (cv_Llaws_Column a) := by
  have hl : a.length ≤ 100000000000 := by have := wt_Llaws_Column_len (l := a); omega
  unfold m_laws_toColumnS cv_Llaws_Column; refine toLoop0 cv_laws_Column a _ (fun f k o => m_laws_toColumnS_l1 f a k o) (fun f k o x hx hk ho => ?_) (fun f o => by rw [m_laws_toColumnS_l1, dnlt]; rfl) (by omega); have hy := at_some (l := o) (k := k) (by have := lt_of_at hx; omega); rw [m_laws_toColumnS_l1, dlt (lt_of_at hx), cond_true, at_of hx, Option.bind_some, to_laws_Column, Option.bind_some, hy, Option.bind_some, Option.bind_some]
  try rw [ltE]
  rw [ck1 (by omega), Option.bind_some, Int.toNat_natCast]; rfl
def wt_Limpl_Column (l : (List S_impl_Column)) : Nat := l.length
theorem wt_Limpl_Column_len {l : (List S_impl_Column)} : l.length ≤ wt_Limpl_Column l := by unfold wt_Limpl_Column; omega
theorem wc_Llaws_Column {l : (List S_laws_Column)} : wt_Limpl_Column (cv_Llaws_Column l) = wt_Llaws_Column l := by
  unfold wt_Limpl_Column cv_Llaws_Column wt_Llaws_Column; rw [List.length_map]
def cv_laws_Value (v : S_laws_Value) : S_impl_Value := ⟨v.Kind, v.N, v.S⟩
theorem to_laws_Value {a : S_laws_Value} (h : wt_laws_Value a ≤ 100000000000) : m_laws_toValue a = some (cv_laws_Value a) := by
  unfold wt_laws_Value at h; unfold m_laws_toValue cv_laws_Value
  all_goals rfl
def wt_impl_Value (v : S_impl_Value) : Nat := v.S.size
theorem wc_laws_Value {v : S_laws_Value} : wt_impl_Value (cv_laws_Value v) = wt_laws_Value v := rfl
def cv_Llaws_Value (l : (List S_laws_Value)) : (List S_impl_Value) := l.map cv_laws_Value
theorem to_Llaws_Value {a : (List S_laws_Value)} (h : wt_Llaws_Value a ≤ 100000000000) : m_laws_toValueS a = some (cv_Llaws_Value a) := by
  have hl : a.length ≤ 100000000000 := by have := wt_Llaws_Value_len (l := a); omega
  unfold m_laws_toValueS cv_Llaws_Value; refine toLoop0 cv_laws_Value a _ (fun f k o => m_laws_toValueS_l1 f a k o) (fun f k o x hx hk ho => ?_) (fun f o => by rw [m_laws_toValueS_l1, dnlt]; rfl) (by omega); have hy := at_some (l := o) (k := k) (by have := lt_of_at hx; omega); rw [m_laws_toValueS_l1, dlt (lt_of_at hx), cond_true, at_of hx, Option.bind_some, to_laws_Value (by have := wt_Llaws_Value_mem (List.mem_of_getElem? hx); omega), Option.bind_some, hy, Option.bind_some, Option.bind_some]
  try rw [ltE]
  rw [ck1 (by omega), Option.bind_some, Int.toNat_natCast]; rfl
def wt_Limpl_Value (l : (List S_impl_Value)) : Nat := l.length + (l.map fun x => wt_impl_Value x).sum
theorem wt_Limpl_Value_len {l : (List S_impl_Value)} : l.length ≤ wt_Limpl_Value l := by unfold wt_Limpl_Value; omega
theorem wt_Limpl_Value_mem {l : (List S_impl_Value)} {x : S_impl_Value} (h : x ∈ l) : wt_impl_Value x ≤ wt_Limpl_Value l := by have := sum_mem (wt := fun x : S_impl_Value => wt_impl_Value x) h; unfold wt_Limpl_Value; omega
theorem wc_Llaws_Value {l : (List S_laws_Value)} : wt_Limpl_Value (cv_Llaws_Value l) = wt_Llaws_Value l := by
  unfold wt_Limpl_Value cv_Llaws_Value wt_Llaws_Value; rw [List.length_map, List.map_map]
  first | done | (congr 2; exact List.map_congr_left fun x _ => wc_laws_Value) | rfl
def cv_LLlaws_Value (l : (List (List S_laws_Value))) : (List (List S_impl_Value)) := l.map cv_Llaws_Value
theorem to_LLlaws_Value {a : (List (List S_laws_Value))} (h : wt_LLlaws_Value a ≤ 100000000000) : m_laws_toValueSS a = some (cv_LLlaws_Value a) := by
  have hl : a.length ≤ 100000000000 := by have := wt_LLlaws_Value_len (l := a); omega
  unfold m_laws_toValueSS cv_LLlaws_Value; refine toLoop0 cv_Llaws_Value a _ (fun f k o => m_laws_toValueSS_l1 f a k o) (fun f k o x hx hk ho => ?_) (fun f o => by rw [m_laws_toValueSS_l1, dnlt]; rfl) (by omega); have hy := at_some (l := o) (k := k) (by have := lt_of_at hx; omega); rw [m_laws_toValueSS_l1, dlt (lt_of_at hx), cond_true, at_of hx, Option.bind_some, to_Llaws_Value (by have := wt_LLlaws_Value_mem (List.mem_of_getElem? hx); omega), Option.bind_some, hy, Option.bind_some, Option.bind_some]
  try rw [ltE]
  rw [ck1 (by omega), Option.bind_some, Int.toNat_natCast]; rfl
def wt_LLimpl_Value (l : (List (List S_impl_Value))) : Nat := l.length + (l.map fun x => wt_Limpl_Value x).sum
theorem wt_LLimpl_Value_len {l : (List (List S_impl_Value))} : l.length ≤ wt_LLimpl_Value l := by unfold wt_LLimpl_Value; omega
theorem wt_LLimpl_Value_mem {l : (List (List S_impl_Value))} {x : (List S_impl_Value)} (h : x ∈ l) : wt_Limpl_Value x ≤ wt_LLimpl_Value l := by have := sum_mem (wt := fun x : (List S_impl_Value) => wt_Limpl_Value x) h; unfold wt_LLimpl_Value; omega
theorem wc_LLlaws_Value {l : (List (List S_laws_Value))} : wt_LLimpl_Value (cv_LLlaws_Value l) = wt_LLlaws_Value l := by
  unfold wt_LLimpl_Value cv_LLlaws_Value wt_LLlaws_Value; rw [List.length_map, List.map_map]
  first | done | (congr 2; exact List.map_congr_left fun x _ => wc_Llaws_Value) | rfl
theorem eq_impl_Value {a b : S_impl_Value} (h : wt_impl_Value a ≤ 100000000000) : m_laws_eqValue a b = some (decide (a = b)) := by
  unfold wt_impl_Value at h; unfold m_laws_eqValue; rw [bneD]
  by_cases g0 : a.Kind = b.Kind
  case neg => rw [decide_eq_false g0, Bool.not_false, cond_true, decide_eq_false (fun e => g0 (by rw [e]))]
  rw [decide_eq_true g0, Bool.not_true, cond_false]; rw [bneD]
  by_cases g1 : a.N = b.N
  case neg => rw [decide_eq_false g1, Bool.not_false, cond_true, decide_eq_false (fun e => g1 (by rw [e]))]
  rw [decide_eq_true g1, Bool.not_true, cond_false]; rw [sEq_eq]
  by_cases g2 : a.S = b.S
  case neg => rw [decide_eq_false g2, Bool.not_false, cond_true, decide_eq_false (fun e => g2 (by rw [e]))]
  rw [decide_eq_true g2, Bool.not_true, cond_false]; rw [decide_eq_true (show a = b by cases a; cases b; simp only at g0 g1 g2; subst g0 g1 g2; rfl)]
theorem eq_Limpl_Value {a b : (List S_impl_Value)} (h : wt_Limpl_Value a ≤ 100000000000) : m_laws_eqValueS a b = some (decide (a = b)) := by
  have hl : a.length ≤ 100000000000 := by have := wt_Limpl_Value_len (l := a); omega
  unfold m_laws_eqValueS; refine eqLoop a b (fun f k => m_laws_eqValueS_l1 f a b k) (fun f k x y hx hy hk => ?_) (fun f => by rw [m_laws_eqValueS_l1, dnlt]; rfl) (by omega); rw [m_laws_eqValueS_l1, dlt (lt_of_at hx), cond_true, at_of hx, Option.bind_some, at_of hy, Option.bind_some, eq_impl_Value (by have := wt_Limpl_Value_mem (List.mem_of_getElem? hx); omega), Option.bind_some, ck1 (by omega), Option.bind_some]; rfl
theorem eq_LLimpl_Value {a b : (List (List S_impl_Value))} (h : wt_LLimpl_Value a ≤ 100000000000) : m_laws_eqValueSS a b = some (decide (a = b)) := by
  have hl : a.length ≤ 100000000000 := by have := wt_LLimpl_Value_len (l := a); omega
  unfold m_laws_eqValueSS; refine eqLoop a b (fun f k => m_laws_eqValueSS_l1 f a b k) (fun f k x y hx hy hk => ?_) (fun f => by rw [m_laws_eqValueSS_l1, dnlt]; rfl) (by omega); rw [m_laws_eqValueSS_l1, dlt (lt_of_at hx), cond_true, at_of hx, Option.bind_some, at_of hy, Option.bind_some, eq_Limpl_Value (by have := wt_LLimpl_Value_mem (List.mem_of_getElem? hx); omega), Option.bind_some, ck1 (by omega), Option.bind_some]; rfl
theorem eq_impl_Column {a b : S_impl_Column} : m_laws_eqColumn a b = some (decide (a = b)) := by
  unfold m_laws_eqColumn; rw [bneD]
  by_cases g0 : a.Kind = b.Kind
  case neg => rw [decide_eq_false g0, Bool.not_false, cond_true, decide_eq_false (fun e => g0 (by rw [e]))]
  rw [decide_eq_true g0, Bool.not_true, cond_false]; rw [bneB]
  by_cases g1 : a.Empty = b.Empty
  case neg => rw [decide_eq_false g1, Bool.not_false, cond_true, decide_eq_false (fun e => g1 (by rw [e]))]
  rw [decide_eq_true g1, Bool.not_true, cond_false]; rw [decide_eq_true (show a = b by cases a; cases b; simp only at g0 g1; subst g0 g1; rfl)]
theorem eq_Limpl_Column {a b : (List S_impl_Column)} (h : wt_Limpl_Column a ≤ 100000000000) : m_laws_eqColumnS a b = some (decide (a = b)) := by
  have hl : a.length ≤ 100000000000 := by have := wt_Limpl_Column_len (l := a); omega
  unfold m_laws_eqColumnS; refine eqLoop a b (fun f k => m_laws_eqColumnS_l1 f a b k) (fun f k x y hx hy hk => ?_) (fun f => by rw [m_laws_eqColumnS_l1, dnlt]; rfl) (by omega); rw [m_laws_eqColumnS_l1, dlt (lt_of_at hx), cond_true, at_of hx, Option.bind_some, at_of hy, Option.bind_some, eq_impl_Column, Option.bind_some, ck1 (by omega), Option.bind_some]; rfl
abbrev Col := S_impl_Column
def colOk (c : Col) : Bool := decide (1 ≤ c.Kind) && decide (c.Kind ≤ 3)
def colsOk (cs : List Col) : Bool := decide (cs.length ≤ 4) && cs.all colOk
def vFit (v : V) (c : Col) : Bool := decide (v.Kind = c.Kind) || (decide (v.Kind = 0) && c.Empty)
def rowFits (cs : List Col) (r : Row) : Bool := colsOk cs && (rowOk r && (decide (r.length = cs.length) && all2 vFit r cs))
def rowsOk (cs : List Col) (rs : Rows) : Bool := colsOk cs && rs.all (rowFits cs)
theorem lenD (n m : Nat) : decide ((n : Int) ≤ (m : Int)) = decide (n ≤ m) := by rw [decide_eq_decide]; omega
theorem E_impl_ColumnsOk {cs : List Col} (h : cs.length ≤ 900000000) : m_impl_ColumnsOk cs = some (colsOk cs) := by
  unfold m_impl_ColumnsOk m_impl_ColumnsOk_j1 colsOk
  rw [L_slices_ContainsFunc_Limpl_Column_impl_Column (q := fun c => !(colOk c)) h (fun c _ => by unfold m_impl_ColumnsOk_1; rw [E_between]; rfl), Option.bind_some,
    show (4 : Int) = ((4 : Nat) : Int) from rfl, lenD, List.all_eq_not_any_not]
  cases decide (cs.length ≤ 4) <;> rfl
theorem E_spec_ColumnsOk {cs : List Col} (h : cs.length ≤ 900000000) : m_spec_ColumnsOk cs = some (colsOk cs) := by
  unfold m_spec_ColumnsOk colsOk
  rw [scanA (p := fun c => !(colOk c)) (r0 := false) (r1 := decide ((cs.length : Int) ≤ 4)) cs (fun n k => m_spec_ColumnsOk_l1 n cs k) (fun n k x hx => by
    have := lt_of_at hx; rw [m_spec_ColumnsOk_l1, dlt this, cond_true]; simp only [at_of hx, E_l1In, Option.bind_some, ck1 (show k < 1000000000000 by omega)]; rfl) (fun n => by rw [m_spec_ColumnsOk_l1, dnlt]; rfl) _ fuel0, List.all_eq_not_any_not, show (4 : Int) = ((4 : Nat) : Int) from rfl, lenD]
  cases cs.any fun c => !(colOk c) <;> simp
theorem E_impl_RowFits {cs : List Col} {r : Row} (h : cs.length ≤ 900000000) (hr : rSm r) : m_impl_RowFits cs r = some (rowFits cs r) := by
  unfold m_impl_RowFits rowFits; rw [E_impl_ColumnsOk h, Option.bind_some]; cases colsOk cs
  · rfl
  rw [Bool.not_true, cond_false, E_impl_RowOk hr, Option.bind_some]; cases rowOk r
  · rfl
  rw [Bool.not_true, cond_false]; unfold m_impl_RowFits_j1; rw [neN]
  by_cases hl : r.length = cs.length
  · rw [decide_eq_true hl, Bool.not_true, cond_false]
    simp only [Bool.true_and]
    exact scan2 (q := vFit) r cs hl (fun n k => m_impl_RowFits_l1 n cs r (r.length : Int) k) (fun n k x y hx hy => by
      have := lt_of_at hx; have hrl := hr.1; rw [m_impl_RowFits_l1, dlt this, cond_true]; simp only [at_of hx, at_of hy, Option.bind_some, Go.Lift.lt]; unfold m_impl_RowFits_j2; rw [ck1 (show k < 1000000000000 by omega), Option.bind_some]; unfold vFit; rw [neB, neB]; cases decide (x.Kind = y.Kind) <;> cases decide (x.Kind = 0) <;> cases y.Empty <;> rfl) (fun n => by rw [m_impl_RowFits_l1, dnlt]; rfl) _ fuel0
  · rw [decide_eq_false hl]; rfl
theorem E_spec_RowFits {cs : List Col} {r : Row} (h : cs.length ≤ 900000000) (hr : rSm r) : m_spec_RowFits cs r = some (rowFits cs r) := by
  unfold m_spec_RowFits rowFits; rw [E_spec_ColumnsOk h, Option.bind_some]; cases colsOk cs
  · rfl
  rw [Bool.not_true, cond_false, E_spec_RowOk hr, Option.bind_some]; cases rowOk r
  · rfl
  rw [Bool.not_true, cond_false]; unfold m_spec_RowFits_j1; rw [neN]
  by_cases hl : r.length = cs.length
  · rw [decide_eq_true hl, Bool.not_true, cond_false]
    simp only [Bool.true_and]
    exact scan2 (q := vFit) r cs hl (fun n k => m_spec_RowFits_l1 n cs r k) (fun n k x y hx hy => by
      have := lt_of_at hx; have hrl := hr.1; rw [m_spec_RowFits_l1, dlt this, cond_true]; simp only [at_of hx, at_of hy, Option.bind_some]; unfold m_spec_RowFits_j2; rw [ck1 (show k < 1000000000000 by omega), Option.bind_some]; unfold vFit; rw [neB, neB]; cases decide (x.Kind = y.Kind) <;> cases decide (x.Kind = 0) <;> cases y.Empty <;> rfl) (fun n => by rw [m_spec_RowFits_l1, dnlt]; rfl) _ fuel0
  · rw [decide_eq_false hl]; rfl
theorem E_impl_RowsOk {cs : List Col} {rs : Rows} (h : cs.length ≤ 900000000) (hr : rsSm rs) : m_impl_RowsOk cs rs = some (rowsOk cs rs) := by
  unfold m_impl_RowsOk m_impl_RowsOk_j1 rowsOk; obtain ⟨h1, h2⟩ := hr; rw [E_impl_ColumnsOk h, Option.bind_some, L_slices_ContainsFunc_LLimpl_Value_Limpl_Value (q := fun r => !(rowFits cs r)) (by omega) (fun r hr => by unfold m_impl_RowsOk_1; rw [E_impl_RowFits h (h2 r hr)]; rfl), Option.bind_some, List.all_eq_not_any_not]; cases colsOk cs <;> rfl
theorem E_spec_RowsOk {cs : List Col} {rs : Rows} (h : cs.length ≤ 900000000) (hr : rsSm rs) : m_spec_RowsOk cs rs = some (rowsOk cs rs) := by
  unfold m_spec_RowsOk rowsOk; obtain ⟨h1, h2⟩ := hr
  rw [scanA (p := fun r => !(rowFits cs r)) (r0 := false) (r1 := colsOk cs) rs (fun n k => m_spec_RowsOk_l1 n cs rs k) (fun n k x hx => by
    have := lt_of_at hx; rw [m_spec_RowsOk_l1, dlt this, cond_true]; simp only [at_of hx, E_spec_RowFits h (h2 x (List.mem_of_getElem? hx)), Option.bind_some, ck1 (show k < 1000000000000 by omega)]) (fun n => by
    rw [m_spec_RowsOk_l1, dnlt, cond_false]; unfold m_spec_RowsOk_j1; rw [E_spec_ColumnsOk h]; rfl) _ fuel0, List.all_eq_not_any_not]
  cases rs.any fun r => !(rowFits cs r) <;> cases colsOk cs <;> rfl
theorem rowsOk_fits {cs : List Col} {rs : Rows} (h : rowsOk cs rs = true) {r : Row} (hr : r ∈ rs) : rowOk r = true ∧ r.length = cs.length := by
  unfold rowsOk at h; rw [Bool.and_eq_true, List.all_eq_true] at h; have := h.2 r hr; unfold rowFits at this; simp only [Bool.and_eq_true, decide_eq_true_eq] at this; exact ⟨this.2.1, this.2.2.1⟩
def v0 : V := ⟨0, 0, ⟨#[]⟩⟩
def colGt (i : Nat) (x r : Row) : Bool := decide (vOrd (r.getD i v0) (x.getD i v0) < 0)
def byCol (rs : Rows) (i : Nat) : Rows := isort (colGt i) rs
theorem at_getD {r : Row} {i : Nat} (h : i < r.length) : at? r (i : Int) = some (r.getD i v0) := at_of (by rw [List.getD_eq_getElem?_getD, List.getElem?_eq_getElem h]; rfl)
theorem getD_mem {r : Row} {i : Nat} (h : i < r.length) : r.getD i v0 ∈ r := by rw [List.getD_eq_getElem?_getD, List.getElem?_eq_getElem h]; exact List.getElem_mem _
theorem vOk_getD {r : Row} {i : Nat} (hr : rowOk r = true) (h : i < r.length) : vOk (r.getD i v0) = true := by
  unfold rowOk at hr; rw [Bool.and_eq_true, List.all_eq_true] at hr; exact hr.2 _ (getD_mem h)
theorem vv_ok {a b : V} (ha : vOk a = true) (hb : vOk b = true) : vvOrd a b = vOrd a b := by unfold vvOrd; rw [ha, hb]; rfl
theorem E_spec_ByColumn {cs : List Col} {rs : Rows} {i : Int} (hc : cs.length ≤ 100) (hs : rsSm rs) : m_spec_ByColumn cs rs i = some (if rowsOk cs rs = true ∧ 0 ≤ i ∧ i < cs.length then byCol rs i.toNat else []) := by
  unfold m_spec_ByColumn m_spec_ByColumn_j1; rw [E_spec_RowsOk (by omega) hs, Option.bind_some]; cases hr : rowsOk cs rs
  · rw [Bool.not_false, cond_true, cond_true, if_neg (by simp)]
  rw [Bool.not_true, cond_false, ckI_of (by omega) (by omega), Option.bind_some, E_l1In, Option.bind_some]
  by_cases h : 0 ≤ i ∧ i < cs.length
  · rw [if_pos ⟨rfl, h⟩, decide_eq_true h.1, decide_eq_true (show i ≤ (cs.length : Int) - 1 by omega), Bool.and_self, Bool.not_true, cond_false]
    generalize hI : i.toNat = I; obtain rfl : i = (I : Int) := by omega
    have hil : ∀ r ∈ rs, I < r.length := fun r hrr => by have := (rowsOk_fits hr hrr).2; omega
    obtain ⟨h1, h2⟩ := hs
    have hh := scanF (f := insE (colGt I)) (J := fun s => some s) (fun k s => s.length = k ∧ ∀ x ∈ s, x ∈ rs) rs (fun n k s => m_spec_ByColumn_l1 n rs (I : Int) k s) (fun n k x s hx hI => by
      have hlt := lt_of_at hx; obtain ⟨hI1, hI2⟩ := hI; have hxm := List.mem_of_getElem? hx; refine ⟨?_, by rw [insE_len, hI1], fun y hy => by rcases insE_mem.1 hy with rfl | hy; exact hxm; exact hI2 y hy⟩; rw [m_spec_ByColumn_l1, dlt hlt, cond_true]
      rw [posLoop (p := fun y => colGt I y x) (F := fun (j : Nat) => m_spec_ByColumn_j3 (m_spec_ByColumn_l1 n) rs (I : Int) (k : Int) (j : Int) s) s (fun m j => m_spec_ByColumn_l2 (m_spec_ByColumn_l1 n) m rs (I : Int) (k : Int) j s) (fun m => by
        rw [m_spec_ByColumn_l2, show decide ((0 : Int) > 0) = false from rfl, cond_false]; rfl) (fun m j y hy => by
        have hym := hI2 y (List.mem_of_getElem? hy); have hj := lt_of_at hy; have vy := (h2 y hym).2 _ (getD_mem (hil y hym)); have vx := (h2 x hxm).2 _ (getD_mem (hil x hxm)); rw [m_spec_ByColumn_l2, dgt0, cond_true]; simp only [ckdd (show j < 1000000000000 by omega), Option.bind_some, at_of hy, at_of hx, at_getD (hil x hxm), at_getD (hil y hym), E_ValueOrder vy vx]; rw [vv_ok (vOk_getD (rowsOk_fits hr hym).1 (hil y hym)) (vOk_getD (rowsOk_fits hr hxm).1 (hil x hxm))]; unfold m_spec_ByColumn_j2; rw [ckdd (show j < 1000000000000 by omega), Option.bind_some]; have ha := TO_value.anti (x.getD I v0) (y.getD I v0); unfold colGt
        by_cases hb : vOrd (x.getD I v0) (y.getD I v0) < 0
        · rw [if_pos (by simpa using hb), decide_eq_true (show vOrd (y.getD I v0) (x.getD I v0) > 0 from ha.1 hb), cond_true]
        · rw [if_neg (by simpa using hb), decide_eq_false (fun h => hb (ha.2 h)), cond_false]) 1000000000 (by omega)]
      have hp := posE_le (fun y => colGt I y x) s; have hxl := (h2 x hxm).1; unfold m_spec_ByColumn_j3
      rw [show (0 : Int) = ((0 : Nat) : Int) from rfl, cut_of (Nat.zero_le _) hp, Option.bind_some, app_of (by simp; omega), Option.bind_some, at_of hx, Option.bind_some, E_l3Own (by omega), Option.bind_some, app_of (by simp; omega), Option.bind_some,
        cut_of hp (Nat.le_refl _), Option.bind_some, app_of (by simp; omega), Option.bind_some]
      unfold m_spec_ByColumn_j4; rw [ck1 (show k < 1000000000000 by omega), Option.bind_some, insE_take]
      congr 1
      simp) (fun n s _ => by rw [m_spec_ByColumn_l1, dnlt, cond_false]; rfl) _ fuel0 [] ⟨rfl, by simp⟩
    rw [hh.1]; rfl
  · rw [if_neg (fun k => h k.2)]
    have : (decide (0 ≤ i) && decide (i ≤ (cs.length : Int) - 1)) = false := by
      rw [Bool.and_eq_false_iff, decide_eq_false_iff_not, decide_eq_false_iff_not]; omega
    rw [this]; rfl
theorem byCol_ord {rs : Rows} {i : Nat} : OrdB (colGt i) (byCol rs i) := by
  refine isort_ord (fun x _ y _ z _ h1 h2 => ?_) (fun x _ y _ h => ?_)
  · unfold colGt at *
    rw [decide_eq_false_iff_not] at *; have a1 := TO_value.anti (y.getD i v0) (x.getD i v0); have a2 := TO_value.anti (z.getD i v0) (y.getD i v0); have a3 := TO_value.anti (z.getD i v0) (x.getD i v0); have := TO_value.le_trans (a := x.getD i v0) (b := y.getD i v0) (c := z.getD i v0) (by omega) (by omega); omega
  · unfold colGt at *
    rw [decide_eq_true_eq] at h; rw [decide_eq_false_iff_not]; have a1 := TO_value.anti (y.getD i v0) (x.getD i v0); omega
def total (left : List Rows) : Nat := left.flatten.length
def markM {α : Type} (mk : Int → α → α) (w : α → Int) : Int → List α → List α
  | _, [] => []
  | c, x :: r => mk c x :: markM mk w (c + w x) r
def endM {α : Type} (w : α → Int) : Int → List α → Int
  | c, [] => c
  | c, x :: r => endM w (c + w x) r
theorem markM_len {α : Type} {mk : Int → α → α} {w : α → Int} : ∀ (c : Int) (l : List α), (markM mk w c l).length = l.length
  | _, [] => rfl
  | c, x :: l => by rw [markM, List.length_cons, List.length_cons, markM_len]
theorem endM_ge {α : Type} {w : α → Int} (hw : ∀ x, 0 ≤ w x) : ∀ (c : Int) (l : List α), c ≤ endM w c l
  | c, [] => Int.le_refl _
  | c, x :: l => by
    have := endM_ge hw (c + w x) l; have := hw x; rw [endM]; omega
theorem endM_sum {α : Type} {w : α → Int} {m : α → Nat} (hm : ∀ x, w x ≤ 3 * (m x : Int)) : ∀ (c : Int) (l : List α), endM w c l ≤ c + 3 * ((l.map m).sum : Int)
  | c, [] => by simp [endM]
  | c, x :: l => by
    have h1 := endM_sum hm (c + w x) l; have h2 := hm x; rw [endM, List.map_cons, List.sum_cons]
    push_cast
    omega
theorem markLoop {α : Type} {mk : Int → α → α} {w : α → Int} {B : Int} {ok : α → Prop} (hw : ∀ x, 0 ≤ w x) (L : Nat → Int → Int → List α → Option (Int × List α))
    (hs : ∀ (f : Nat) (d : List α) (x : α) (r : List α) (c : Int), d.length < 1000000000000 → 0 ≤ c → c + w x ≤ B → ok x → L (f + 1) c (d.length : Int) (d ++ x :: r) = L f (c + w x) ((d.length + 1 : Nat) : Int) (d ++ mk c x :: r))
    (he : ∀ (f : Nat) (c : Int) (o : List α), L (f + 1) c (o.length : Int) o = some (c, o)) :
    ∀ (r d : List α) (c : Int) (f : Nat), r.length < f → (∀ x ∈ r, ok x) → 0 ≤ c → endM w c r ≤ B → d.length + r.length ≤ 900000000000 → L f c (d.length : Int) (d ++ r) = some (endM w c r, d ++ markM mk w c r)
  | [], d, c, f, hf, _, _, _, _ => by
    obtain ⟨f, rfl⟩ : ∃ q, f = q + 1 := ⟨f - 1, by omega⟩; rw [List.append_nil, he]; simp [markM, endM]
  | x :: r, d, c, f, hf, hok, hc, hB, hl => by
    obtain ⟨f, rfl⟩ : ∃ q, f = q + 1 := ⟨f - 1, by omega⟩; rw [endM] at hB ⊢; have h1 := endM_ge hw (c + w x) r; have h2 := hw x; rw [List.length_cons] at hf hl; rw [hs f d x r c (by omega) hc (by omega) (hok x (by simp))]; have ih := markLoop hw L hs he r (d ++ [mk c x]) (c + w x) f (by omega) (fun y hy => hok y (by simp [hy])) (by omega) hB (by rw [List.length_append, List.length_singleton]; omega); rw [List.append_assoc, List.singleton_append, List.length_append, List.length_singleton] at ih; rw [ih, markM, List.append_assoc, List.singleton_append]
theorem heldLoop {α : Type} {mk : Int → α → α} {w : α → Int} {B : Int} {ok : α → Prop} (hw : ∀ x, 0 ≤ w x) (t0 : List α) (L : Nat → Int → Int → Option Int)
    (hs : ∀ (f k : Nat) (c : Int) (x : α), t0[k]? = some (mk c x) → k < 1000000000000 → 0 ≤ c → c + w x ≤ B → ok x → L (f + 1) c (k : Int) = L f (c + w x) ((k + 1 : Nat) : Int))
    (he : ∀ (f : Nat) (c : Int), L (f + 1) c (t0.length : Int) = some c) :
    ∀ (r d : List α) (c : Int) (f : Nat), t0 = d ++ markM mk w c r → r.length < f → (∀ x ∈ r, ok x) → 0 ≤ c → endM w c r ≤ B → d.length + r.length ≤ 900000000000 → L f c (d.length : Int) = some (endM w c r)
  | [], d, c, f, ht, hf, _, _, _, _ => by
    obtain ⟨f, rfl⟩ : ∃ q, f = q + 1 := ⟨f - 1, by omega⟩; rw [markM, List.append_nil] at ht; rw [← ht, he]; rfl
  | x :: r, d, c, f, ht, hf, hok, hc, hB, hl => by
    obtain ⟨f, rfl⟩ : ∃ q, f = q + 1 := ⟨f - 1, by omega⟩; rw [endM] at hB ⊢; have h1 := endM_ge hw (c + w x) r; have h2 := hw x; rw [List.length_cons] at hf hl; rw [markM] at ht; have hx : t0[d.length]? = some (mk c x) := by rw [ht]; simp
    rw [hs f d.length c x hx (by omega) hc (by omega) (hok x (by simp))]; have ih := heldLoop hw t0 L hs he r (d ++ [mk c x]) (c + w x) f (by rw [ht, List.append_assoc, List.singleton_append]) (by omega) (fun y hy => hok y (by simp [hy])) (by omega) hB (by rw [List.length_append, List.length_singleton]; omega); rw [List.length_append, List.length_singleton] at ih; exact ih
theorem T_markText {k : Int} (hk : k ≤ 1000000000000) : Tot (m_laws_markText k) fun _ => True := by
  unfold m_laws_markText; refine Tot.bif (fun _ => Tot.ret trivial) (fun h0 => ?_); have hk0 : 0 < k := by simpa using h0
  have key : ∀ (n : Nat) (t : Int) (a : ByteArray) (f : Nat), t ≤ n → 0 ≤ t → n < f → (a.size : Int) + t ≤ 2000000000000 → Tot (m_laws_markText_l1 f t a) fun _ => True := by
    intro n
    induction n with
    | zero =>
      intro t a f h1 h2 h3 h4; obtain ⟨f, rfl⟩ : ∃ q, f = q + 1 := ⟨f - 1, by omega⟩; rw [m_laws_markText_l1, decide_eq_false (by omega), cond_false]; unfold m_laws_markText_j1; exact Tot.cat (by rw [show ByteArray.size ⟨#[109]⟩ = 1 from rfl]; omega) (Tot.ret trivial)
    | succ n ih =>
      intro t a f h1 h2 h3 h4; obtain ⟨f, rfl⟩ : ∃ q, f = q + 1 := ⟨f - 1, by omega⟩; rw [m_laws_markText_l1]; refine Tot.bif (fun ht => ?_) (fun _ => ?_)
      · have ht' : 0 < t := by simpa using ht
        have e1 : t.tmod 10 = t % 10 := Int.tmod_eq_emod_of_nonneg (by omega); have e2 : t.tdiv 10 = t / 10 := Int.tdiv_eq_ediv_of_nonneg (by omega); refine Tot.rem (by omega) (Tot.ck (by omega) (by omega) (Tot.cat ?_ (Tot.quo (by omega) (by omega) (by omega) ?_)))
        · have : ∀ b : UInt8, (bStr [b]).size = 1 := fun b => rfl
          rw [this]; omega
        · refine ih _ _ f (by omega) (by omega) (by omega) ?_
          have : ∀ b : UInt8, (bStr [b]).size = 1 := fun b => rfl; rw [ByteArray.size_append, this]
          push_cast
          omega
      · unfold m_laws_markText_j1
        exact Tot.cat (by rw [show ByteArray.size ⟨#[109]⟩ = 1 from rfl]; omega) (Tot.ret trivial)
  exact key k.toNat k ⟨#[]⟩ _ (by omega) (by omega) (by omega) (by rw [show ByteArray.size ⟨#[]⟩ = 0 from rfl]; omega)
def mtx (k : Int) : ByteArray := (m_laws_markText k).getD ⟨#[]⟩
theorem E_markText {k : Int} (hk : k ≤ 1000000000000) : m_laws_markText k = some (mtx k) := by
  obtain ⟨t, ht, _⟩ := T_markText hk; unfold mtx; rw [ht]; rfl
def mkV (c : Int) (_ : V) : V := ⟨c, c + 1, mtx (c + 2)⟩
abbrev markV (c : Int) (l : Row) : Row := markM mkV (fun _ => 3) c l
theorem endVl (c : Int) : ∀ l : Row, endM (fun _ : V => 3) c l = c + 3 * l.length
  | [] => by simp [endM]
  | x :: l => by rw [endM, endVl (c + 3) l, List.length_cons]; push_cast; omega
theorem set_at {α : Type} {d r : List α} {x y : α} : (d ++ x :: r).set d.length y = d ++ y :: r := by rw [List.set_append_right _ _ (Nat.le_refl _)]; simp
theorem at_at {α : Type} {d r : List α} {x : α} : at? (d ++ x :: r) (d.length : Int) = some x := at_of (by simp)
theorem lt_at {α : Type} {d r : List α} {x : α} : decide ((d.length : Int) < ((d ++ x :: r).length : Int)) = true := decide_eq_true (by rw [List.length_append, List.length_cons]; omega)
theorem E_markV {l : Row} {k : Int} (hk : 0 ≤ k) (hB : k + 3 * l.length ≤ 1000000000000) : m_laws_markValueS l k = some (k + 3 * l.length, markV k l) := by
  unfold m_laws_markValueS
  have := markLoop (mk := mkV) (w := fun _ => 3) (B := 1000000000000) (ok := fun _ => True) (fun _ => by decide) (fun f c i o => m_laws_markValueS_l1 f c i o) (fun f d x r c hd hc hB _ => by
    rw [m_laws_markValueS_l1, lt_at, cond_true, at_at, Option.bind_some, Option.bind_some, ltE, ckI_of (by omega) (by omega), Option.bind_some, Int.toNat_natCast, set_at, at_at, Option.bind_some, Option.bind_some, ltE, ckI_of (by omega) (by omega), Option.bind_some, E_markText (by omega), Option.bind_some, set_at, at_at, Option.bind_some, Option.bind_some, ltE, ckI_of (by omega) (by omega), Option.bind_some, ckI_of (by omega) (by omega), Option.bind_some, set_at]; unfold mkV; rw [show c + 1 + 1 + 1 = c + 3 by omega, show c + 1 + 1 = c + 2 by omega, show ((d.length : Int) + 1) = ((d.length + 1 : Nat) : Int) by omega]) (fun f c o => by rw [m_laws_markValueS_l1, dnlt]; rfl) l [] k _ fuel0 (fun _ _ => trivial) hk (by rw [endVl]; exact hB) (by simp only [List.length_nil]; omega)
  rw [endVl] at this; exact this
theorem E_heldV {l : Row} {k : Int} (hk : 0 ≤ k) (hB : k + 3 * l.length ≤ 1000000000000) : m_laws_heldValueS (markV k l) k = some (k + 3 * l.length) := by
  unfold m_laws_heldValueS
  have := heldLoop (mk := mkV) (w := fun _ => 3) (B := 1000000000000) (ok := fun _ => True) (fun _ => by decide) (markV k l) (fun f c i => m_laws_heldValueS_l1 f (markV k l) c i) (fun f i c x hx hi hc hB _ => by
    rw [m_laws_heldValueS_l1, dlt (lt_of_at hx), cond_true, at_of hx, Option.bind_some]; unfold mkV; simp only [bne_self_eq_false, cond_false, Option.bind_some]; rw [ckI_of (by omega) (by omega), Option.bind_some]; simp only [bne_self_eq_false, cond_false, Option.bind_some]; rw [ckI_of (by omega) (by omega), Option.bind_some, E_markText (by omega), Option.bind_some, show c + 1 + 1 = c + 2 by omega]; rw [show sEq (mtx (c + 2)) (mtx (c + 2)) = true by rw [sEq_eq]; exact decide_eq_true rfl, Bool.not_true, cond_false, ckI_of (by omega) (by omega), Option.bind_some, ck1 (by omega), Option.bind_some, show c + 2 + 1 = c + 3 by omega]; rfl) (fun f c => by rw [m_laws_heldValueS_l1, dnlt]; rfl) l [] k (((markV k l).length : Int) - 0).toNat.succ rfl (by rw [markM_len]; omega) (fun _ _ => trivial) hk (by rw [endVl]; exact hB) (by simp only [List.length_nil]; omega)
  rw [endVl] at this; exact this
def wR (r : Row) : Int := 3 * r.length
def mkR (c : Int) (r : Row) : Row := markV c r
theorem E_markR {l : Rows} {k : Int} (hk : 0 ≤ k) (hB : endM wR k l ≤ 1000000000000) (hl : l.length ≤ 900000000000) : m_laws_markValueSS l k = some (endM wR k l, markM mkR wR k l) := by
  unfold m_laws_markValueSS
  exact markLoop (mk := mkR) (w := wR) (B := 1000000000000) (ok := fun _ => True) (fun x => by unfold wR; omega) (fun f c i o => m_laws_markValueSS_l1 f c i o) (fun f d x r c hd hc hB _ => by
    have hB' : c + 3 * (x.length : Int) ≤ 1000000000000 := hB; rw [m_laws_markValueSS_l1, lt_at, cond_true, at_at, Option.bind_some, Option.bind_some, E_markV hc hB', Option.bind_some, lenQ_ok (markM_len _ _), Option.bind_some, ltE, ckI_of (by omega) (by omega), Option.bind_some, Int.toNat_natCast, set_at]; rfl) (fun f c o => by rw [m_laws_markValueSS_l1, dnlt]; rfl) l [] k _ fuel0 (fun _ _ => trivial) hk hB (by simp only [List.length_nil]; omega)
theorem vokE_b {v : V} (h : vOk v = true) : v.S.size ≤ 6 ∧ -9999 ≤ v.N ∧ v.N ≤ 9999 := by
  have e0 : (⟨#[]⟩ : ByteArray).size = 0 := rfl; unfold vOk at h
  by_cases h0 : v.Kind = 0
  · rw [if_pos h0, decide_eq_true_eq] at h
    rw [h]; exact ⟨by show (0 : Nat) ≤ 6; omega, by show (-9999 : Int) ≤ 0; omega, by show (0 : Int) ≤ 9999; omega⟩
  rw [if_neg h0] at h
  by_cases h1 : v.Kind = 1
  · rw [if_pos h1, Bool.and_eq_true, Bool.and_eq_true, decide_eq_true_eq, decide_eq_true_eq, decide_eq_true_eq] at h
    refine ⟨by rw [h.1, e0]; omega, h.2.1, h.2.2⟩
  rw [if_neg h1] at h
  by_cases h2 : v.Kind = 2
  · rw [if_pos h2, Bool.and_eq_true, Bool.and_eq_true, decide_eq_true_eq, decide_eq_true_eq] at h
    exact ⟨h.1.2, by omega, by omega⟩
  rw [if_neg h2] at h
  by_cases h3 : v.Kind = 3
  · rw [if_pos h3, Bool.and_eq_true, Bool.and_eq_true, decide_eq_true_eq, decide_eq_true_eq, decide_eq_true_eq] at h
    exact ⟨by rw [h.1, e0]; omega, by omega, by omega⟩
  rw [if_neg h3] at h; cases h
theorem rowOkE_b {r : Row} (h : rowOk r = true) : r.length ≤ 4 ∧ ∀ v ∈ r, vOk v = true := by
  unfold rowOk at h; rw [Bool.and_eq_true, decide_eq_true_eq, List.all_eq_true] at h; exact h
theorem smE_Value {v : S_laws_Value} (h : wt_laws_Value v ≤ 1048576) : vSm (cv_laws_Value v) := by unfold wt_laws_Value at h; unfold vSm cv_laws_Value; simp only; omega
theorem smE_row {l : List S_laws_Value} (h : wt_Llaws_Value l ≤ 1048576) : rSm (cv_Llaws_Value l) := by
  refine ⟨?_, ?_⟩
  · have := wt_Llaws_Value_len (l := l); unfold cv_Llaws_Value; rw [List.length_map]; omega
  · intro v hv
    obtain ⟨x, hx, rfl⟩ := List.mem_map.1 hv; exact smE_Value (by have := wt_Llaws_Value_mem hx; omega)
theorem smE_rows {l : List (List S_laws_Value)} (h : wt_LLlaws_Value l ≤ 1048576) : rsSm (cv_LLlaws_Value l) := by
  refine ⟨?_, ?_⟩
  · have := wt_LLlaws_Value_len (l := l); unfold cv_LLlaws_Value; rw [List.length_map]; omega
  · intro v hv
    obtain ⟨x, hx, rfl⟩ := List.mem_map.1 hv; exact smE_row (by have := wt_LLlaws_Value_mem hx; omega)
def eqR (r x : Row) : Bool := decide (x = r)
theorem E_heldR {l : Rows} {k : Int} (hk : 0 ≤ k) (hB : endM wR k l ≤ 1000000000000) (hl : l.length ≤ 900000000000) : m_laws_heldValueSS (markM mkR wR k l) k = some (endM wR k l) := by
  unfold m_laws_heldValueSS
  exact heldLoop (mk := mkR) (w := wR) (B := 1000000000000) (ok := fun _ => True) (fun x => by unfold wR; omega) (markM mkR wR k l) (fun f c i => m_laws_heldValueSS_l1 f (markM mkR wR k l) c i) (fun f i c x hx hi hc hB _ => by
    have hB' : c + 3 * (x.length : Int) ≤ 1000000000000 := hB; rw [m_laws_heldValueSS_l1, dlt (lt_of_at hx), cond_true, at_of hx, Option.bind_some]; unfold mkR; rw [E_heldV hc hB', Option.bind_some, decide_eq_false (by omega), cond_false, ck1 (by omega), Option.bind_some]; rfl) (fun f c => by rw [m_laws_heldValueSS_l1, dnlt]; rfl) l [] k (((markM mkR wR k l).length : Int) - 0).toNat.succ rfl (by rw [markM_len]; omega) (fun _ _ => trivial) hk hB (by simp only [List.length_nil]; omega)
theorem sumL5 {α : Type} {f g : α → Nat} : ∀ {l : List α}, (∀ x ∈ l, f x ≤ g x) → (l.map f).sum ≤ (l.map g).sum
  | [], _ => Nat.le_refl _
  | x :: l, h => by
    rw [List.map_cons, List.sum_cons, List.map_cons, List.sum_cons]; have := sumL5 (f := f) (g := g) (l := l) fun y hy => h y (by simp [hy]); have := h x (by simp); omega
theorem sumB5 {α : Type} {f : α → Nat} {B : Nat} : ∀ {l : List α}, (∀ x ∈ l, f x ≤ B) → (l.map f).sum ≤ l.length * B
  | [], _ => Nat.zero_le _
  | x :: l, h => by
    rw [List.map_cons, List.sum_cons, List.length_cons, Nat.succ_mul]; have := sumB5 (f := f) (B := B) (l := l) fun y hy => h y (by simp [hy]); have := h x (by simp); omega
theorem endR_w (c : Int) (l : Rows) : endM wR c l ≤ c + 3 * (wt_LLimpl_Value l : Int) := by
  have h1 := endM_sum (w := wR) (m := fun r => r.length) (fun x => by unfold wR; omega) c l; have h2 : (l.map fun r : Row => r.length).sum ≤ (l.map fun x => wt_Limpl_Value x).sum := sumL5 fun x _ => wt_Limpl_Value_len; unfold wt_LLimpl_Value
  push_cast
  omega
theorem wt_row5 {r : Row} (h : rowOk r = true) : wt_Limpl_Value r ≤ 28 := by
  obtain ⟨h1, h2⟩ := rowOkE_b h; have h3 : (r.map fun v => wt_impl_Value v).sum ≤ r.length * 6 := sumB5 fun v hv => (vokE_b (h2 v hv)).1; unfold wt_Limpl_Value; omega
theorem wt_rows5 {l : Rows} (hl : l.length ≤ 200000000) (h : ∀ r ∈ l, rowOk r = true) : wt_LLimpl_Value l ≤ 10000000000 := by
  have h3 : (l.map fun t => wt_Limpl_Value t).sum ≤ l.length * 28 := sumB5 fun t ht => wt_row5 (h t ht); unfold wt_LLimpl_Value; omega
theorem E_ConcatW {a b : Row} (ha : a.length ≤ 400000000) (hb : b.length ≤ 400000000) : m_slices_Concat_Limpl_Value_impl_Value [a, b] = some (a ++ b) := by
  unfold m_slices_Concat_Limpl_Value_impl_Value; rw [show ((([a, b] : List Row).length : Int) - 0).toNat + 1 = 2 + 1 from rfl, show (([a, b] : List Row).length : Int) = 2 from rfl]; have a0 : at? [a, b] 0 = some a := rfl; have a1 : at? [a, b] 1 = some b := rfl; have k1 : ckI (0 + 1) = some 1 := rfl; have k2 : ckI (1 + 1) = some 2 := rfl; have d0 : decide ((0 : Int) < 2) = true := rfl; have d1 : decide ((1 : Int) < 2) = true := rfl; have d2 : decide ((2 : Int) < 2) = false := rfl; rw [m_slices_Concat_Limpl_Value_impl_Value_l1, d0, cond_true, a0, Option.bind_some, ckI_of (by omega) (by omega), Option.bind_some]; rw [show decide (0 + (a.length : Int) < 0) = false by rw [decide_eq_false_iff_not]; omega, cond_false, k1, Option.bind_some]; rw [m_slices_Concat_Limpl_Value_impl_Value_l1, d1, cond_true, a1, Option.bind_some, ckI_of (by omega) (by omega), Option.bind_some]; rw [show decide (0 + (a.length : Int) + (b.length : Int) < 0) = false by rw [decide_eq_false_iff_not]; omega, cond_false, k2, Option.bind_some]; rw [m_slices_Concat_Limpl_Value_impl_Value_l1, d2, cond_false]; unfold m_slices_Concat_Limpl_Value_impl_Value_j1 m_slices_Grow_Limpl_Value_impl_Value; rw [if_pos (by omega), Option.bind_some, show ((([a, b] : List Row).length : Int) - 0).toNat + 1 = 2 + 1 from rfl, show (([a, b] : List Row).length : Int) = 2 from rfl]; rw [m_slices_Concat_Limpl_Value_impl_Value_l2, d0, cond_true, a0, Option.bind_some, app_of (by simp; omega), Option.bind_some, k1, Option.bind_some]; rw [m_slices_Concat_Limpl_Value_impl_Value_l2, d1, cond_true, a1, Option.bind_some, app_of (by simp; omega), Option.bind_some, k2, Option.bind_some]; rw [m_slices_Concat_Limpl_Value_impl_Value_l2, d2, cond_false]; rfl
theorem E_besideW {a b : Row} (ha : a.length ≤ 400000000) (hb : b.length ≤ 400000000) : m_impl_beside a b = some (a ++ b) := by
  unfold m_impl_beside; rw [E_ConcatW ha hb, Option.bind_some, E_clone (by simp; omega)]; rfl
theorem E_l6JoinedW {a b : Row} (ha : a.length ≤ 400000000) (hb : b.length ≤ 400000000) : m_spec_l6Joined a b = some (a ++ b) := by
  unfold m_spec_l6Joined; rw [E_l3Own (by omega), Option.bind_some, app_of (by omega), Option.bind_some]
def eqv (j : Nat) (v : V) (q : Row) : Bool := decide (q.getD j v0 = v)
def ltv (j : Nat) (v : V) (q : Row) : Bool := decide (vOrd (q.getD j v0) v < 0)
def prt1 (y : Rows) (i j : Nat) (r : Row) : Rows := if (r.getD i v0).Kind = 0 then [] else (y.filter (eqv j (r.getD i v0))).map (r ++ ·)
def LJ (x y : Rows) (i j : Nat) : Rows := x.flatMap (prt1 y i j)
theorem LJ_app {x x2 y : Rows} {i j : Nat} : LJ (x ++ x2) y i j = LJ x y i j ++ LJ x2 y i j := List.flatMap_append
def Asc (j : Nat) (l : Rows) : Prop := OrdB (colGt j) l
theorem asc_le {j : Nat} {a : Row} {l : Rows} (h : Asc j (a :: l)) {b : Row} (hb : b ∈ l) : vOrd (a.getD j v0) (b.getD j v0) ≤ 0 := by
  have := (List.pairwise_cons.1 h).1 b hb; unfold colGt at this; rw [decide_eq_false_iff_not] at this; have a1 := TO_value.anti (b.getD j v0) (a.getD j v0); omega
theorem asc_tail {j : Nat} {a : Row} {l : Rows} (h : Asc j (a :: l)) : Asc j l := (List.pairwise_cons.1 h).2
theorem asc_drop {j : Nat} {l : Rows} (h : Asc j l) (n : Nat) : Asc j (l.drop n) := h.sublist (List.drop_sublist n l)
theorem v_lt_ne {a b : V} (h : vOrd a b < 0) : a ≠ b := fun e => by
  have := (TO_value.eq0 a b).2 e; omega
theorem v_lt_le {a b c : V} (h : vOrd a b < 0) (k : vOrd b c ≤ 0) : vOrd a c < 0 := by
  rcases Int.lt_or_eq_of_le k with k | k
  · exact TO_value.trans _ _ _ h k
  · rw [← (TO_value.eq0 b c).1 k]; exact h
theorem v_le_ne {a b : V} (h : vOrd a b ≤ 0) (k : a ≠ b) : vOrd a b < 0 := by
  rcases Int.lt_or_eq_of_le h with h | h
  · exact h
  · exact absurd ((TO_value.eq0 a b).1 h) k
theorem take_eq {j : Nat} {v : V} : ∀ {l : Rows}, Asc j l → (∀ q ∈ l, vOrd v (q.getD j v0) ≤ 0) → l.filter (eqv j v) = l.takeWhile (eqv j v)
  | [], _, _ => rfl
  | a :: l, h, hv => by
    rw [List.takeWhile_cons, List.filter_cons]; cases e : eqv j v a
    · rw [if_neg (by simp), if_neg (by simp)]
      have ha : vOrd v (a.getD j v0) < 0 := v_le_ne (hv a (by simp)) (fun k => by unfold eqv at e; rw [decide_eq_false_iff_not] at e; exact e k.symm); rw [List.filter_eq_nil_iff]; intro q hq; unfold eqv; rw [decide_eq_true_eq]; intro k; exact v_lt_ne (v_lt_le ha (asc_le h hq)) k.symm
    · rw [if_pos rfl, if_pos rfl, take_eq (asc_tail h) fun q hq => hv q (by simp [hq])]
theorem drop_gt {j : Nat} {v : V} : ∀ {l : Rows}, Asc j l → (∀ q ∈ l, vOrd v (q.getD j v0) ≤ 0) → ∀ q ∈ l.dropWhile (eqv j v), vOrd v (q.getD j v0) < 0
  | [], _, _ => by simp
  | a :: l, h, hv => by
    rw [List.dropWhile_cons]; cases e : eqv j v a
    · rw [if_neg (by simp)]
      have ha : vOrd v (a.getD j v0) < 0 := v_le_ne (hv a (by simp)) (fun k => by unfold eqv at e; rw [decide_eq_false_iff_not] at e; exact e k.symm); intro q hq; rcases List.mem_cons.1 hq with rfl | hq
      · exact ha
      · exact v_lt_le ha (asc_le h hq)
    · rw [if_pos rfl]
      exact drop_gt (asc_tail h) fun q hq => hv q (by simp [hq])
theorem drop_ge {j : Nat} {v : V} : ∀ {l : Rows}, Asc j l → ∀ q ∈ l.dropWhile (ltv j v), vOrd v (q.getD j v0) ≤ 0
  | [], _ => by simp
  | a :: l, h => by
    rw [List.dropWhile_cons]; cases e : ltv j v a
    · rw [if_neg (by simp)]
      unfold ltv at e; rw [decide_eq_false_iff_not] at e; have a1 := TO_value.anti (a.getD j v0) v; have a2 := TO_value.anti v (a.getD j v0); intro q hq; rcases List.mem_cons.1 hq with rfl | hq
      · omega
      · exact TO_value.le_trans (b := a.getD j v0) (by omega) (asc_le h hq)
    · rw [if_pos rfl]; exact drop_ge (asc_tail h)
theorem none_eq {j : Nat} {v : V} {l : Rows} (h : ∀ q ∈ l, q.getD j v0 ≠ v) : l.filter (eqv j v) = [] := by
  rw [List.filter_eq_nil_iff]; intro q hq; unfold eqv; rw [decide_eq_true_eq]; exact h q hq
theorem mem_tw {α : Type} {p : α → Bool} : ∀ {l : List α} {x : α}, x ∈ l.takeWhile p → p x = true ∧ x ∈ l
  | [], _, h => by simp at h
  | a :: l, x, h => by
    rw [List.takeWhile_cons] at h
    split at h
    · rename_i hp
      rcases List.mem_cons.1 h with rfl | h
      · exact ⟨hp, by simp⟩
      · exact ⟨(mem_tw h).1, by simp [(mem_tw h).2]⟩
    · cases h
theorem find_eq {j : Nat} {v : V} {P R : Rows} (hP : ∀ q ∈ P, vOrd (q.getD j v0) v < 0) (hR : Asc j R) : (P ++ R).filter (eqv j v) = (R.dropWhile (ltv j v)).takeWhile (eqv j v) := by
  rw [List.filter_append, none_eq fun q hq => v_lt_ne (hP q hq), List.nil_append, ← take_eq (hR.sublist (List.dropWhile_sublist _)) (drop_ge hR)]
  conv => lhs; rw [← List.takeWhile_append_dropWhile (p := ltv j v) (l := R)]
  rw [List.filter_append, none_eq fun q hq => ?_, List.nil_append]; have := (mem_tw hq).1; unfold ltv at this; exact v_lt_ne (of_decide_eq_true this)
def clo1 (j : Nat) (v : V) (R : Rows) : Rows × Rows := ((R.dropWhile (ltv j v)).takeWhile (eqv j v), R.dropWhile (ltv j v))
theorem clo_l2 {j : Nat} {v : V} {R : Rows} (hn : R.length ≤ 900000000) (hj : ∀ q ∈ R, j < q.length) : ∀ (m k f : Nat), k + m = R.length → m < f → m_impl_MergeJoin_1_l2 f (j : Int) v (k : Int) R = m_impl_MergeJoin_1_j4 ((k + ((R.drop k).takeWhile (eqv j v)).length : Nat) : Int) R := by
  intro m
  induction m with
  | zero =>
    intro k f h1 h2; obtain ⟨f, rfl⟩ : ∃ g, f = g + 1 := ⟨f - 1, by omega⟩; rw [m_impl_MergeJoin_1_l2, decide_eq_false (by omega), cond_false, m_impl_MergeJoin_1_j3, cond_false, List.drop_eq_nil_of_le (by omega)]; rfl
  | succ m ih =>
    intro k f h1 h2; obtain ⟨f, rfl⟩ : ∃ g, f = g + 1 := ⟨f - 1, by omega⟩; have hk : k < R.length := by omega
    have hx : R[k]? = some R[k] := List.getElem?_eq_getElem hk; rw [m_impl_MergeJoin_1_l2, dlt hk, cond_true, at_of hx, Option.bind_some, at_getD (hj _ (List.getElem_mem hk)), Option.bind_some, m_impl_MergeJoin_1_j3, List.drop_eq_getElem_cons hk, List.takeWhile_cons]; show (bif eqv j v R[k] then _ else _) = _; cases e : eqv j v R[k]
    · rw [cond_false, if_neg (by simp)]; rfl
    · rw [cond_true, if_pos rfl, ck1 (by omega), Option.bind_some]
      have := ih (k + 1) f (by omega) (by omega); rw [List.length_cons, show k + (((R.drop (k + 1)).takeWhile (eqv j v)).length + 1) = k + 1 + ((R.drop (k + 1)).takeWhile (eqv j v)).length by omega]; exact this
theorem tw_take {α : Type} {p : α → Bool} : ∀ {l : List α}, l.take (l.takeWhile p).length = l.takeWhile p
  | [] => rfl
  | a :: l => by
    rw [List.takeWhile_cons]
    split
    · rw [List.length_cons, List.take_succ_cons, tw_take]
    · rfl
theorem tw_drop {α : Type} {p : α → Bool} : ∀ {l : List α}, l.drop (l.takeWhile p).length = l.dropWhile p
  | [] => rfl
  | a :: l => by
    rw [List.takeWhile_cons, List.dropWhile_cons]
    split
    · rw [List.length_cons, List.drop_succ_cons, tw_drop]
    · rfl
theorem tw_len {α : Type} {p : α → Bool} {l : List α} : (l.takeWhile p).length ≤ l.length := (List.takeWhile_sublist p).length_le
theorem cut0 {α : Type} {l : List α} {n : Nat} (h : n ≤ l.length) : cut? l (0 : Int) (n : Int) = some (l.take n) := by
  have := cut_of (l := l) (lo := 0) (hi := n) (Nat.zero_le _) h
  rwa [List.drop_zero] at this
theorem clo_end {j : Nat} {v : V} {R : Rows} (hn : R.length ≤ 900000000) (hj : ∀ q ∈ R, j < q.length) : m_impl_MergeJoin_1_j2 (j : Int) v R = some (R.takeWhile (eqv j v), R) := by
  unfold m_impl_MergeJoin_1_j2; have := clo_l2 (v := v) hn hj R.length 0 1000000000 (by omega) (by omega); rw [show ((0 : Nat) : Int) = 0 from rfl] at this; rw [this, List.drop_zero, Nat.zero_add, m_impl_MergeJoin_1_j4, cut0 tw_len, Option.bind_some, tw_take]
theorem clo_l1 {j : Nat} {v : V} : ∀ (R : Rows) (f : Nat), R.length ≤ 900000000 → (∀ q ∈ R, j < q.length) → R.length < f → m_impl_MergeJoin_1_l1 f (j : Int) v R = some (clo1 j v R)
  | [], f, hn, hj, hf => by
    obtain ⟨f, rfl⟩ : ∃ g, f = g + 1 := ⟨f - 1, by omega⟩; rw [m_impl_MergeJoin_1_l1, show decide ((([] : Rows).length : Int) > 0) = false from rfl, cond_false, m_impl_MergeJoin_1_j1, cond_false, clo_end hn hj]; rfl
  | q :: R, f, hn, hj, hf => by
    obtain ⟨f, rfl⟩ : ∃ g, f = g + 1 := ⟨f - 1, by omega⟩; rw [m_impl_MergeJoin_1_l1, decide_eq_true (by rw [List.length_cons]; omega), cond_true, show at? (q :: R) 0 = some q from at_of (k := 0) rfl, Option.bind_some, at_getD (hj q (by simp)), Option.bind_some, E_order, Option.bind_some, m_impl_MergeJoin_1_j1]; show (bif ltv j v q then _ else _) = _; unfold clo1; rw [List.dropWhile_cons]; cases e : ltv j v q
    · rw [cond_false, clo_end hn hj, if_neg (by simp)]
    · rw [cond_true, if_pos rfl]
      have hc : cut? (q :: R) (1 : Int) ((q :: R).length : Int) = some R := by
        have := cut_of (l := q :: R) (lo := 1) (hi := (q :: R).length) (by simp) (Nat.le_refl _); rw [List.take_length] at this; exact this
      rw [hc, Option.bind_some]; exact clo_l1 R f (by simp at hn; omega) (fun x hx => hj x (by simp [hx])) (by simp at hf; omega)
theorem E_clo {j : Nat} {v : V} {R : Rows} (hn : R.length ≤ 900000000) (hj : ∀ q ∈ R, j < q.length) : m_impl_MergeJoin_1 v R (j : Int) = some (clo1 j v R) := clo_l1 R _ hn hj (by omega)
theorem joins_l2 {j : Nat} {r : Row} {i : Nat} {k1 : Int → Int → Int → Rows → Int → Int → Rows → Rows → Option (Rows × Rows)} {a j2 x16 : Int} {x o0 : Rows} (hi : i < r.length) (hr : r.length ≤ 400000000) : ∀ (l M : Rows) (k f : Nat) (out : Rows), M.drop k = l → k ≤ M.length → l.length < f → M.length ≤ 900000000 → out.length + l.length ≤ 900000000 → (∀ q ∈ M, j < q.length ∧ q.length ≤ 400000000) →
    m_impl_joins_w_l2 k1 f (i : Int) j2 (j : Int) r x a x16 M (M.length : Int) (k : Int) o0 out = m_impl_joins_w_j2 k1 (i : Int) j2 (j : Int) x a x16 o0 (out ++ (l.filter (eqv j (r.getD i v0))).map (r ++ ·)) := by
  intro l
  induction l with
  | nil =>
    intro M k f out h1 h2 h3 h4 h5 h6; obtain ⟨f, rfl⟩ : ∃ g, f = g + 1 := ⟨f - 1, by omega⟩; have : M.length ≤ k := List.drop_eq_nil_iff.1 h1; rw [m_impl_joins_w_l2, decide_eq_false (by omega), cond_false, List.filter_nil, List.map_nil, List.append_nil]
  | cons q l ih =>
    intro M k f out h1 h2 h3 h4 h5 h6; obtain ⟨f, rfl⟩ : ∃ g, f = g + 1 := ⟨f - 1, by omega⟩; have hx : M[k]? = some q := by rw [← List.head?_drop, h1]; rfl
    have hk := lt_of_at hx; obtain ⟨q1, q2⟩ := h6 q (List.mem_of_getElem? hx); have hd : M.drop (k + 1) = l := by rw [← List.tail_drop, h1]; rfl
    simp only [List.length_cons] at h3 h5; rw [m_impl_joins_w_l2, dlt hk, cond_true, at_of hx, Option.bind_some, at_getD q1, Option.bind_some, at_getD hi, Option.bind_some, List.filter_cons]; show (bif eqv j (r.getD i v0) q then _ else _) = _; cases e : eqv j (r.getD i v0) q
    · rw [cond_false, m_impl_joins_w_j1, ck1 (by omega), Option.bind_some, if_neg (by simp)]
      exact ih M (k + 1) f out hd hk (by omega) h4 (by omega) h6
    · rw [cond_true, E_besideW hr q2, Option.bind_some, app_of (by rw [List.length_singleton]; omega), Option.bind_some, m_impl_joins_w_j1, ck1 (by omega), Option.bind_some, if_pos rfl, List.map_cons]
      have := ih M (k + 1) f (out ++ [r ++ q]) hd hk (by omega) h4 (by rw [List.length_append, List.length_singleton]; omega) h6; rw [List.append_assoc, List.singleton_append] at this; exact this
theorem filter_tw {j : Nat} {v : V} : ∀ {l : Rows}, (l.takeWhile (eqv j v)).filter (eqv j v) = l.takeWhile (eqv j v)
  | [] => rfl
  | a :: l => by
    rw [List.takeWhile_cons]; cases e : eqv j v a
    · rfl
    · rw [if_pos rfl, List.filter_cons, e, if_pos rfl, filter_tw]
theorem prt1_len {y : Rows} {i j : Nat} {r : Row} : (prt1 y i j r).length ≤ y.length := by
  unfold prt1
  split
  · simp
  · rw [List.length_map]; exact List.length_filter_le _ _
theorem LJ_len {y : Rows} {i j : Nat} : ∀ {x : Rows}, (LJ x y i j).length ≤ x.length * y.length
  | [] => by simp [LJ]
  | r :: x => by
    have h1 := prt1_len (y := y) (i := i) (j := j) (r := r); have h2 := LJ_len (y := y) (i := i) (j := j) (x := x); show (prt1 y i j r ++ LJ x y i j).length ≤ _; rw [List.length_append, List.length_cons, Nat.succ_mul]; omega
def Less (i j : Nat) (P X : Rows) : Prop := ∀ q ∈ P, ∀ r ∈ X, vOrd (q.getD j v0) (r.getD i v0) < 0
theorem less_dw {i j : Nat} {P R X : Rows} {r : Row} (h : Less i j P (r :: X)) (hX : Asc i (r :: X)) : Less i j (P ++ R.takeWhile (ltv j (r.getD i v0))) (r :: X) := by
  intro q hq s hs; rcases List.mem_append.1 hq with hq | hq
  · exact h q hq s hs
  · have := (mem_tw hq).1
    unfold ltv at this; rw [decide_eq_true_eq] at this; rcases List.mem_cons.1 hs with rfl | hs
    · exact this
    · exact v_lt_le this (asc_le hX hs)
theorem joins_l1 {i j : Nat} {y : Rows} (hy : Asc j y) (hyl : y.length ≤ 10000) (hyr : ∀ q ∈ y, j < q.length ∧ q.length ≤ 400000000) : ∀ (l x : Rows) (k f : Nat) (P R out : Rows), x.drop k = l → k ≤ x.length → l.length < f → x.length ≤ 10000 → Asc i l → (∀ r ∈ x, i < r.length ∧ r.length ≤ 400000000) → y = P ++ R → Less i j P l → out.length + l.length * y.length ≤ 900000000 →
    ∃ R', m_impl_joins_w_l1 f (i : Int) (j : Int) (j : Int) x (x.length : Int) (k : Int) R out = some (out ++ LJ l y i j, R') := by
  intro l
  induction l with
  | nil =>
    intro x k f P R out h1 h2 h3 h4 h5 h6 h7 h8 h9; obtain ⟨f, rfl⟩ : ∃ g, f = g + 1 := ⟨f - 1, by omega⟩; have : x.length ≤ k := List.drop_eq_nil_iff.1 h1; refine ⟨R, ?_⟩; rw [m_impl_joins_w_l1, decide_eq_false (by omega), cond_false, m_impl_joins_w_j3]; show some (out, R) = some (out ++ [], R); rw [List.append_nil]
  | cons r l ih =>
    intro x k f P R out h1 h2 h3 h4 h5 h6 h7 h8 h9; obtain ⟨f, rfl⟩ : ∃ g, f = g + 1 := ⟨f - 1, by omega⟩; have hx : x[k]? = some r := by rw [← List.head?_drop, h1]; rfl
    have hk := lt_of_at hx; obtain ⟨r1, r2⟩ := h6 r (List.mem_of_getElem? hx); have hd : x.drop (k + 1) = l := by rw [← List.tail_drop, h1]; rfl
    have h9' : out.length + (l.length * y.length + y.length) ≤ 900000000 := by rw [List.length_cons, Nat.succ_mul] at h9; exact h9
    simp only [List.length_cons] at h3; have hRy : ∀ q ∈ R, q ∈ y := fun q hq => by rw [h7]; simp [hq]
    have hRl : R.length ≤ y.length := by rw [h7, List.length_append]; omega
    have hL : LJ (r :: l) y i j = prt1 y i j r ++ LJ l y i j := rfl; rw [m_impl_joins_w_l1, dlt hk, cond_true, at_of hx, Option.bind_some, at_getD r1, Option.bind_some]
    by_cases h0 : (r.getD i v0).Kind = 0
    · rw [show ((r.getD i v0).Kind == (0 : Int)) = true by rw [h0]; rfl, cond_true, m_impl_joins_w_j2, ck1 (by omega), Option.bind_some]
      obtain ⟨R', hR'⟩ := ih x (k + 1) f P R out hd hk (by omega) h4 (asc_tail h5) h6 h7 (fun q hq s hs => h8 q hq s (by simp [hs])) (by omega); refine ⟨R', ?_⟩; rw [hL, show prt1 y i j r = [] by unfold prt1; rw [if_pos h0], List.nil_append]; exact hR'
    · rw [beqF h0, cond_false, Option.bind_some, E_clo (by omega) (fun q hq => (hyr q (hRy q hq)).1), Option.bind_some]
      have hsub : ∀ q ∈ (R.dropWhile (ltv j (r.getD i v0))).takeWhile (eqv j (r.getD i v0)), q ∈ y := fun q hq => hRy q ((List.dropWhile_sublist _).mem ((List.takeWhile_sublist _).mem hq)); have hlen : ((R.dropWhile (ltv j (r.getD i v0))).takeWhile (eqv j (r.getD i v0))).length ≤ y.length := Nat.le_trans ((List.takeWhile_sublist _).length_le) (Nat.le_trans (List.dropWhile_sublist _).length_le hRl); have h2' := joins_l2 (k1 := m_impl_joins_w_l1 f) (a := (x.length : Int)) (j2 := (j : Int)) (x16 := (k : Int)) (x := x) (o0 := R.dropWhile (ltv j (r.getD i v0))) r1 r2 _ ((R.dropWhile (ltv j (r.getD i v0))).takeWhile (eqv j (r.getD i v0))) 0 ((((((R.dropWhile (ltv j (r.getD i v0))).takeWhile (eqv j (r.getD i v0))).length : Int) - (0 : Int)).toNat) + 1) out (List.drop_zero) (Nat.zero_le _) fuel0 (by omega) (by omega) (fun q hq => hyr q (hsub q hq)); unfold clo1
      dsimp only
      rw [show ((0 : Nat) : Int) = 0 from rfl] at h2'; rw [h2']; rw [filter_tw, m_impl_joins_w_j2, ck1 (by omega), Option.bind_some]
      have hAR : Asc j R := by
        unfold Asc at hy ⊢; rw [h7] at hy; exact hy.sublist (List.sublist_append_right _ _)
      have hf : y.filter (eqv j (r.getD i v0)) = (R.dropWhile (ltv j (r.getD i v0))).takeWhile (eqv j (r.getD i v0)) := by
        have := find_eq (v := r.getD i v0) (P := P) (R := R) (fun q hq => h8 q hq r (by simp)) hAR
        rwa [← h7] at this
      have hp : prt1 y i j r = (y.filter (eqv j (r.getD i v0))).map (r ++ ·) := by unfold prt1; rw [if_neg h0]
      obtain ⟨R', hR'⟩ := ih x (k + 1) f (P ++ R.takeWhile (ltv j (r.getD i v0))) (R.dropWhile (ltv j (r.getD i v0))) (out ++ ((R.dropWhile (ltv j (r.getD i v0))).takeWhile (eqv j (r.getD i v0))).map (r ++ ·)) hd hk (by omega) h4 (asc_tail h5) h6 (by rw [List.append_assoc, List.takeWhile_append_dropWhile]; exact h7)
        (fun q hq s hs => less_dw h8 h5 q hq s (by simp [hs])) (by rw [List.length_append, List.length_map]; omega)
      refine ⟨R', ?_⟩; rw [hL, hp, hf, ← List.append_assoc]; exact hR'
theorem E_joins_w {i j : Nat} {x y : Rows} (hx : Asc i x) (hy : Asc j y) (hxl : x.length ≤ 10000) (hyl : y.length ≤ 10000) (hxr : ∀ r ∈ x, i < r.length ∧ r.length ≤ 400000000) (hyr : ∀ q ∈ y, j < q.length ∧ q.length ≤ 400000000) : ∃ R, m_impl_joins_w x (i : Int) y (j : Int) (j : Int) = some (LJ x y i j, R) := by
  unfold m_impl_joins_w
  obtain ⟨R, h⟩ := joins_l1 hy hyl hyr x x 0 ((((x.length : Int) - (0 : Int)).toNat) + 1) [] y [] List.drop_zero (Nat.zero_le _) fuel0 hxl hx hxr rfl (fun q hq => by cases hq) (by
    have := Nat.mul_le_mul hxl hyl; rw [List.length_nil]; omega)
  exact ⟨R, by simpa using h⟩
theorem grp_l1 {i : Nat} {x : Rows} {p : Nat} {v : V} (hn : x.length ≤ 900000000) (hr : ∀ r ∈ x, i < r.length) (hp : p < x.length) (hv : x[p].getD i v0 = v) : ∀ (m k f : Nat), k + m = x.length → m < f → m_spec_l22Group_l1 f x (i : Int) (p : Int) (k : Int) = some ((k + ((x.drop k).takeWhile (eqv i v)).length : Nat) : Int) := by
  intro m
  induction m with
  | zero =>
    intro k f h1 h2; obtain ⟨f, rfl⟩ : ∃ g, f = g + 1 := ⟨f - 1, by omega⟩; rw [m_spec_l22Group_l1, decide_eq_false (by omega), cond_false, m_spec_l22Group_j1, cond_false, List.drop_eq_nil_of_le (by omega)]; rfl
  | succ m ih =>
    intro k f h1 h2; obtain ⟨f, rfl⟩ : ∃ g, f = g + 1 := ⟨f - 1, by omega⟩; have hk : k < x.length := by omega
    have hx : x[k]? = some x[k] := List.getElem?_eq_getElem hk; have hx2 : x[p]? = some x[p] := List.getElem?_eq_getElem hp; rw [m_spec_l22Group_l1, dlt hk, cond_true, at_of hx, Option.bind_some, at_getD (hr _ (List.getElem_mem hk)), Option.bind_some, at_of hx2, Option.bind_some, at_getD (hr _ (List.getElem_mem hp)), Option.bind_some, hv, m_spec_l22Group_j1, List.drop_eq_getElem_cons hk, List.takeWhile_cons]; show (bif eqv i v x[k] then _ else _) = _; cases e : eqv i v x[k]
    · rw [cond_false, if_neg (by simp)]; rfl
    · rw [cond_true, if_pos rfl, ck1 (by omega), Option.bind_some, List.length_cons, show k + (((x.drop (k + 1)).takeWhile (eqv i v)).length + 1) = k + 1 + ((x.drop (k + 1)).takeWhile (eqv i v)).length by omega]
      exact ih (k + 1) f (by omega) (by omega)
theorem E_grp {i : Nat} {x : Rows} {p : Nat} (hn : x.length ≤ 900000000) (hr : ∀ r ∈ x, i < r.length) (hp : p < x.length) : m_spec_l22Group x (i : Int) (p : Int) = some ((p + ((x.drop p).takeWhile (eqv i (x[p].getD i v0))).length : Nat) : Int) := by
  unfold m_spec_l22Group; exact grp_l1 hn hr hp rfl (x.length - p) p _ (by omega) (by omega)
theorem sm_l3 {i j : Int} {k1 : Int → Int → Rows → Rows → Int → Int → Rows → Option Rows} {k2 : Int → Int → Rows → Rows → Int → Int → Int → Int → Int → Int → Rows → Option Rows} {x y : Rows} {p q n pe : Int} {r : Row} {k : Nat} (hk : x[k]? = some r) (hr : r.length ≤ 400000000) (hyr : ∀ s ∈ y, s.length ≤ 400000000) : ∀ (B : Rows) (m qe f : Nat) (out : Rows), (y.drop m).take (qe - m) = B → B.length = qe - m → m ≤ qe → qe ≤ y.length → y.length ≤ 900000000 → B.length < f → out.length + B.length ≤ 900000000 →
    m_spec_MergeJoin_l3 k1 k2 f i j x y p q n pe (qe : Int) (k : Int) (m : Int) out = m_spec_MergeJoin_j3 k1 k2 i j x y p q n pe (qe : Int) (k : Int) (out ++ B.map (r ++ ·)) := by
  intro B
  induction B with
  | nil =>
    intro m qe f out h1 h2 h3 h4 h5 h6 h7; obtain ⟨f, rfl⟩ : ∃ g, f = g + 1 := ⟨f - 1, by omega⟩; simp only [List.length_nil] at h2; rw [m_spec_MergeJoin_l3, decide_eq_false (by omega), cond_false, List.map_nil, List.append_nil]
  | cons s B ih =>
    intro m qe f out h1 h2 h3 h4 h5 h6 h7; obtain ⟨f, rfl⟩ : ∃ g, f = g + 1 := ⟨f - 1, by omega⟩; simp only [List.length_cons] at h2 h6 h7; have hm : m < y.length := by omega
    have hd := List.drop_eq_getElem_cons hm
    have hs : y[m]? = some s := by
      rw [hd, show qe - m = (qe - (m + 1)) + 1 by omega, List.take_succ_cons] at h1; rw [List.getElem?_eq_getElem hm]; exact congrArg some (List.cons.inj h1).1
    have hB : (y.drop (m + 1)).take (qe - (m + 1)) = B := by
      rw [hd, show qe - m = (qe - (m + 1)) + 1 by omega, List.take_succ_cons] at h1; exact (List.cons.inj h1).2
    rw [m_spec_MergeJoin_l3, dlt (by omega), cond_true, at_of hk, Option.bind_some, at_of hs, Option.bind_some, E_l6JoinedW hr (hyr s (List.mem_of_getElem? hs)), Option.bind_some, app_of (by rw [List.length_singleton]; omega), Option.bind_some, ck1 (by omega), Option.bind_some, List.map_cons]; have := ih (m + 1) qe f (out ++ [r ++ s]) hB (by omega) (by omega) h4 h5 (by omega) (by rw [List.length_append, List.length_singleton]; omega); rw [List.append_assoc, List.singleton_append] at this; exact this
theorem sm_l2 {i j : Int} {k1 : Int → Int → Rows → Rows → Int → Int → Rows → Option Rows} {x y : Rows} {p n : Int} {q qe : Nat} {B : Rows} (hxr : ∀ s ∈ x, s.length ≤ 400000000) (hyr : ∀ s ∈ y, s.length ≤ 400000000) (hB : (y.drop q).take (qe - q) = B) (hBl : B.length = qe - q) (hq : q ≤ qe) (hqe : qe ≤ y.length) (hyl : y.length ≤ 10000) (hxl : x.length ≤ 10000) : ∀ (A : Rows) (k pe f : Nat) (out : Rows), (x.drop k).take (pe - k) = A → A.length = pe - k → k ≤ pe → pe ≤ x.length → A.length < f → out.length + A.length * B.length ≤ 900000000 →
    m_spec_MergeJoin_l2 k1 f i j x y p (q : Int) n (pe : Int) (qe : Int) (k : Int) out = m_spec_MergeJoin_j4 k1 i j x y p (q : Int) n (pe : Int) (qe : Int) (out ++ A.flatMap fun r => B.map (r ++ ·)) := by
  intro A
  induction A with
  | nil =>
    intro k pe f out h1 h2 h3 h4 h6 h7; obtain ⟨f, rfl⟩ : ∃ g, f = g + 1 := ⟨f - 1, by omega⟩; simp only [List.length_nil] at h2; rw [m_spec_MergeJoin_l2, decide_eq_false (by omega), cond_false, List.flatMap_nil, List.append_nil]
  | cons r A ih =>
    intro k pe f out h1 h2 h3 h4 h6 h7; obtain ⟨f, rfl⟩ : ∃ g, f = g + 1 := ⟨f - 1, by omega⟩; simp only [List.length_cons] at h2 h6; have h7' : out.length + (A.length * B.length + B.length) ≤ 900000000 := by rw [List.length_cons, Nat.succ_mul] at h7; exact h7
    have hm : k < x.length := by omega
    have hd := List.drop_eq_getElem_cons hm
    have hs : x[k]? = some r := by
      rw [hd, show pe - k = (pe - (k + 1)) + 1 by omega, List.take_succ_cons] at h1; rw [List.getElem?_eq_getElem hm]; exact congrArg some (List.cons.inj h1).1
    have hA : (x.drop (k + 1)).take (pe - (k + 1)) = A := by
      rw [hd, show pe - k = (pe - (k + 1)) + 1 by omega, List.take_succ_cons] at h1; exact (List.cons.inj h1).2
    rw [m_spec_MergeJoin_l2, dlt (by omega), cond_true, sm_l3 hs (hxr r (List.mem_of_getElem? hs)) hyr B q qe _ out hB hBl hq hqe (by omega) (by omega) (by omega), m_spec_MergeJoin_j3, ck1 (by omega), Option.bind_some, List.flatMap_cons]; have := ih (k + 1) pe f (out ++ B.map (r ++ ·)) hA (by omega) (by omega) h4 (by omega) (by rw [List.length_append, List.length_map]; omega); rw [List.append_assoc] at this; exact this
theorem LJ_grp {i j : Nat} {v : V} {B y : Rows} (hB : y.filter (eqv j v) = B) : ∀ {A : Rows}, (∀ r ∈ A, r.getD i v0 = v) → LJ A y i j = if v.Kind = 0 then [] else A.flatMap fun r => B.map (r ++ ·)
  | [], _ => by simp [LJ]
  | r :: A, h => by
    have h1 := LJ_grp hB (A := A) fun s hs => h s (by simp [hs]); have hr := h r (by simp); show prt1 y i j r ++ LJ A y i j = _; rw [h1]; unfold prt1; rw [hr, hB]
    split
    · rfl
    · rw [List.flatMap_cons]
theorem LJ_none {i j : Nat} {y : Rows} : ∀ {A : Rows}, (∀ r ∈ A, ∀ q ∈ y, q.getD j v0 ≠ r.getD i v0) → LJ A y i j = []
  | [], _ => rfl
  | r :: A, h => by
    have h1 := LJ_none (A := A) fun s hs => h s (by simp [hs]); show prt1 y i j r ++ LJ A y i j = _; rw [h1]; unfold prt1; rw [none_eq (h r (by simp))]
    split <;> rfl
theorem take_app_drop {α : Type} {l : List α} {n m : Nat} : l.take (n + m) = l.take n ++ (l.drop n).take m := List.take_add
theorem sm_l1 {i j : Nat} {x y : Rows} (hx : Asc i x) (hy : Asc j y) (hxl : x.length ≤ 10000) (hyl : y.length ≤ 10000) (hxr : ∀ r ∈ x, i < r.length ∧ rSm r ∧ vOk (r.getD i v0) = true) (hyr : ∀ q ∈ y, j < q.length ∧ rSm q ∧ vOk (q.getD j v0) = true) : ∀ (m p q f : Nat) (out : Rows), (x.length - p) + (y.length - q) ≤ m → m < f → p ≤ x.length → q ≤ y.length → Less i j (y.take q) (x.drop p) → out.length + (x.length - p) * y.length ≤ 900000000 →
    m_spec_MergeJoin_l1 f (i : Int) (j : Int) x y (p : Int) (q : Int) out = some (out ++ LJ (x.drop p) y i j) := by
  have hxs : ∀ s ∈ x, s.length ≤ 400000000 := fun s hs => by have := (hxr s hs).2.1.1; omega
  have hys : ∀ s ∈ y, s.length ≤ 400000000 := fun s hs => by have := (hyr s hs).2.1.1; omega
  intro m
  induction m with
  | zero =>
    intro p q f out h1 h2 h3 h4 h5 h6; obtain ⟨f, rfl⟩ : ∃ g, f = g + 1 := ⟨f - 1, by omega⟩; rw [m_spec_MergeJoin_l1, decide_eq_false (by omega), cond_false, m_spec_MergeJoin_j1, cond_false, m_spec_MergeJoin_j6, List.drop_eq_nil_of_le (by omega)]; show some out = some (out ++ []); rw [List.append_nil]
  | succ m ih =>
    intro p q f out h1 h2 h3 h4 h5 h6; obtain ⟨f, rfl⟩ : ∃ g, f = g + 1 := ⟨f - 1, by omega⟩
    by_cases hp : p < x.length
    · by_cases hq : q < y.length
      · have hX : x[p]? = some x[p] := List.getElem?_eq_getElem hp
        have hY : y[q]? = some y[q] := List.getElem?_eq_getElem hq; obtain ⟨a1, a2, a3⟩ := hxr _ (List.getElem_mem hp); obtain ⟨b1, b2, b3⟩ := hyr _ (List.getElem_mem hq); have hxd := List.drop_eq_getElem_cons hp; have hyd := List.drop_eq_getElem_cons hq; have hAX := asc_drop hx p; have hAY := asc_drop hy q; generalize hra : x[p] = ra at *; generalize hsb : y[q] = sb at *
        have hXge : ∀ r ∈ x.drop p, vOrd (ra.getD i v0) (r.getD i v0) ≤ 0 := by
          intro r hr; rw [hxd] at hr hAX; rcases List.mem_cons.1 hr with rfl | hr
          · have := (TO_value.eq0 (r.getD i v0) (r.getD i v0)).2 rfl; omega
          · exact asc_le hAX hr
        have hYge : ∀ r ∈ y.drop q, vOrd (sb.getD j v0) (r.getD j v0) ≤ 0 := by
          intro r hr; rw [hyd] at hr hAY; rcases List.mem_cons.1 hr with rfl | hr
          · have := (TO_value.eq0 (r.getD j v0) (r.getD j v0)).2 rfl; omega
          · exact asc_le hAY hr
        have hga : m_spec_l22Group x (i : Int) (p : Int) = some ((p + ((x.drop p).takeWhile (eqv i (ra.getD i v0))).length : Nat) : Int) := by
          have := E_grp (i := i) (x := x) (p := p) (by omega) (fun r hr => (hxr r hr).1) hp
          rwa [hra] at this
        have hgb : m_spec_l22Group y (j : Int) (q : Int) = some ((q + ((y.drop q).takeWhile (eqv j (sb.getD j v0))).length : Nat) : Int) := by
          have := E_grp (i := j) (x := y) (p := q) (by omega) (fun r hr => (hyr r hr).1) hq
          rwa [hsb] at this
        have hA1 : 0 < ((x.drop p).takeWhile (eqv i (ra.getD i v0))).length := by
          rw [hxd, List.takeWhile_cons, if_pos (by unfold eqv; exact decide_eq_true rfl), List.length_cons]; omega
        have hB1 : 0 < ((y.drop q).takeWhile (eqv j (sb.getD j v0))).length := by
          rw [hyd, List.takeWhile_cons, if_pos (by unfold eqv; exact decide_eq_true rfl), List.length_cons]; omega
        have hA2 : ((x.drop p).takeWhile (eqv i (ra.getD i v0))).length ≤ x.length - p := by have := tw_len (p := eqv i (ra.getD i v0)) (l := x.drop p); rw [List.length_drop] at this; exact this
        have hB2 : ((y.drop q).takeWhile (eqv j (sb.getD j v0))).length ≤ y.length - q := by have := tw_len (p := eqv j (sb.getD j v0)) (l := y.drop q); rw [List.length_drop] at this; exact this
        have hAm : ∀ r ∈ (x.drop p).takeWhile (eqv i (ra.getD i v0)), r.getD i v0 = ra.getD i v0 := fun r hr => of_decide_eq_true (mem_tw hr).1; have hBm : ∀ r ∈ (y.drop q).takeWhile (eqv j (sb.getD j v0)), r.getD j v0 = sb.getD j v0 := fun r hr => of_decide_eq_true (mem_tw hr).1
        have hXs : x.drop p = (x.drop p).takeWhile (eqv i (ra.getD i v0)) ++ x.drop (p + ((x.drop p).takeWhile (eqv i (ra.getD i v0))).length) := by
          rw [← List.drop_drop, tw_drop, List.takeWhile_append_dropWhile]
        have hX2 : ∀ r ∈ x.drop (p + ((x.drop p).takeWhile (eqv i (ra.getD i v0))).length), vOrd (ra.getD i v0) (r.getD i v0) < 0 := by
          rw [← List.drop_drop, tw_drop]; exact drop_gt hAX hXge
        have hTA : (x.drop p).take ((p + ((x.drop p).takeWhile (eqv i (ra.getD i v0))).length) - p) = (x.drop p).takeWhile (eqv i (ra.getD i v0)) := by rw [Nat.add_sub_cancel_left, tw_take]
        have hTB : (y.drop q).take ((q + ((y.drop q).takeWhile (eqv j (sb.getD j v0))).length) - q) = (y.drop q).takeWhile (eqv j (sb.getD j v0)) := by rw [Nat.add_sub_cancel_left, tw_take]
        have hyt : y.take (q + ((y.drop q).takeWhile (eqv j (sb.getD j v0))).length) = y.take q ++ (y.drop q).takeWhile (eqv j (sb.getD j v0)) := by rw [take_app_drop, tw_take]
        have hysp : y = y.take q ++ y.drop q := (List.take_append_drop q y).symm; have hraX : ra ∈ x.drop p := by rw [hxd]; simp
        have eA : LJ (x.drop p) y i j = LJ ((x.drop p).takeWhile (eqv i (ra.getD i v0))) y i j ++ LJ (x.drop (p + ((x.drop p).takeWhile (eqv i (ra.getD i v0))).length)) y i j := by
          conv => lhs; rw [hXs]
          exact LJ_app
        generalize hA : (x.drop p).takeWhile (eqv i (ra.getD i v0)) = A at *; generalize hB : (y.drop q).takeWhile (eqv j (sb.getD j v0)) = B at *; generalize hva : ra.getD i v0 = va at *; generalize hvb : sb.getD j v0 = vb at *; have hmul : (x.length - (p + A.length)) * y.length + A.length * y.length = (x.length - p) * y.length := by rw [← Nat.add_mul]; congr 1; omega
        have hAy : A.length * B.length ≤ A.length * y.length := Nat.mul_le_mul_left _ (by omega); rw [m_spec_MergeJoin_l1, dlt hp, cond_true, dlt hq, m_spec_MergeJoin_j1, cond_true, at_of hX, Option.bind_some, at_getD a1, Option.bind_some, at_of hY, Option.bind_some, at_getD b1, Option.bind_some, hva, hvb, E_ValueOrder (by rw [← hva]; exact a2.2 _ (getD_mem a1)) (by rw [← hvb]; exact b2.2 _ (getD_mem b1)), Option.bind_some, vv_ok a3 b3, hga, Option.bind_some, hgb, Option.bind_some, Option.bind_some, at_getD a1, Option.bind_some, hva]; have ant := TO_value.anti va vb; have ant2 := TO_value.anti vb va
        -- the next step
        have step : ∀ (o2 : Rows), o2.length + (x.length - p) * y.length ≤ 900000000 + A.length * y.length → (vOrd va vb = 0 → o2 = out ++ LJ A y i j ∧ out.length + (LJ A y i j).length + (x.length - (p + A.length)) * y.length ≤ 900000000) → (vOrd va vb ≠ 0 → o2 = out) → m_spec_MergeJoin_j4 (m_spec_MergeJoin_l1 f) (i : Int) (j : Int) x y (p : Int) (q : Int) (vOrd va vb) ((p + A.length : Nat) : Int) ((q + B.length : Nat) : Int) o2 = some (out ++ LJ (x.drop p) y i j) := by
          intro o2 _ hz hnz; unfold m_spec_MergeJoin_j4 m_spec_MergeJoin_j5; rcases Int.lt_trichotomy (vOrd va vb) 0 with hlt | heq | hgt
          · rw [decide_eq_true (by omega), cond_true, decide_eq_false (by omega), cond_false, hnz (by omega)]
            have e0 : LJ A y i j = [] := LJ_none fun r hr s hs => by
              rw [hAm r hr]; rw [hysp] at hs; rcases List.mem_append.1 hs with hs | hs
              · exact v_lt_ne (by rw [← hva]; exact h5 s hs ra hraX)
              · exact fun e => v_lt_ne (v_lt_le hlt (hYge s hs)) e.symm
            rw [ih (p + A.length) q f out (by omega) (by omega) (by omega) h4 (fun s hs r hr => h5 s hs r (by rw [hXs]; simp [hr])) (by omega), eA, e0, List.nil_append]
          · obtain ⟨hz1, hz2⟩ := hz heq
            rw [decide_eq_true (by omega), cond_true, decide_eq_true (by omega), cond_true, hz1]; have evb : va = vb := (TO_value.eq0 va vb).1 heq
            rw [ih (p + A.length) (q + B.length) f _ (by omega) (by omega) (by omega) (by omega) (fun s hs r hr => by
              rw [hyt] at hs; rcases List.mem_append.1 hs with hs | hs
              · exact h5 s hs r (by rw [hXs]; simp [hr])
              · rw [hBm s hs, ← evb]; exact hX2 r hr) (by rw [List.length_append]; omega), eA, List.append_assoc]
          · rw [decide_eq_false (by omega), cond_false, decide_eq_true (by omega), cond_true, hnz (by omega)]
            rw [ih p (q + B.length) f out (by omega) (by omega) h3 (by omega) (fun s hs r hr => by
              rw [hyt] at hs; rcases List.mem_append.1 hs with hs | hs
              · exact h5 s hs r hr
              · rw [hBm s hs]; exact v_lt_le (by omega) (hXge r hr)) h6]
        have lA : (LJ A y i j).length ≤ A.length * y.length := LJ_len
        by_cases heq : vOrd va vb = 0
        · have evb : va = vb := (TO_value.eq0 va vb).1 heq
          have hfB : y.filter (eqv j va) = B := by
            conv => lhs; rw [hysp]
            rw [List.filter_append, none_eq fun s hs => v_lt_ne (by rw [← hva]; exact h5 s hs ra hraX), List.nil_append, take_eq hAY (fun s hs => by rw [evb]; exact hYge s hs), evb, hB]
          have hLA := LJ_grp (i := i) (j := j) hfB (A := A) hAm; rw [heq, show ((0 : Int) == (0 : Int)) = true from rfl, cond_true]; unfold m_spec_MergeJoin_j2
          by_cases h0 : va.Kind = 0
          · rw [show (va.Kind != (0 : Int)) = false by simp [h0], cond_false]
            have := step out (by omega) (fun _ => ⟨by rw [hLA, if_pos h0, List.append_nil], by omega⟩) (fun h => absurd heq h)
            rwa [heq] at this
          · rw [show (va.Kind != (0 : Int)) = true by simp [h0], cond_true, sm_l2 hxs hys hTB (by omega) (by omega) (by omega) hyl hxl A p (p + A.length) _ out hTA (by omega) (by omega) (by omega) (by omega) (by omega)]
            have := step (out ++ A.flatMap fun r => B.map (r ++ ·)) (by
              rw [← (show LJ A y i j = A.flatMap fun r => B.map (r ++ ·) by rw [hLA, if_neg h0]), List.length_append]; omega) (fun _ => ⟨by rw [hLA, if_neg h0], by omega⟩) (fun h => absurd heq h)
            rwa [heq] at this
        · rw [show (vOrd va vb == (0 : Int)) = false by simp [heq], cond_false]
          unfold m_spec_MergeJoin_j2; rw [cond_false]; exact step out (by omega) (fun h => absurd h heq) (fun _ => rfl)
      · rw [m_spec_MergeJoin_l1, dlt hp, cond_true, decide_eq_false (by omega), m_spec_MergeJoin_j1, cond_false, m_spec_MergeJoin_j6]
        have e0 : LJ (x.drop p) y i j = [] := LJ_none fun r hr s hs => v_lt_ne (h5 s (by rw [List.take_of_length_le (by omega)]; exact hs) r hr); rw [e0, List.append_nil]
    · rw [m_spec_MergeJoin_l1, decide_eq_false (by omega), cond_false, m_spec_MergeJoin_j1, cond_false, m_spec_MergeJoin_j6, List.drop_eq_nil_of_le (by omega)]
      show some out = some (out ++ []); rw [List.append_nil]
def inN (n : Nat) (k : Int) : Bool := decide (0 ≤ k) && decide (k ≤ (n : Int) - 1)
def cz : Col := ⟨0, false⟩
def kEqv (ca cb : List Col) (i j : Int) : Bool := ((ca.getD i.toNat cz).Kind == (cb.getD j.toNat cz).Kind)
def sdOk (ca cb : List Col) (a b : Rows) : Bool := decide ((ca.length : Int) + (cb.length : Int) ≤ 4) && (decide ((a.length : Int) ≤ 30) && (decide ((b.length : Int) ≤ 30) && (rowsOk ca a && rowsOk cb b)))
def jOk (ca cb : List Col) (a b : Rows) (i j : Int) : Bool := sdOk ca cb a b && (inN ca.length i && (inN cb.length j && kEqv ca cb i j))
theorem at_in {α : Type} {l : List α} {n : Int} {d : α} (h : inN l.length n = true) : at? l n = some (l.getD n.toNat d) := by
  unfold inN at h; rw [Bool.and_eq_true, decide_eq_true_eq, decide_eq_true_eq] at h; have hl : n.toNat < l.length := by omega
  have := at_of (l := l) (k := n.toNat) (x := l.getD n.toNat d) (by rw [List.getD_eq_getElem?_getD, List.getElem?_eq_getElem hl]; rfl)
  rwa [Int.toNat_of_nonneg h.1] at this
theorem E_sidesW {ca cb : List Col} {a b : Rows} (la : ca.length ≤ 100000000) (lb : cb.length ≤ 100000000) (sa : rsSm a) (sb : rsSm b) : m_impl_sidesOk ca cb a b = some (sdOk ca cb a b) := by
  unfold m_impl_sidesOk m_impl_sidesOk_j1 sdOk; rw [E_impl_ColumnsOk (by omega), Option.bind_some]; cases h1 : colsOk ca with
  | false =>
    have : rowsOk ca a = false := by unfold rowsOk; rw [h1]; rfl
    rw [cond_false, this]; simp
  | true =>
    rw [cond_true, E_impl_ColumnsOk (by omega), Option.bind_some]; cases h2 : colsOk cb with
    | false =>
      have : rowsOk cb b = false := by unfold rowsOk; rw [h2]; rfl
      rw [cond_false, this]; simp
    | true =>
      rw [cond_true, ckI_of (by omega) (by omega), Option.bind_some, E_impl_RowsOk (by omega) sa, E_impl_RowsOk (by omega) sb, Option.bind_some, Option.bind_some]; cases decide ((ca.length : Int) + (cb.length : Int) ≤ 4) <;> cases decide ((a.length : Int) ≤ 30) <;> cases decide ((b.length : Int) ≤ 30) <;> cases rowsOk ca a <;> rfl
theorem E_joinOkW {ca cb : List Col} {a b : Rows} {i j : Int} (la : ca.length ≤ 100000000) (lb : cb.length ≤ 100000000) (sa : rsSm a) (sb : rsSm b) : m_impl_joinOk ca cb a b i j = some (jOk ca cb a b i j) := by
  unfold m_impl_joinOk m_impl_joinOk_j1 jOk; rw [E_sidesW la lb sa sb, Option.bind_some]; cases sdOk ca cb a b with
  | false => rfl
  | true =>
    rw [cond_true, ckI_of (by omega) (by omega), Option.bind_some, E_between, Option.bind_some, Bool.true_and]; show (bif inN ca.length i then _ else _) = _; cases hi : inN ca.length i with
    | false => rfl
    | true =>
      rw [cond_true, ckI_of (by omega) (by omega), Option.bind_some, E_between, Option.bind_some, Bool.true_and]; show (bif inN cb.length j then _ else _) = _; cases hj : inN cb.length j with
      | false => rfl
      | true => rw [cond_true, at_in (d := cz) hi, Option.bind_some, at_in (d := cz) hj, Option.bind_some]; rfl
theorem E_ReadyW {ca cb : List Col} {a b : Rows} {i j : Int} (la : ca.length ≤ 100000000) (lb : cb.length ≤ 100000000) (sa : rsSm a) (sb : rsSm b) : m_spec_l22Ready ca cb a b i j = some (jOk ca cb a b i j) := by
  unfold m_spec_l22Ready m_spec_l22Ready_j1 jOk sdOk; rw [E_spec_RowsOk (by omega) sa, Option.bind_some]; cases rowsOk ca a with
  | false => simp
  | true =>
    rw [cond_true, E_spec_RowsOk (by omega) sb, Option.bind_some]; cases rowsOk cb b with
    | false => simp
    | true =>
      rw [cond_true, ckI_of (by omega) (by omega), Option.bind_some, E_l1In, Option.bind_some]; show (bif inN ca.length i then _ else _) = _; cases hi : inN ca.length i with
      | false => simp
      | true =>
        rw [cond_true, ckI_of (by omega) (by omega), Option.bind_some, E_l1In, Option.bind_some]; show (bif inN cb.length j then _ else _) = _; cases hj : inN cb.length j with
        | false => simp
        | true =>
          rw [cond_true, at_in (d := cz) hi, Option.bind_some, at_in (d := cz) hj, Option.bind_some]; show (bif kEqv ca cb i j then _ else _) = _; cases kEqv ca cb i j with
          | false => simp
          | true =>
            rw [cond_true, ckI_of (by omega) (by omega), Option.bind_some]; cases decide ((ca.length : Int) + (cb.length : Int) ≤ 4) <;> cases decide ((a.length : Int) ≤ 30) <;> cases decide ((b.length : Int) ≤ 30) <;> rfl
theorem jOk_b {ca cb : List Col} {a b : Rows} {i j : Int} (h : jOk ca cb a b i j = true) : a.length ≤ 30 ∧ b.length ≤ 30 ∧ rowsOk ca a = true ∧ rowsOk cb b = true ∧ (0 ≤ i ∧ i < ca.length) ∧ (0 ≤ j ∧ j < cb.length) ∧ ca.length + cb.length ≤ 4 := by
  unfold jOk sdOk inN at h; simp only [Bool.and_eq_true, decide_eq_true_eq] at h; obtain ⟨⟨h1, h2, h3, h4, h5⟩, h6, h7, h8⟩ := h; exact ⟨by omega, by omega, h4, h5, by omega, by omega, by omega⟩
theorem jOk_row {ca : List Col} {a : Rows} {i : Nat} (h : rowsOk ca a = true) (hs : rsSm a) (hi : i < ca.length) {r : Row} (hr : r ∈ a) : i < r.length ∧ rSm r ∧ vOk (r.getD i v0) = true := by
  obtain ⟨h1, h2⟩ := rowsOk_fits h hr; have : i < r.length := by omega
  exact ⟨this, hs.2 r hr, vOk_getD h1 this⟩
theorem jOk_col {ca : List Col} {a : Rows} {i : Nat} (h : rowsOk ca a = true) (hs : rsSm a) (hi : i < ca.length) {r : Row} (hr : r ∈ byCol a i) : i < r.length ∧ rSm r ∧ vOk (r.getD i v0) = true := jOk_row h hs hi (isort_mem.1 hr)
def mjoin (ca cb : List Col) (a b : Rows) (i j : Int) : Rows := if jOk ca cb a b i j = true then LJ (byCol a i.toNat) (byCol b j.toNat) i.toNat j.toNat else []
theorem E_impl_MergeJoin {ca cb : List Col} {a b : Rows} {i j : Int} (la : ca.length ≤ 100000000) (lb : cb.length ≤ 100000000) (sa : rsSm a) (sb : rsSm b) (ha : jOk ca cb a b i j = true → m_impl_byColumn a i = some (byCol a i.toNat)) (hb : jOk ca cb a b i j = true → m_impl_byColumn b j = some (byCol b j.toNat)) : m_impl_MergeJoin ca cb a b i j = some (mjoin ca cb a b i j) := by
  unfold m_impl_MergeJoin mjoin; rw [E_joinOkW la lb sa sb, Option.bind_some]; cases hk : jOk ca cb a b i j with
  | false => rfl
  | true =>
    obtain ⟨k1, k2, k3, k4, k5, k6, k7⟩ := jOk_b hk; rw [Bool.not_true, cond_false, hb hk, Option.bind_some, ltE, ha hk, Option.bind_some, if_pos rfl]; have ei : ((i.toNat : Nat) : Int) = i := Int.toNat_of_nonneg k5.1; have ej : ((j.toNat : Nat) : Int) = j := Int.toNat_of_nonneg k6.1
    obtain ⟨R, hR⟩ := E_joins_w (i := i.toNat) (j := j.toNat) (x := byCol a i.toNat) (y := byCol b j.toNat) byCol_ord byCol_ord (by unfold byCol; rw [isort_len]; omega) (by unfold byCol; rw [isort_len]; omega)
      (fun r hr => by obtain ⟨g1, g2, _⟩ := jOk_col k3 sa (by omega) hr; exact ⟨g1, by have := g2.1; omega⟩) (fun r hr => by obtain ⟨g1, g2, _⟩ := jOk_col k4 sb (by omega) hr; exact ⟨g1, by have := g2.1; omega⟩)
    rw [ei, ej] at hR; rw [hR, Option.bind_some]
theorem E_spec_MergeJoin {ca cb : List Col} {a b : Rows} {i j : Int} (la : ca.length ≤ 100000000) (lb : cb.length ≤ 100000000) (sa : rsSm a) (sb : rsSm b) : m_spec_MergeJoin ca cb a b i j = some (mjoin ca cb a b i j) := by
  unfold m_spec_MergeJoin mjoin; rw [E_ReadyW la lb sa sb, Option.bind_some]; cases hk : jOk ca cb a b i j with
  | false => rfl
  | true =>
    obtain ⟨k1, k2, k3, k4, k5, k6, k7⟩ := jOk_b hk; rw [Bool.not_true, cond_false, E_spec_ByColumn (by omega) sa, Option.bind_some, E_spec_ByColumn (by omega) sb, Option.bind_some, if_pos ⟨k3, k5⟩, if_pos ⟨k4, k6⟩, if_pos rfl]; have ei : ((i.toNat : Nat) : Int) = i := Int.toNat_of_nonneg k5.1; have ej : ((j.toNat : Nat) : Int) = j := Int.toNat_of_nonneg k6.1; have l1 : (byCol a i.toNat).length = a.length := isort_len _ _; have l2 : (byCol b j.toNat).length = b.length := isort_len _ _
    have := sm_l1 (i := i.toNat) (j := j.toNat) (x := byCol a i.toNat) (y := byCol b j.toNat) byCol_ord byCol_ord (by omega) (by omega)
      (fun r hr => jOk_col k3 sa (by omega) hr) (fun r hr => jOk_col k4 sb (by omega) hr) (a.length + b.length) 0 0 1000000000 [] (by omega) (by omega) (Nat.zero_le _) (Nat.zero_le _) (fun q hq => by simp at hq) (by
        have := Nat.mul_le_mul k1 k2; rw [l1, l2, Nat.sub_zero, List.length_nil]; omega)
    rw [ei, ej, List.drop_zero, List.nil_append] at this; exact this
theorem E_byColumnS {rs : Rows} {i : Nat} (hs : rsSm rs) (hn : rs.length ≤ 100000) (hi : ∀ r ∈ rs, i < r.length) : m_impl_byColumn rs (i : Int) = some (byCol rs i) := by
  have tr : ∀ a b c : Row, colGt i a b = false → colGt i b c = false → colGt i a c = false := by
    intro x y z h1 h2; unfold colGt at *; rw [decide_eq_false_iff_not] at *; have a1 := TO_value.anti (y.getD i v0) (x.getD i v0); have a2 := TO_value.anti (z.getD i v0) (y.getD i v0); have a3 := TO_value.anti (z.getD i v0) (x.getD i v0); have := TO_value.le_trans (a := x.getD i v0) (b := y.getD i v0) (c := z.getD i v0) (by omega) (by omega); omega
  have hf : ∀ v, ∀ x ∈ rs, ∀ y ∈ rs, eqv i v x = true → eqv i v y = true → colGt i x y = false := by
    intro v x _ y _ h1 h2; unfold eqv at h1 h2; rw [decide_eq_true_eq] at h1 h2; unfold colGt; rw [h1, h2, decide_eq_false_iff_not]; have := (TO_value.eq0 v v).2 rfl; omega
  have hf2 := isort_st (f := fun v r => eqv i v r) (gt := colGt i) (l := rs) hf
  obtain ⟨o, h1, h2, h3⟩ := L_stab_slices_SortStableFunc_LLimpl_Value_Limpl_Value (l := rs) (p := fun b0_ b1_ => m_impl_byColumn_1 b0_ b1_ (i : Int)) (q := fun a b => vOrd (a.getD i v0) (b.getD i v0)) (f := fun v r => eqv i v r) hf hn
    (fun x hx y hy => by
      unfold m_impl_byColumn_1; simp only [at_getD (hi x hx), at_getD (hi y hy), Option.bind_some, E_order])
    (fun x _ y _ z _ => tr x y z)
    (fun x _ y _ h => by have a1 := TO_value.anti (y.getD i v0) (x.getD i v0); have a2 := TO_value.anti (x.getD i v0) (y.getD i v0); omega)
  have e : o = byCol rs i := by
    refine st_unique (key := fun r => r.getD i v0) (f := fun v r => eqv i v r) (gt := colGt i) (fun v x => by unfold eqv; rw [decide_eq_true_eq]) (by rw [h1.length_eq]; exact (isort_len _ _).symm) (fun v => (h1.st v).trans (hf2.st v).symm) h2 byCol_ord ?_ (fun x hx => h1.mem_iff.2 (isort_mem.1 hx)) ?_
    · intro x _ y _ k1 k2
      unfold colGt at k1 k2; rw [decide_eq_false_iff_not] at k1 k2; have a1 := TO_value.anti (y.getD i v0) (x.getD i v0); have a2 := TO_value.anti (x.getD i v0) (y.getD i v0); exact TO_value.le_antisymm (by omega) (by omega)
    · intro x
      unfold colGt; rw [decide_eq_false_iff_not]; have := (TO_value.eq0 (x.getD i v0) (x.getD i v0)).2 rfl; omega
  unfold m_impl_byColumn; rw [E_rowsCopy (by omega) (fun r hr => by have := (hs.2 r hr).1; omega), Option.bind_some, h3, Option.bind_some, lenQ_ok h1.length_eq, Option.bind_some, e]
theorem jOk_byCol {ca cb : List Col} {a b : Rows} {i j : Int} (sa : rsSm a) (sb : rsSm b) (hk : jOk ca cb a b i j = true) : m_impl_byColumn a i = some (byCol a i.toNat) ∧ m_impl_byColumn b j = some (byCol b j.toNat) := by
  obtain ⟨k1, k2, k3, k4, k5, k6, k7⟩ := jOk_b hk; have ei : ((i.toNat : Nat) : Int) = i := Int.toNat_of_nonneg k5.1; have ej : ((j.toNat : Nat) : Int) = j := Int.toNat_of_nonneg k6.1; have g1 := E_byColumnS (i := i.toNat) sa (by omega) (fun r hr => (jOk_row k3 sa (by omega) hr).1); have g2 := E_byColumnS (i := j.toNat) sb (by omega) (fun r hr => (jOk_row k4 sb (by omega) hr).1); rw [ei] at g1; rw [ej] at g2; exact ⟨g1, g2⟩
theorem E_impl_MergeJoinS {ca cb : List Col} {a b : Rows} {i j : Int} (la : ca.length ≤ 100000000) (lb : cb.length ≤ 100000000) (sa : rsSm a) (sb : rsSm b) : m_impl_MergeJoin ca cb a b i j = some (mjoin ca cb a b i j) :=
  E_impl_MergeJoin la lb sa sb (fun h => (jOk_byCol sa sb h).1) (fun h => (jOk_byCol sa sb h).2)
def mkC (c : Int) (_ : Col) : Col := ⟨c, ((c + 1).tmod 3 == (0 : Int))⟩
def wC (_ : Col) : Int := 2
theorem endC (c : Int) : ∀ l : List Col, endM wC c l = c + 2 * l.length
  | [] => by simp [endM]
  | x :: l => by rw [endM, endC (c + wC x) l, List.length_cons]; unfold wC; push_cast; omega
theorem E_markC {l : List Col} {k : Int} (hk : 0 ≤ k) (hB : k + 2 * l.length ≤ 1000000000000) : m_laws_markColumnS l k = some (k + 2 * l.length, markM mkC wC k l) := by
  unfold m_laws_markColumnS
  have := markLoop (mk := mkC) (w := wC) (B := 1000000000000) (ok := fun _ => True) (fun _ => by unfold wC; decide) (fun f c i o => m_laws_markColumnS_l1 f c i o) (fun f d x r c hd hc hB _ => by
    have hB' : c + 2 ≤ 1000000000000 := hB; rw [m_laws_markColumnS_l1, lt_at, cond_true, at_at, Option.bind_some, Option.bind_some, ltE, ckI_of (by omega) (by omega), Option.bind_some, remI, if_neg (by decide), Option.bind_some, Int.toNat_natCast, set_at, at_at, Option.bind_some, Option.bind_some, ltE, ckI_of (by omega) (by omega), Option.bind_some, ckI_of (by omega) (by omega), Option.bind_some, set_at]; unfold mkC wC; rw [show c + 1 + 1 = c + 2 by omega, show ((d.length : Int) + 1) = ((d.length + 1 : Nat) : Int) by omega]) (fun f c o => by rw [m_laws_markColumnS_l1, dnlt]; rfl) l [] k _ fuel0 (fun _ _ => trivial) hk (by rw [endC]; exact hB) (by simp only [List.length_nil]; omega)
  rw [endC] at this; exact this
theorem mjoin_ok {ca cb : List Col} {a b : Rows} {i j : Int} : (mjoin ca cb a b i j).length ≤ 900 ∧ ∀ r ∈ mjoin ca cb a b i j, rowOk r = true := by
  unfold mjoin
  split
  · rename_i hk
    obtain ⟨k1, k2, k3, k4, k5, k6, k7⟩ := jOk_b hk; have l1 : (byCol a i.toNat).length = a.length := isort_len _ _; have l2 : (byCol b j.toNat).length = b.length := isort_len _ _; refine ⟨?_, fun r hr => ?_⟩
    · have := LJ_len (x := byCol a i.toNat) (y := byCol b j.toNat) (i := i.toNat) (j := j.toNat)
      rw [l1, l2] at this; exact Nat.le_trans this (Nat.mul_le_mul k1 k2)
    · obtain ⟨p, hp, hr⟩ := List.mem_flatMap.1 hr
      unfold prt1 at hr
      split at hr
      · cases hr
      · obtain ⟨q, hq, rfl⟩ := List.mem_map.1 hr
        obtain ⟨p1, p2⟩ := rowsOk_fits k3 (isort_mem.1 hp); obtain ⟨q1, q2⟩ := rowsOk_fits k4 (isort_mem.1 (List.mem_filter.1 hq).1); obtain ⟨p3, p4⟩ := rowOkE_b p1; obtain ⟨q3, q4⟩ := rowOkE_b q1; unfold rowOk; rw [Bool.and_eq_true, decide_eq_true_eq, List.all_eq_true]; exact ⟨by rw [List.length_append]; omega, fun v hv => (List.mem_append.1 hv).elim (p4 v) (q4 v)⟩
  · exact ⟨by simp, by simp⟩
theorem pure_FnExactMergeJoin (a0 a1 : List S_laws_Column) (a2 a3 : List (List S_laws_Value)) (a4 a5 : Int) (b0 : B_list B_laws_Column a0) (b1 : B_list B_laws_Column a1) (b2 : B_list (B_list B_laws_Value) a2) (b3 : B_list (B_list B_laws_Value) a3) (b4 : B_int a4) (b5 : B_int a5) : m_laws_FnExactMergeJoin a0 a1 a2 a3 a4 a5 = some true := by
  unfold m_laws_FnExactMergeJoin; rw [sz_Llaws_Column b0 (by decide) (by decide), Option.bind_some]
  by_cases h0 : (wt_Llaws_Column a0 : Int) ≤ 1048576
  case neg => rw [szR_lt' h0, cond_true]
  rw [szR_lt h0, cond_false, szR_pos h0, sz_Llaws_Column b1 (by omega) (by omega), Option.bind_some]
  by_cases h1 : (wt_Llaws_Column a1 : Int) ≤ 1048576 - (wt_Llaws_Column a0 : Int)
  case neg => rw [szR_lt' h1, cond_true]
  rw [szR_lt h1, cond_false, szR_pos h1, sz_LLlaws_Value b2 (by omega) (by omega), Option.bind_some]
  by_cases h2 : (wt_LLlaws_Value a2 : Int) ≤ 1048576 - (wt_Llaws_Column a0 : Int) - (wt_Llaws_Column a1 : Int)
  case neg => rw [szR_lt' h2, cond_true]
  rw [szR_lt h2, cond_false, szR_pos h2, sz_LLlaws_Value b3 (by omega) (by omega), Option.bind_some]
  by_cases h3 : (wt_LLlaws_Value a3 : Int) ≤ 1048576 - (wt_Llaws_Column a0 : Int) - (wt_Llaws_Column a1 : Int) - (wt_LLlaws_Value a2 : Int)
  case neg => rw [szR_lt' h3, cond_true]
  rw [szR_lt h3, cond_false]; have hc0 : (cv_Llaws_Column a0).length ≤ 1100000 := by have := wt_Llaws_Column_len (l := a0); unfold cv_Llaws_Column; rw [List.length_map]; omega
  have hc1 : (cv_Llaws_Column a1).length ≤ 1100000 := by have := wt_Llaws_Column_len (l := a1); unfold cv_Llaws_Column; rw [List.length_map]; omega
  have s2 := smE_rows (l := a2) (by omega); have s3 := smE_rows (l := a3) (by omega); have l2 : (cv_LLlaws_Value a2).length ≤ 1100000 := by have := wt_LLlaws_Value_len (l := a2); unfold cv_LLlaws_Value; rw [List.length_map]; omega
  have l3 : (cv_LLlaws_Value a3).length ≤ 1100000 := by have := wt_LLlaws_Value_len (l := a3); unfold cv_LLlaws_Value; rw [List.length_map]; omega
  have t0 := to_Llaws_Column (a := a0) (by omega); have t1 := to_Llaws_Column (a := a1) (by omega); have t2 := to_LLlaws_Value (a := a2) (by omega); have t3 := to_LLlaws_Value (a := a3) (by omega); have w0 : wt_Limpl_Column (cv_Llaws_Column a0) ≤ 1048576 := by rw [wc_Llaws_Column]; omega
  have w1 : wt_Limpl_Column (cv_Llaws_Column a1) ≤ 1048576 := by rw [wc_Llaws_Column]; omega
  have w2 : wt_LLimpl_Value (cv_LLlaws_Value a2) ≤ 1048576 := by rw [wc_LLlaws_Value]; omega
  have w3 : wt_LLimpl_Value (cv_LLlaws_Value a3) ≤ 1048576 := by rw [wc_LLlaws_Value]; omega
  rw [t0, Option.bind_some, t1, Option.bind_some, t2, Option.bind_some, t3, Option.bind_some]; generalize cv_Llaws_Column a0 = ca at *; generalize cv_Llaws_Column a1 = cb at *; generalize cv_LLlaws_Value a2 = R at *; generalize cv_LLlaws_Value a3 = S at *; have eC := E_impl_MergeJoinS (ca := ca) (cb := cb) (a := R) (b := S) (i := a4) (j := a5) (by omega) (by omega) s2 s3; have eS := E_spec_MergeJoin (ca := ca) (cb := cb) (a := R) (b := S) (i := a4) (j := a5) (by omega) (by omega) s2 s3; obtain ⟨hC, hCk⟩ := mjoin_ok (ca := ca) (cb := cb) (a := R) (b := S) (i := a4) (j := a5); generalize mjoin ca cb R S a4 a5 = C at *; have hw := wt_rows5 (l := C) (by omega) hCk; have hB := endR_w 1 C; have eqC : m_laws_eqValueSS C C = some true := by rw [eq_LLimpl_Value (by omega)]; exact congrArg some (decide_eq_true rfl)
  have eqR : m_laws_eqValueSS R R = some true := by rw [eq_LLimpl_Value (by omega)]; exact congrArg some (decide_eq_true rfl)
  have eqS : m_laws_eqValueSS S S = some true := by rw [eq_LLimpl_Value (by omega)]; exact congrArg some (decide_eq_true rfl)
  have eqa : m_laws_eqColumnS ca ca = some true := by rw [eq_Limpl_Column (by omega)]; exact congrArg some (decide_eq_true rfl)
  have eqb : m_laws_eqColumnS cb cb = some true := by rw [eq_Limpl_Column (by omega)]; exact congrArg some (decide_eq_true rfl)
  have hB2 := endR_w (1 + 2 * ca.length + 2 * cb.length) R; have hg2 := endM_ge (w := wR) (fun x => by unfold wR; omega) (1 + 2 * (ca.length : Int) + 2 * (cb.length : Int)) R; have hB3 := endR_w (endM wR (1 + 2 * ca.length + 2 * cb.length) R) S; have hg3 := endM_ge (w := wR) (fun x => by unfold wR; omega) (endM wR (1 + 2 * (ca.length : Int) + 2 * (cb.length : Int)) R) S; have hg1 := endM_ge (w := wR) (fun x => by unfold wR; omega) 1 C; rw [eS, Option.bind_some, Option.bind_some, Option.bind_some, Option.bind_some, Option.bind_some, eC, Option.bind_some, eqC, Option.bind_some, Bool.not_true, cond_false]; simp only [t0, t1, t2, t3, Option.bind_some, eqa, eqb, eqR, eqS, Bool.not_true, cond_false]; rw [E_markC (by omega) (by omega), Option.bind_some, lenQ_ok (markM_len _ _), Option.bind_some]; simp only []; rw [E_markC (by omega) (by omega), Option.bind_some, lenQ_ok (markM_len _ _), Option.bind_some]; simp only []; rw [E_markR (by omega) (by omega) (by omega), Option.bind_some, lenQ_ok (markM_len _ _), Option.bind_some]; simp only []; rw [E_markR (by omega) (by omega) (by omega), Option.bind_some, lenQ_ok (markM_len _ _), Option.bind_some]; simp only []; rw [decide_eq_false (by omega), cond_false]; unfold m_laws_FnExactMergeJoin_j1; rw [cond_false, E_markR (by omega) (by omega) (by omega), Option.bind_some, lenQ_ok (markM_len _ _), Option.bind_some]; simp only []; rw [E_heldR (by omega) (by omega) (by omega), Option.bind_some, decide_eq_false (by omega), cond_false, bne_self_eq_false, cond_false, t0, Option.bind_some, t1, Option.bind_some, t2, Option.bind_some, t3, Option.bind_some, eC, Option.bind_some, eqC, Option.bind_some, Bool.not_true, cond_false, Option.bind_some, decide_eq_false (by omega), cond_false, bne_self_eq_false, cond_false]
end Go.Proofs.Ytjmeoggmdnlicaa
