/- What the mirrors come to, in plain Lean: the law itself at the end. -/
import Derived.Test.YtjmeoggmdnlicaaXW5
import Derived.Test.YtjmeoggmdnlicaaLd
set_option linter.unusedVariables false
set_option linter.unusedSimpArgs false
set_option linter.unnecessarySimpa false
namespace Go.Proofs.Ytjmeoggmdnlicaa
open Go.Proofs Go.Lift
abbrev V := S_impl_Value
abbrev Row := List V
abbrev Rows := List Row
def cmpI (a b : Int) : Int := if a < b then -1 else if b < a then 1 else 0
def cmpS (a b : ByteArray) : Int := if sLt a b then -1 else if sLt a b || sEq a b then 0 else 1
def orI (l : List Int) : Int := (l.find? (· != 0)).getD 0
def lower (l : List UInt8) : Bool := l.all fun b => decide (97 ≤ b.toNat) && decide (b.toNat ≤ 122)
def vOk (v : V) : Bool :=
  if v.Kind = 0 then decide (v = ⟨0, 0, ⟨#[]⟩⟩)
  else if v.Kind = 1 then decide (v.S = ⟨#[]⟩) && (decide (-9999 ≤ v.N) && decide (v.N ≤ 9999))
  else if v.Kind = 2 then decide (v.N = 0) && decide (v.S.size ≤ 6) && lower v.S.data.toList
  else if v.Kind = 3 then decide (v.S = ⟨#[]⟩) && (decide (0 ≤ v.N) && decide (v.N ≤ 1))
  else false
def vOrd (v w : V) : Int := orI [cmpI v.Kind w.Kind, cmpI v.N w.N, cmpS v.S w.S]
def rowOk (l : Row) : Bool := decide (l.length ≤ 4) && l.all vOk
def vSm (v : V) : Prop := v.S.size ≤ 1100000
def rSm (l : Row) : Prop := l.length ≤ 1100000 ∧ ∀ v ∈ l, vSm v
def rsSm (l : Rows) : Prop := l.length ≤ 400000000 ∧ ∀ r ∈ l, rSm r
def cmpL {α : Type} (p : α → α → Int) : List α → List α → Int
  | [], [] => 0
  | [], _ :: _ => -1
  | _ :: _, [] => 1
  | a :: x, b :: y => if p a b = 0 then cmpL p x y else p a b
def vvOrd (a b : V) : Int := if vOk a && vOk b then vOrd a b else 0
theorem E_IndexFunc_V {l : Row} {p : V → Option Bool} {q : V → Bool} (hl : l.length ≤ 900000000) (hp : ∀ v ∈ l, p v = some (q v)) : m_slices_ContainsFunc_Limpl_Value_impl_Value l p = some (l.any q) := by
  unfold m_slices_ContainsFunc_Limpl_Value_impl_Value m_slices_IndexFunc_Limpl_Value_impl_Value
  have key : ∀ (ys : Row) (k n : Nat), l.drop k = ys → k ≤ l.length → ys.length < n → ∃ i : Int, m_slices_IndexFunc_Limpl_Value_impl_Value_l1 p n l (l.length : Int) (k : Int) = some i ∧ decide (i ≥ 0) = ys.any q := by
    intro ys
    induction ys with
    | nil =>
      intro k n hd hk hn
      have : k = l.length := by
        have := congrArg List.length hd; simp at this; omega
      subst this; obtain ⟨m, rfl⟩ : ∃ m, n = m + 1 := ⟨n - 1, by simp at hn; omega⟩; exact ⟨-1, by simp only [m_slices_IndexFunc_Limpl_Value_impl_Value_l1, dnlt]; rfl, rfl⟩
    | cons y ys ih =>
      intro k n hd hk hn
      have hlt : k < l.length := by
        have := congrArg List.length hd; simp at this; omega
      have hc := List.drop_eq_getElem_cons hlt; rw [hd] at hc; simp only [List.cons.injEq] at hc; have hx : l[k]? = some y := by rw [List.getElem?_eq_getElem hlt, hc.1]
      obtain ⟨m, rfl⟩ : ∃ m, n = m + 1 := ⟨n - 1, by simp at hn; omega⟩; simp only [m_slices_IndexFunc_Limpl_Value_impl_Value_l1, dlt hlt, at_of hx, hp y (List.mem_of_getElem? hx), ck1 (show k < 1000000000000 by omega), Option.bind_some, cond_true]; cases hq : q y
      · obtain ⟨i, h1, h2⟩ := ih (k + 1) m hc.2.symm (by omega) (by simp at hn; omega)
        exact ⟨i, by simpa using h1, by rw [h2]; simp [hq]⟩
      · exact ⟨(k : Int), rfl, by simp [hq]⟩
  obtain ⟨i, h1, h2⟩ := key l 0 _ rfl (by omega) (show l.length < (((l.length : Int) - 0).toNat + 1) by omega); rw [show ((0 : Nat) : Int) = 0 from rfl] at h1; rw [h1]; simp only [Option.bind_some, h2]
theorem E_between (a b c : Int) : m_impl_between a b c = some (decide (b ≤ a) && decide (a ≤ c)) := by
  unfold m_impl_between m_impl_between_j1
  by_cases h : a ≥ b <;> simp [h]
theorem E_l1In (a b c : Int) : m_spec_l1In a b c = some (decide (b ≤ a) && decide (a ≤ c)) := by
  unfold m_spec_l1In m_spec_l1In_j1
  by_cases h : a ≥ b <;> simp [h]
theorem lower_any (l : List UInt8) : lower l = !(l.any fun b => !(decide (97 ≤ (b.toNat : Int)) && decide ((b.toNat : Int) ≤ 122))) := by
  unfold lower; rw [List.all_eq_not_any_not]
  congr 2
  funext b
  congr 1
  have h1 : decide (97 ≤ b.toNat) = decide (97 ≤ (b.toNat : Int)) := by rw [decide_eq_decide]; omega
  have h2 : decide (b.toNat ≤ 122) = decide ((b.toNat : Int) ≤ 122) := by rw [decide_eq_decide]; omega
  rw [h1, h2]
theorem E_letters {s : ByteArray} (h : s.size ≤ 900000000) : m_impl_letters s = some (lower s.data.toList) := by
  unfold m_impl_letters sBytes?; rw [if_pos (by omega)]; simp only [Option.bind_some]; have hl : s.data.toList.length ≤ 900000000 := h
  have := scanA (p := fun b : UInt8 => !(decide (97 ≤ (b.toNat : Int)) && decide ((b.toNat : Int) ≤ 122))) (r0 := false) (r1 := true) s.data.toList (fun n k => m_impl_letters_l1 n s.data.toList (s.data.toList.length : Int) k) (fun n k x hx => by
    have := lt_of_at hx; simp only [m_impl_letters_l1, dlt this, at_of hx, E_between, ck1 (show k < 1000000000000 by omega), Option.bind_some, cond_true]) (fun n => by simp only [m_impl_letters_l1, dnlt]; rfl) _ fuel0
  rw [this, lower_any]; cases s.data.toList.any fun b => !(decide (97 ≤ (b.toNat : Int)) && decide ((b.toNat : Int) ≤ 122)) <;> rfl
theorem sAt_of {s : ByteArray} {k : Nat} {x : UInt8} (h : s.data.toList[k]? = some x) : sAt? s (k : Int) = some x := by
  unfold sAt?; rw [if_pos (by omega)]; obtain ⟨h1, h2⟩ := List.getElem?_eq_some_iff.1 h; have hs : k < s.size := by have := h1; rwa [Array.length_toList] at this
  have : s[k]? = some (s[k]'hs) := by simp [hs]
  rw [Int.toNat_natCast, this]
  congr 1
theorem E_l1Text {s : ByteArray} (h : s.size ≤ 900000000) : m_spec_l1Text s = some (lower s.data.toList && decide (s.size ≤ 6)) := by
  unfold m_spec_l1Text; have hl : s.data.toList.length = s.size := rfl; rw [← hl]
  have := scanA (p := fun b : UInt8 => !(decide (97 ≤ (b.toNat : Int)) && decide ((b.toNat : Int) ≤ 122))) (r0 := false) (r1 := decide ((s.size : Int) ≤ 6)) s.data.toList (fun n k => m_spec_l1Text_l1 n s k) (fun n k x hx => by
    have := lt_of_at hx; have hd : decide ((k : Int) < (s.size : Int)) = true := by rw [← hl]; exact dlt this
    simp only [m_spec_l1Text_l1, m_spec_l1Text_j1, hd, sAt_of hx, ck1 (show k < 1000000000000 by omega), Option.bind_some, cond_true]; have e1 : ((97 : UInt8).toNat : Int) = 97 := rfl; have e2 : ((122 : UInt8).toNat : Int) = 122 := rfl; rw [e1, e2]
    by_cases h1 : (x.toNat : Int) < 97
    · have : ¬ (97 ≤ (x.toNat : Int)) := by omega
      simp [h1, this]
    · have h1' : 97 ≤ (x.toNat : Int) := by omega
      by_cases h2 : (x.toNat : Int) > 122
      · have : ¬ ((x.toNat : Int) ≤ 122) := by omega
        simp [h1, h2, this]
      · have : (x.toNat : Int) ≤ 122 := by omega
        simp [h1, h2, this, h1']) (fun n => by simp only [m_spec_l1Text_l1, hl, dnlt]; rfl) _ fuel0
  rw [this, lower_any]; have e : decide ((s.size : Int) ≤ 6) = decide (s.size ≤ 6) := by rw [decide_eq_decide]; omega
  rw [e]; cases s.data.toList.any fun b => !(decide (97 ≤ (b.toNat : Int)) && decide ((b.toNat : Int) ≤ 122)) <;> simp
theorem E_Value_ok {v : V} (h : v.S.size ≤ 900000000) : m_impl_Value_ok v = some (vOk v) := by
  unfold m_impl_Value_ok m_impl_Value_ok_j1 m_impl_Value_ok_j2 m_impl_Value_ok_j3 vOk; simp only [E_between, E_letters h, Option.bind_some, sEq_eq]
  by_cases h0 : v.Kind = 0
  · simp [h0]
  · by_cases h1 : v.Kind = 1
    · by_cases hs : v.S = ⟨#[]⟩ <;> simp [beqF h0, h0, h1, hs]
    · by_cases h2 : v.Kind = 2
      · by_cases hn : v.N = 0
        · by_cases hs : v.S.size ≤ 6
          · have : (v.S.size : Int) ≤ 6 := by omega
            simp [beqF h0, beqF h1, h0, h1, h2, hn, hs, this]
          · have : ¬ (v.S.size : Int) ≤ 6 := by omega
            simp [beqF h0, beqF h1, h0, h1, h2, hn, hs, this]
        · simp [beqF h0, beqF h1, h0, h1, h2, beqF hn, hn]
      · by_cases h3 : v.Kind = 3
        · by_cases hs : v.S = ⟨#[]⟩ <;> simp [beqF h0, beqF h1, beqF h2, h0, h1, h2, h3, hs]
        · simp [beqF h0, beqF h1, beqF h2, beqF h3, h0, h1, h2, h3]
theorem E_spec_ValueOk {v : V} (h : v.S.size ≤ 900000000) : m_spec_ValueOk v = some (vOk v) := by
  unfold m_spec_ValueOk m_spec_ValueOk_j1 m_spec_ValueOk_j2 m_spec_ValueOk_j3 m_spec_ValueOk_j4 vOk; simp only [E_l1In, E_l1Text h, Option.bind_some, sEq_eq]; obtain ⟨k, n, s⟩ := v; simp only [S_impl_Value.mk.injEq]
  by_cases h0 : k = 0
  · by_cases hn : n = 0
    · simp [h0, hn]
    · simp [h0, hn, beqF hn]
  · by_cases h1 : k = 1
    · by_cases hs : s = ⟨#[]⟩ <;> by_cases ha : -9999 ≤ n <;> by_cases hb : n ≤ 9999 <;> simp [beqF h0, h0, h1, hs, ha, hb]
    · by_cases h2 : k = 2
      · by_cases hn : n = 0
        · simp [beqF h0, beqF h1, h0, h1, h2, hn, Bool.and_comm]
        · simp [beqF h0, beqF h1, h0, h1, h2, beqF hn, hn]
      · by_cases h3 : k = 3
        · by_cases hs : s = ⟨#[]⟩ <;> by_cases ha : 0 ≤ n <;> by_cases hb : n ≤ 1 <;> simp [beqF h0, beqF h1, beqF h2, h0, h1, h2, h3, hs, ha, hb]
        · simp [beqF h0, beqF h1, beqF h2, beqF h3, h0, h1, h2, h3]
theorem E_impl_RowOk {l : Row} (h : rSm l) : m_impl_RowOk l = some (rowOk l) := by
  unfold m_impl_RowOk m_impl_RowOk_j1 rowOk; obtain ⟨h1, h2⟩ := h; rw [E_IndexFunc_V (q := fun v => !(vOk v)) (by omega) (fun v hv => by unfold m_impl_RowOk_1; rw [E_Value_ok (by have := h2 v hv; unfold vSm at this; omega)]; rfl)]; simp only [Option.bind_some]; rw [List.all_eq_not_any_not]
  by_cases h : l.length ≤ 4
  · have : (l.length : Int) ≤ 4 := by omega
    simp [h, this]
  · have : ¬ (l.length : Int) ≤ 4 := by omega
    simp [h, this]
theorem E_spec_RowOk {l : Row} (h : rSm l) : m_spec_RowOk l = some (rowOk l) := by
  unfold m_spec_RowOk rowOk; obtain ⟨h1, h2⟩ := h
  have := scanA (p := fun v => !(vOk v)) (r0 := false) (r1 := decide ((l.length : Int) ≤ 4)) l (fun n k => m_spec_RowOk_l1 n l k) (fun n k x hx => by
    have := lt_of_at hx; have hsm := h2 x (List.mem_of_getElem? hx); unfold vSm at hsm; simp only [m_spec_RowOk_l1, dlt this, at_of hx, E_spec_ValueOk (show x.S.size ≤ 900000000 by omega), ck1 (show k < 1000000000000 by omega), Option.bind_some, cond_true]) (fun n => by simp only [m_spec_RowOk_l1, dnlt]; rfl) _ fuel0
  rw [this, List.all_eq_not_any_not]; have e : decide ((l.length : Int) ≤ 4) = decide (l.length ≤ 4) := by rw [decide_eq_decide]; omega
  rw [e]; cases l.any fun v => !(vOk v) <;> simp
theorem E_CompareI (a b : Int) : m_cmp_Compare_int a b = some (cmpI a b) := by
  unfold m_cmp_Compare_int m_cmp_isNaN_int cmpI; have e : ∀ x : Int, (x != x) = false := fun x => by simp
  simp only [e, Option.bind_some, cond_false]
  by_cases h : a < b
  · simp [h]
  · by_cases h2 : a > b
    · simp [h, h2]
    · simp [h, h2]
theorem E_CompareS (a b : ByteArray) : m_cmp_Compare_string a b = some (cmpS a b) := by
  unfold m_cmp_Compare_string m_cmp_isNaN_string cmpS; have e : ∀ x : ByteArray, (!(sEq x x)) = false := fun x => by simp [sEq_eq]
  simp only [e, Option.bind_some, cond_false]; cases h1 : sLt a b <;> cases h2 : sEq a b <;> simp
theorem E_l1Cmp (a b : ByteArray) : m_spec_l1Cmp a b = some (cmpS a b) := by
  unfold m_spec_l1Cmp cmpS; cases h1 : sLt a b <;> cases h2 : sEq a b <;> simp
theorem E_Or {l : List Int} (h : l.length ≤ 900000000) : m_cmp_Or_int l = some (orI l) := by
  unfold m_cmp_Or_int
  rw [scanC l (fun n k (_ : Unit) => m_cmp_Or_int_l1 n 0 l (l.length : Int) k) (fun x s k => bif (x != 0) then some x else k s) (fun _ => some 0) (fun n k x s hx => by
    have := lt_of_at hx; rw [m_cmp_Or_int_l1, dlt this, cond_true, at_of hx, Option.bind_some, ck1 (show k < 1000000000000 by omega), Option.bind_some]) (fun n s => by rw [m_cmp_Or_int_l1, dnlt]; rfl) _ fuel0 ()]
  clear h; unfold orI
  induction l with
  | nil => rfl
  | cons x l ih =>
    simp only [foldC, List.find?_cons]; cases hx : (x != 0)
    · simpa using ih
    · rfl
theorem E_order (v w : V) : m_impl_Value_order v w = some (vOrd v w) := by
  unfold m_impl_Value_order vOrd; rw [E_CompareI, Option.bind_some, E_CompareI, Option.bind_some, E_CompareS, Option.bind_some, E_Or (by simp)]; rfl
def lessI (a b : Int) : Int := if a < b then 1 else 0
theorem E_Less (a b : Int) : m_spec_l1Less a b = some (lessI a b) := by
  unfold m_spec_l1Less lessI
  by_cases h : a < b <;> simp [h]
theorem less_b (a b : Int) : 0 ≤ lessI a b ∧ lessI a b ≤ 1 := by unfold lessI; split <;> omega
theorem orI_1 {x : Int} {l : List Int} (h : x ≠ 0) : orI (x :: l) = x := by simp [orI, h]
theorem orI_0 {l : List Int} : orI (0 :: l) = orI l := by simp [orI]
theorem cmpI_0 {a b : Int} : cmpI a b = 0 ↔ a = b := by unfold cmpI; split <;> (try split) <;> omega
theorem less_cmp {a b : Int} (h : a ≠ b) : 2 * lessI b a - 1 = cmpI a b := by unfold lessI cmpI; split <;> split <;> (try split) <;> omega
theorem E_ValueOrder {a b : V} (ha : vSm a) (hb : vSm b) : m_spec_ValueOrder a b = some (vvOrd a b) := by
  unfold m_spec_ValueOrder m_spec_ValueOrder_j1 vvOrd vOrd; unfold vSm at ha hb; rw [E_spec_ValueOk (by omega), Option.bind_some, E_spec_ValueOk (by omega), Option.bind_some]; cases vOk a
  · rfl
  cases vOk b
  · rfl
  simp only [Bool.not_true, cond_false, Bool.and_self, if_true, E_Less, E_l1Cmp, Option.bind_some]
  by_cases h1 : a.Kind = b.Kind
  · have : (a.Kind != b.Kind) = false := by simp [h1]
    rw [this, cond_false, cmpI_0.2 h1, orI_0]
    by_cases h2 : a.N = b.N
    · have : (a.N != b.N) = false := by simp [h2]
      rw [this, cond_false, cmpI_0.2 h2, orI_0]
      by_cases h3 : cmpS a.S b.S = 0
      · rw [h3, orI_0]; rfl
      · rw [orI_1 h3]
    · rw [beqF' h2, cond_true, orI_1 (by rw [ne_eq, cmpI_0]; exact h2), ← less_cmp h2]
      have := less_b b.N a.N; rw [ckI_of (by omega) (by omega), Option.bind_some, ckI_of (by omega) (by omega), Option.bind_some]
  · rw [beqF' h1, cond_true, orI_1 (by rw [ne_eq, cmpI_0]; exact h1), ← less_cmp h1]
    have := less_b b.Kind a.Kind; rw [ckI_of (by omega) (by omega), Option.bind_some, ckI_of (by omega) (by omega), Option.bind_some]
theorem E_clone {l : Row} (h : l.length ≤ 900000000) : m_impl_clone_impl_Value l = some l := by
  unfold m_impl_clone_impl_Value appN?; cases l with
  | nil => rfl
  | cons x l =>
    have e : (((x :: l).length : Int) == 0) = false := by simp; omega
    rw [e, cond_false, if_pos ⟨by simp, by omega⟩, Option.bind_some]; rfl
theorem foldl_snoc {α : Type} : ∀ (l a : List α), l.foldl (fun s x => s ++ [x]) a = a ++ l
  | [], a => by simp
  | x :: l, a => by rw [List.foldl_cons, foldl_snoc l]; simp
theorem E_rowsCopy {l : Rows} (h : l.length ≤ 900000000) (hr : ∀ r ∈ l, r.length ≤ 900000000) : m_impl_rowsCopy l = some l := by
  unfold m_impl_rowsCopy
  have := (scanF (f := fun (s : Rows) x => s ++ [x]) (J := fun s => some s) (fun k s => s.length = k) l (fun n k s => m_impl_rowsCopy_l1 n l (l.length : Int) k s) (fun n k x s hx hI => by
    have := lt_of_at hx; rw [m_impl_rowsCopy_l1, dlt this, cond_true, at_of hx, Option.bind_some, E_clone (hr x (List.mem_of_getElem? hx)), Option.bind_some, app_of (by simp; omega), Option.bind_some, ck1 (show k < 1000000000000 by omega), Option.bind_some]
    exact ⟨rfl, by simp [hI]⟩) (fun n s _ => by
      rw [m_impl_rowsCopy_l1, dnlt, cond_false]; unfold m_impl_rowsCopy_j1; rfl) _ fuel0 [] rfl).1
  rw [this, foldl_snoc]; rfl
theorem E_l3Own {l : Row} (h : l.length ≤ 900000000) : m_spec_l3Own l = some l := by
  unfold m_spec_l3Own; rw [app_of (by simp; omega)]; rfl
abbrev Rd := S_spec_l20Rd
def Rd.ok (o : Rd) : Prop := 0 ≤ o.p ∧ o.p ≤ 1000000000
structure TO {α : Type} (p : α → α → Int) : Prop where
  eq0 : ∀ a b, p a b = 0 ↔ a = b
  anti : ∀ a b, p a b < 0 ↔ 0 < p b a
  trans : ∀ a b c, p a b < 0 → p b c < 0 → p a c < 0
theorem TO.comap {α β : Type} {p : β → β → Int} (h : TO p) (f : α → β) (hf : ∀ a b, f a = f b → a = b) : TO fun a b => p (f a) (f b) where
  eq0 a b := ⟨fun e => hf a b ((h.eq0 _ _).1 e), fun e => (h.eq0 _ _).2 (by rw [e])⟩
  anti a b := h.anti _ _
  trans a b c := h.trans _ _ _
theorem TO.le_trans {α : Type} {p : α → α → Int} (h : TO p) {a b c : α} (h1 : p a b ≤ 0) (h2 : p b c ≤ 0) : p a c ≤ 0 := by
  rcases Int.lt_or_eq_of_le h1 with h1 | h1
  · rcases Int.lt_or_eq_of_le h2 with h2 | h2
    · exact Int.le_of_lt (h.trans _ _ _ h1 h2)
    · rw [← (h.eq0 _ _).1 h2]; omega
  · rw [(h.eq0 _ _).1 h1]; exact h2
theorem TO.total {α : Type} {p : α → α → Int} (h : TO p) (a b : α) : 0 < p a b ↔ p b a < 0 := (h.anti b a).symm
def lx (x y : Int) : Int := if x = 0 then y else x
theorem TO_int : TO cmpI where
  eq0 a b := by unfold cmpI; split <;> (try split) <;> omega
  anti a b := by unfold cmpI; split <;> split <;> (try split) <;> (try split) <;> omega
  trans a b c := by unfold cmpI; split <;> split <;> (try split) <;> (try split) <;> (try split) <;> omega
def cmpB : List UInt8 → List UInt8 → Int
  | [], [] => 0
  | [], _ :: _ => -1
  | _ :: _, [] => 1
  | a :: x, b :: y => lx (cmpI a.toNat b.toNat) (cmpB x y)
theorem cmpB_less : ∀ a b : List UInt8, (if Op.bytesLess a b then (-1 : Int) else if Op.bytesLess a b || a == b then 0 else 1) = cmpB a b
  | [], [] => rfl
  | [], _ :: _ => rfl
  | _ :: _, [] => rfl
  | a :: x, b :: y => by
    have ih := cmpB_less x y; simp only [cmpB, ← ih]; unfold lx cmpI; simp only [Op.bytesLess]; rcases Nat.lt_trichotomy a.toNat b.toNat with h | h | h
    · have h' : a < b := UInt8.lt_iff_toNat_lt.2 h
      have h2 : (a.toNat : Int) < b.toNat := by omega
      simp [h', h2]
    · have h' : a = b := UInt8.toNat_inj.1 h
      subst h'; simp
    · have h' : ¬ a < b := fun e => by have := UInt8.lt_iff_toNat_lt.1 e; omega
      have h2 : ¬ (a.toNat : Int) < b.toNat := by omega
      have h3 : (b.toNat : Int) < a.toNat := by omega
      have h4 : ¬ a = b := fun e => by rw [e] at h; omega
      simp [h', h2, h3, h4]
theorem TO_list {α : Type} {p : α → α → Int} (h : TO p) : TO (cmpL p) where
  eq0 := by
    intro a
    induction a with
    | nil => intro b; cases b <;> simp [cmpL]
    | cons x a ih =>
      intro b; cases b with
      | nil => simp [cmpL]
      | cons y b =>
        simp only [cmpL]
        split
        · rename_i e; rw [ih b, List.cons.injEq]; exact ⟨fun e2 => ⟨(h.eq0 _ _).1 e, e2⟩, fun e2 => e2.2⟩
        · rename_i e; rw [List.cons.injEq]; exact ⟨fun e2 => absurd e2 e, fun e2 => absurd ((h.eq0 _ _).2 e2.1) e⟩
  anti := by
    intro a
    induction a with
    | nil => intro b; cases b <;> simp [cmpL]
    | cons x a ih =>
      intro b; cases b with
      | nil => simp [cmpL]
      | cons y b =>
        simp only [cmpL]
        by_cases e : x = y
        · rw [if_pos ((h.eq0 _ _).2 e), if_pos ((h.eq0 _ _).2 e.symm)]; exact ih b
        · rw [if_neg (fun g => e ((h.eq0 _ _).1 g)), if_neg (fun g => e ((h.eq0 _ _).1 g).symm)]; exact h.anti x y
  trans := by
    intro a
    induction a with
    | nil => intro b c; cases b <;> cases c <;> simp [cmpL]
    | cons x a ih =>
      intro b c; cases b with
      | nil => simp [cmpL]
      | cons y b =>
        cases c with
        | nil => simp [cmpL]
        | cons z c =>
          simp only [cmpL]
          by_cases e1 : x = y
          · rw [if_pos ((h.eq0 _ _).2 e1), e1]
            by_cases e2 : y = z
            · rw [if_pos ((h.eq0 _ _).2 e2), if_pos ((h.eq0 _ _).2 e2)]; exact ih b c
            · rw [if_neg (fun g => e2 ((h.eq0 _ _).1 g)), if_neg (fun g => e2 ((h.eq0 _ _).1 g))]; exact fun _ g => g
          · rw [if_neg (fun g => e1 ((h.eq0 _ _).1 g))]
            by_cases e2 : y = z
            · rw [← e2, if_pos ((h.eq0 _ _).2 rfl), if_neg (fun g => e1 ((h.eq0 _ _).1 g))]; exact fun g _ => g
            · rw [if_neg (fun g => e2 ((h.eq0 _ _).1 g))]
              intro g1 g2; have := h.trans x y z g1 g2; rw [if_neg (by omega)]; exact this
theorem TO_byte : TO fun (a b : UInt8) => cmpI a.toNat b.toNat := TO_int.comap (fun b : UInt8 => (b.toNat : Int)) fun a b h => UInt8.toNat_inj.1 (by omega)
theorem cmpB_L : ∀ a b : List UInt8, cmpB a b = cmpL (fun (a b : UInt8) => cmpI a.toNat b.toNat) a b
  | [], [] => rfl
  | [], _ :: _ => rfl
  | _ :: _, [] => rfl
  | a :: x, b :: y => by simp only [cmpB, cmpL, lx, cmpB_L x y]
theorem TO_str : TO cmpS := by
  have h := (TO_list TO_byte).comap (fun s : ByteArray => s.data.toList) (fun a b h => ByteArray.ext (Array.toList_inj.1 h))
  have e : cmpS = fun a b : ByteArray => cmpL (fun (a b : UInt8) => cmpI a.toNat b.toNat) a.data.toList b.data.toList := by
    funext a b
    unfold cmpS sLt sEq; rw [ByteArray.toList_eq, ByteArray.toList_eq, cmpB_less, cmpB_L]
  rw [e]; exact h
theorem L_slices_IndexFunc_Limpl_Column_impl_Column {l : List S_impl_Column} {p : S_impl_Column → Option Bool} {q : S_impl_Column → Bool} (hl : l.length ≤ 900000000) (hp : ∀ v ∈ l, p v = some (q v)) : m_slices_IndexFunc_Limpl_Column_impl_Column l p = some (idxI q l) := by
  unfold m_slices_IndexFunc_Limpl_Column_impl_Column
  exact scanI (q := q) (g := fun i => some i) l (fun n k => m_slices_IndexFunc_Limpl_Column_impl_Column_l1 p n l (l.length : Int) k) (fun n k x hx => by
    have := lt_of_at hx; rw [m_slices_IndexFunc_Limpl_Column_impl_Column_l1, dlt this, cond_true]; simp only [at_of hx, Option.bind_some, hp x (List.mem_of_getElem? hx), ck1 (show k < 1000000000000 by omega)]) (fun n => by rw [m_slices_IndexFunc_Limpl_Column_impl_Column_l1, dnlt]; rfl) _ fuel0
theorem L_slices_ContainsFunc_Limpl_Column_impl_Column {l : List S_impl_Column} {p : S_impl_Column → Option Bool} {q : S_impl_Column → Bool} (hl : l.length ≤ 900000000) (hp : ∀ v ∈ l, p v = some (q v)) : m_slices_ContainsFunc_Limpl_Column_impl_Column l p = some (l.any q) := by
  unfold m_slices_ContainsFunc_Limpl_Column_impl_Column; rw [L_slices_IndexFunc_Limpl_Column_impl_Column hl hp, Option.bind_some, (idxI_ge q l).2.2]
theorem L_slices_IndexFunc_LLimpl_Value_Limpl_Value {l : List (List S_impl_Value)} {p : (List S_impl_Value) → Option Bool} {q : (List S_impl_Value) → Bool} (hl : l.length ≤ 900000000) (hp : ∀ v ∈ l, p v = some (q v)) : m_slices_IndexFunc_LLimpl_Value_Limpl_Value l p = some (idxI q l) := by
  unfold m_slices_IndexFunc_LLimpl_Value_Limpl_Value
  exact scanI (q := q) (g := fun i => some i) l (fun n k => m_slices_IndexFunc_LLimpl_Value_Limpl_Value_l1 p n l (l.length : Int) k) (fun n k x hx => by
    have := lt_of_at hx; rw [m_slices_IndexFunc_LLimpl_Value_Limpl_Value_l1, dlt this, cond_true]; simp only [at_of hx, Option.bind_some, hp x (List.mem_of_getElem? hx), ck1 (show k < 1000000000000 by omega)]) (fun n => by rw [m_slices_IndexFunc_LLimpl_Value_Limpl_Value_l1, dnlt]; rfl) _ fuel0
theorem L_slices_ContainsFunc_LLimpl_Value_Limpl_Value {l : List (List S_impl_Value)} {p : (List S_impl_Value) → Option Bool} {q : (List S_impl_Value) → Bool} (hl : l.length ≤ 900000000) (hp : ∀ v ∈ l, p v = some (q v)) : m_slices_ContainsFunc_LLimpl_Value_Limpl_Value l p = some (l.any q) := by
  unfold m_slices_ContainsFunc_LLimpl_Value_Limpl_Value; rw [L_slices_IndexFunc_LLimpl_Value_Limpl_Value hl hp, Option.bind_some, (idxI_ge q l).2.2]
theorem L_slices_Clone_Lint_int {l : List Int} (hl : l.length ≤ 900000000) : m_slices_Clone_Lint_int l = some l := by
  unfold m_slices_Clone_Lint_int; cases l with
  | nil => rfl
  | cons x l =>
    simp only [nilM, cond_false]; rw [app_of (by simp at hl ⊢; omega), Option.bind_some, List.nil_append]
theorem L_slices_IndexFunc_Lint_int {l : List Int} {p : Int → Option Bool} {q : Int → Bool} (hl : l.length ≤ 900000000) (hp : ∀ v ∈ l, p v = some (q v)) : m_slices_IndexFunc_Lint_int l p = some (idxI q l) := by
  unfold m_slices_IndexFunc_Lint_int
  exact scanI (q := q) (g := fun i => some i) l (fun n k => m_slices_IndexFunc_Lint_int_l1 p n l (l.length : Int) k) (fun n k x hx => by
    have := lt_of_at hx; rw [m_slices_IndexFunc_Lint_int_l1, dlt this, cond_true]; simp only [at_of hx, Option.bind_some, hp x (List.mem_of_getElem? hx), ck1 (show k < 1000000000000 by omega)]) (fun n => by rw [m_slices_IndexFunc_Lint_int_l1, dnlt]; rfl) _ fuel0
theorem L_slices_DeleteFunc_Lint_int {l : List Int} {p : Int → Option Bool} {q : Int → Bool} (hl : l.length ≤ 900000000) (hp : ∀ v ∈ l, p v = some (q v)) : m_slices_DeleteFunc_Lint_int l p = some (l.filter fun x => !q x) := by
  unfold m_slices_DeleteFunc_Lint_int; rw [L_slices_IndexFunc_Lint_int hl hp, Option.bind_some]; obtain ⟨h1, h2⟩ := idxI_spec (q := q) l; have hg := idxI_ge q l
  by_cases hn : idxI q l = -1
  · rw [hn, h1 hn]; rfl
  · obtain ⟨k, hk⟩ : ∃ k : Nat, idxI q l = k := ⟨(idxI q l).toNat, by omega⟩
    obtain ⟨a, b, x, c, d⟩ := h2 k hk; rw [hk, show ((k : Int) == -1) = false by rw [beq_eq_false_iff_ne]; omega, cond_false, ck1 (by omega), Option.bind_some, filter_take a b c d]
    obtain ⟨o', g1, g2, g3⟩ := delLoop (q := q) (F := fun w o => m_slices_DeleteFunc_Lint_int_j2 p (w : Int) o) (fun n w k o => m_slices_DeleteFunc_Lint_int_l1 p n (w : Int) (k : Int) o) l
      (fun n w k o y ho hw hy hly => by
        show m_slices_DeleteFunc_Lint_int_l1 p (n + 1) _ _ _ = _; have hlt := lt_of_at hy; rw [m_slices_DeleteFunc_Lint_int_l1, dlt hlt, cond_true, at_of hy, Option.bind_some, Option.bind_some, hp y (List.mem_of_getElem? hly), Option.bind_some]; unfold m_slices_DeleteFunc_Lint_int_j1; cases q y with
        | true => rw [Bool.not_true, cond_false, cond_false, ck1 (by omega), Option.bind_some]; rfl
        | false =>
          rw [Bool.not_false, cond_true, cond_true, at_of (List.getElem?_eq_getElem (show w < o.length by omega)), Option.bind_some, Option.bind_some, ltE, ck1 (by omega), Option.bind_some, ck1 (by omega), Option.bind_some, Int.toNat_natCast]; rfl)
      (fun n w o ho => by
        show m_slices_DeleteFunc_Lint_int_l1 p (n + 1) _ _ _ = _; rw [m_slices_DeleteFunc_Lint_int_l1, ho, dnlt, cond_false])
      (l.length - (k + 1)) (k + 1) k ((((l.length : Int) - ((k : Int) + 1)).toNat + 1)) l (by omega) (by omega) (by omega) rfl (fun _ _ => rfl)
    have g3' : m_slices_DeleteFunc_Lint_int_l1 p ((((l.length : Int) - ((k : Int) + 1)).toNat + 1)) (k : Int) ((k : Int) + 1) l = _ := g3; rw [g3']
    have hw : k + ((l.drop (k + 1)).filter fun x => !q x).length ≤ l.length := by
      have h3 : ((l.drop (k + 1)).filter fun x => !q x).length ≤ (l.drop (k + 1)).length := List.length_filter_le _ _; rw [List.length_drop] at h3; omega
    generalize k + ((l.drop (k + 1)).filter fun x => !q x).length = w at g2 hw ⊢; show m_slices_DeleteFunc_Lint_int_j2 p (w : Int) o' = _; unfold m_slices_DeleteFunc_Lint_int_j2; rw [rng_of (by omega), Option.bind_some, rng_of (by omega), Option.bind_some, Int.toNat_natCast, leN_of (by simp; omega), Option.bind_some]; rw [Nat.zero_add, List.take_take, Nat.min_self, g2]
theorem ltE {α β : Type} {x : α} {f : α → β} : lt x f = f x := rfl
theorem bneD {a b : Int} : (a != b) = !decide (a = b) := by by_cases h : a = b <;> simp [h]
theorem bneB {a b : Bool} : (a != b) = !decide (a = b) := by cases a <;> cases b <;> rfl
def wt_Llaws_Column (l : (List S_laws_Column)) : Nat := l.length
theorem wt_Llaws_Column_len {l : (List S_laws_Column)} : l.length ≤ wt_Llaws_Column l := by unfold wt_Llaws_Column; omega
theorem sz_Llaws_Column {a : (List S_laws_Column)} {left : Int} (hB : (B_list B_laws_Column) a) (h0 : 0 ≤ left) (h1 : left ≤ 1048576) : m_laws_szColumnS a left = some (szR left (wt_Llaws_Column a)) := by
  unfold m_laws_szColumnS wt_Llaws_Column; rw [ckSz' h0 h1 hB.1]; exact szE h0
def wt_laws_Value (v : S_laws_Value) : Nat := v.S.size
theorem sz_laws_Value {a : S_laws_Value} {left : Int} (hB : B_laws_Value a) (h0 : 0 ≤ left) (h1 : left ≤ 1048576) : m_laws_szValue a left = some (szR left (wt_laws_Value a)) := by
  unfold m_laws_szValue wt_laws_Value; unfold B_laws_Value at hB; rw [ckSz' h0 h1 hB.2.2]; exact szE h0
def wt_Llaws_Value (l : (List S_laws_Value)) : Nat := l.length + (l.map fun x => wt_laws_Value x).sum
theorem wt_Llaws_Value_len {l : (List S_laws_Value)} : l.length ≤ wt_Llaws_Value l := by unfold wt_Llaws_Value; omega
theorem wt_Llaws_Value_mem {l : (List S_laws_Value)} {x : S_laws_Value} (h : x ∈ l) : wt_laws_Value x ≤ wt_Llaws_Value l := by have := sum_mem (wt := fun x : S_laws_Value => wt_laws_Value x) h; unfold wt_Llaws_Value; omega
theorem sz_Llaws_Value {a : (List S_laws_Value)} {left : Int} (hB : (B_list B_laws_Value) a) (h0 : 0 ≤ left) (h1 : left ≤ 1048576) : m_laws_szValueS a left = some (szR left (wt_Llaws_Value a)) := by
  unfold m_laws_szValueS wt_Llaws_Value; rw [ckSz' h0 h1 hB.1]; refine szC (k := fun z => m_laws_szValueS_l1 (((a.length : Int) - (0 : Int)).toNat + 1) a z 0) h0 (fun e => ?_); refine szLoop0 (fun x => wt_laws_Value x) a (fun f z k => m_laws_szValueS_l1 f a z k) (fun f k z x hx hk h2 h3 => ?_) (fun f z => by rw [m_laws_szValueS_l1, dnlt]; rfl) (by omega) _ (szR_0 e) (szR_le h1); rw [m_laws_szValueS_l1, dlt (lt_of_at hx), cond_true, at_of hx, Option.bind_some, sz_laws_Value (hB.2 x (List.mem_of_getElem? hx)) h2 h3, Option.bind_some]; rw [ck1 (by omega)]; rfl
def wt_LLlaws_Value (l : (List (List S_laws_Value))) : Nat := l.length + (l.map fun x => wt_Llaws_Value x).sum
theorem wt_LLlaws_Value_len {l : (List (List S_laws_Value))} : l.length ≤ wt_LLlaws_Value l := by unfold wt_LLlaws_Value; omega
theorem wt_LLlaws_Value_mem {l : (List (List S_laws_Value))} {x : (List S_laws_Value)} (h : x ∈ l) : wt_Llaws_Value x ≤ wt_LLlaws_Value l := by have := sum_mem (wt := fun x : (List S_laws_Value) => wt_Llaws_Value x) h; unfold wt_LLlaws_Value; omega
theorem sz_LLlaws_Value {a : (List (List S_laws_Value))} {left : Int} (hB : (B_list (B_list B_laws_Value)) a) (h0 : 0 ≤ left) (h1 : left ≤ 1048576) : m_laws_szValueSS a left = some (szR left (wt_LLlaws_Value a)) := by
  unfold m_laws_szValueSS wt_LLlaws_Value; rw [ckSz' h0 h1 hB.1]; refine szC (k := fun z => m_laws_szValueSS_l1 (((a.length : Int) - (0 : Int)).toNat + 1) a z 0) h0 (fun e => ?_); refine szLoop0 (fun x => wt_Llaws_Value x) a (fun f z k => m_laws_szValueSS_l1 f a z k) (fun f k z x hx hk h2 h3 => ?_) (fun f z => by rw [m_laws_szValueSS_l1, dnlt]; rfl) (by omega) _ (szR_0 e) (szR_le h1); rw [m_laws_szValueSS_l1, dlt (lt_of_at hx), cond_true, at_of hx, Option.bind_some, sz_Llaws_Value (hB.2 x (List.mem_of_getElem? hx)) h2 h3, Option.bind_some]; rw [ck1 (by omega)]; rfl
def cv_laws_Column (v : S_laws_Column) : S_impl_Column := ⟨v.Kind, v.Empty⟩
theorem to_laws_Column {a : S_laws_Column} : m_laws_toColumn a = some (cv_laws_Column a) := by
  unfold m_laws_toColumn cv_laws_Column
  all_goals rfl
def cv_Llaws_Column (l : (List S_laws_Column)) : (List S_impl_Column) := l.map cv_laws_Column
theorem to_Llaws_Column {a : (List S_laws_Column)} (h : wt_Llaws_Column a ≤ 100000000000) : m_laws_toColumnS a = some (cv_Llaws_Column a) := by
  have hl : a.length ≤ 100000000000 := by have := wt_Llaws_Column_len (l := a); omega
  unfold m_laws_toColumnS cv_Llaws_Column; refine toLoop0 cv_laws_Column a _ (fun f k o => m_laws_toColumnS_l1 f a k o) (fun f k o x hx hk ho => ?_) (fun f o => by rw [m_laws_toColumnS_l1, dnlt]; rfl) (by omega); have hy := at_some (l := o) (k := k) (by have := lt_of_at hx; omega); rw [m_laws_toColumnS_l1, dlt (lt_of_at hx), cond_true, at_of hx, Option.bind_some, to_laws_Column, Option.bind_some, hy, Option.bind_some, Option.bind_some]
  try rw [ltE]
  rw [ck1 (by omega), Option.bind_some, Int.toNat_natCast]; rfl
def wt_Limpl_Column (l : (List S_impl_Column)) : Nat := l.length
theorem wt_Limpl_Column_len {l : (List S_impl_Column)} : l.length ≤ wt_Limpl_Column l := by unfold wt_Limpl_Column; omega
theorem wc_Llaws_Column {l : (List S_laws_Column)} : wt_Limpl_Column (cv_Llaws_Column l) = wt_Llaws_Column l := by
  unfold wt_Limpl_Column cv_Llaws_Column wt_Llaws_Column; rw [List.length_map]
def cv_laws_Value (v : S_laws_Value) : S_impl_Value := ⟨v.Kind, v.N, v.S⟩
theorem to_laws_Value {a : S_laws_Value} (h : wt_laws_Value a ≤ 100000000000) : m_laws_toValue a = some (cv_laws_Value a) := by
  unfold wt_laws_Value at h; unfold m_laws_toValue cv_laws_Value
  all_goals rfl
def wt_impl_Value (v : S_impl_Value) : Nat := v.S.size
theorem wc_laws_Value {v : S_laws_Value} : wt_impl_Value (cv_laws_Value v) = wt_laws_Value v := rfl
def cv_Llaws_Value (l : (List S_laws_Value)) : (List S_impl_Value) := l.map cv_laws_Value
theorem to_Llaws_Value {a : (List S_laws_Value)} (h : wt_Llaws_Value a ≤ 100000000000) : m_laws_toValueS a = some (cv_Llaws_Value a) := by
  have hl : a.length ≤ 100000000000 := by have := wt_Llaws_Value_len (l := a); omega
  unfold m_laws_toValueS cv_Llaws_Value; refine toLoop0 cv_laws_Value a _ (fun f k o => m_laws_toValueS_l1 f a k o) (fun f k o x hx hk ho => ?_) (fun f o => by rw [m_laws_toValueS_l1, dnlt]; rfl) (by omega); have hy := at_some (l := o) (k := k) (by have := lt_of_at hx; omega); rw [m_laws_toValueS_l1, dlt (lt_of_at hx), cond_true, at_of hx, Option.bind_some, to_laws_Value (by have := wt_Llaws_Value_mem (List.mem_of_getElem? hx); omega), Option.bind_some, hy, Option.bind_some, Option.bind_some]
  try rw [ltE]
  rw [ck1 (by omega), Option.bind_some, Int.toNat_natCast]; rfl
def wt_Limpl_Value (l : (List S_impl_Value)) : Nat := l.length + (l.map fun x => wt_impl_Value x).sum
theorem wt_Limpl_Value_len {l : (List S_impl_Value)} : l.length ≤ wt_Limpl_Value l := by unfold wt_Limpl_Value; omega
theorem wt_Limpl_Value_mem {l : (List S_impl_Value)} {x : S_impl_Value} (h : x ∈ l) : wt_impl_Value x ≤ wt_Limpl_Value l := by have := sum_mem (wt := fun x : S_impl_Value => wt_impl_Value x) h; unfold wt_Limpl_Value; omega
theorem wc_Llaws_Value {l : (List S_laws_Value)} : wt_Limpl_Value (cv_Llaws_Value l) = wt_Llaws_Value l := by
  unfold wt_Limpl_Value cv_Llaws_Value wt_Llaws_Value; rw [List.length_map, List.map_map]
  first | done | (congr 2; exact List.map_congr_left fun x _ => wc_laws_Value) | rfl
def cv_LLlaws_Value (l : (List (List S_laws_Value))) : (List (List S_impl_Value)) := l.map cv_Llaws_Value
theorem to_LLlaws_Value {a : (List (List S_laws_Value))} (h : wt_LLlaws_Value a ≤ 100000000000) : m_laws_toValueSS a = some (cv_LLlaws_Value a) := by
  have hl : a.length ≤ 100000000000 := by have := wt_LLlaws_Value_len (l := a); omega
  unfold m_laws_toValueSS cv_LLlaws_Value; refine toLoop0 cv_Llaws_Value a _ (fun f k o => m_laws_toValueSS_l1 f a k o) (fun f k o x hx hk ho => ?_) (fun f o => by rw [m_laws_toValueSS_l1, dnlt]; rfl) (by omega); have hy := at_some (l := o) (k := k) (by have := lt_of_at hx; omega); rw [m_laws_toValueSS_l1, dlt (lt_of_at hx), cond_true, at_of hx, Option.bind_some, to_Llaws_Value (by have := wt_LLlaws_Value_mem (List.mem_of_getElem? hx); omega), Option.bind_some, hy, Option.bind_some, Option.bind_some]
  try rw [ltE]
  rw [ck1 (by omega), Option.bind_some, Int.toNat_natCast]; rfl
def wt_LLimpl_Value (l : (List (List S_impl_Value))) : Nat := l.length + (l.map fun x => wt_Limpl_Value x).sum
theorem wt_LLimpl_Value_len {l : (List (List S_impl_Value))} : l.length ≤ wt_LLimpl_Value l := by unfold wt_LLimpl_Value; omega
theorem wt_LLimpl_Value_mem {l : (List (List S_impl_Value))} {x : (List S_impl_Value)} (h : x ∈ l) : wt_Limpl_Value x ≤ wt_LLimpl_Value l := by have := sum_mem (wt := fun x : (List S_impl_Value) => wt_Limpl_Value x) h; unfold wt_LLimpl_Value; omega
theorem wc_LLlaws_Value {l : (List (List S_laws_Value))} : wt_LLimpl_Value (cv_LLlaws_Value l) = wt_LLlaws_Value l := by
  unfold wt_LLimpl_Value cv_LLlaws_Value wt_LLlaws_Value; rw [List.length_map, List.map_map]
  first | done | (congr 2; exact List.map_congr_left fun x _ => wc_Llaws_Value) | rfl
def wt_Lint (l : (List Int)) : Nat := l.length
theorem wt_Lint_len {l : (List Int)} : l.length ≤ wt_Lint l := by unfold wt_Lint; omega
def cv_Lint (l : (List Int)) : (List Int) := l
theorem to_Lint {a : (List Int)} (h : wt_Lint a ≤ 100000000000) : m_laws_toIntS a = some (cv_Lint a) := by
  have hl : a.length ≤ 100000000000 := by have := wt_Lint_len (l := a); omega
  unfold m_laws_toIntS cv_Lint
  conv => rhs; rw [← List.map_id a]
  refine toLoop0 id a _ (fun f k o => m_laws_toIntS_l1 f a k o) (fun f k o x hx hk ho => ?_) (fun f o => by rw [m_laws_toIntS_l1, dnlt]; rfl) (by omega); have hy := at_some (l := o) (k := k) (by have := lt_of_at hx; omega); rw [m_laws_toIntS_l1, dlt (lt_of_at hx), cond_true, at_of hx, Option.bind_some, hy, Option.bind_some, Option.bind_some]
  try rw [ltE]
  rw [ck1 (by omega), Option.bind_some, Int.toNat_natCast]; rfl
theorem eq_impl_Value {a b : S_impl_Value} (h : wt_impl_Value a ≤ 100000000000) : m_laws_eqValue a b = some (decide (a = b)) := by
  unfold wt_impl_Value at h; unfold m_laws_eqValue; rw [bneD]
  by_cases g0 : a.Kind = b.Kind
  case neg => rw [decide_eq_false g0, Bool.not_false, cond_true, decide_eq_false (fun e => g0 (by rw [e]))]
  rw [decide_eq_true g0, Bool.not_true, cond_false]; rw [bneD]
  by_cases g1 : a.N = b.N
  case neg => rw [decide_eq_false g1, Bool.not_false, cond_true, decide_eq_false (fun e => g1 (by rw [e]))]
  rw [decide_eq_true g1, Bool.not_true, cond_false]; rw [sEq_eq]
  by_cases g2 : a.S = b.S
  case neg => rw [decide_eq_false g2, Bool.not_false, cond_true, decide_eq_false (fun e => g2 (by rw [e]))]
  rw [decide_eq_true g2, Bool.not_true, cond_false]; rw [decide_eq_true (show a = b by cases a; cases b; simp only at g0 g1 g2; subst g0 g1 g2; rfl)]
theorem eq_Limpl_Value {a b : (List S_impl_Value)} (h : wt_Limpl_Value a ≤ 100000000000) : m_laws_eqValueS a b = some (decide (a = b)) := by
  have hl : a.length ≤ 100000000000 := by have := wt_Limpl_Value_len (l := a); omega
  unfold m_laws_eqValueS; refine eqLoop a b (fun f k => m_laws_eqValueS_l1 f a b k) (fun f k x y hx hy hk => ?_) (fun f => by rw [m_laws_eqValueS_l1, dnlt]; rfl) (by omega); rw [m_laws_eqValueS_l1, dlt (lt_of_at hx), cond_true, at_of hx, Option.bind_some, at_of hy, Option.bind_some, eq_impl_Value (by have := wt_Limpl_Value_mem (List.mem_of_getElem? hx); omega), Option.bind_some, ck1 (by omega), Option.bind_some]; rfl
theorem eq_LLimpl_Value {a b : (List (List S_impl_Value))} (h : wt_LLimpl_Value a ≤ 100000000000) : m_laws_eqValueSS a b = some (decide (a = b)) := by
  have hl : a.length ≤ 100000000000 := by have := wt_LLimpl_Value_len (l := a); omega
  unfold m_laws_eqValueSS; refine eqLoop a b (fun f k => m_laws_eqValueSS_l1 f a b k) (fun f k x y hx hy hk => ?_) (fun f => by rw [m_laws_eqValueSS_l1, dnlt]; rfl) (by omega); rw [m_laws_eqValueSS_l1, dlt (lt_of_at hx), cond_true, at_of hx, Option.bind_some, at_of hy, Option.bind_some, eq_Limpl_Value (by have := wt_LLimpl_Value_mem (List.mem_of_getElem? hx); omega), Option.bind_some, ck1 (by omega), Option.bind_some]; rfl
theorem eq_impl_Column {a b : S_impl_Column} : m_laws_eqColumn a b = some (decide (a = b)) := by
  unfold m_laws_eqColumn; rw [bneD]
  by_cases g0 : a.Kind = b.Kind
  case neg => rw [decide_eq_false g0, Bool.not_false, cond_true, decide_eq_false (fun e => g0 (by rw [e]))]
  rw [decide_eq_true g0, Bool.not_true, cond_false]; rw [bneB]
  by_cases g1 : a.Empty = b.Empty
  case neg => rw [decide_eq_false g1, Bool.not_false, cond_true, decide_eq_false (fun e => g1 (by rw [e]))]
  rw [decide_eq_true g1, Bool.not_true, cond_false]; rw [decide_eq_true (show a = b by cases a; cases b; simp only at g0 g1; subst g0 g1; rfl)]
theorem eq_Limpl_Column {a b : (List S_impl_Column)} (h : wt_Limpl_Column a ≤ 100000000000) : m_laws_eqColumnS a b = some (decide (a = b)) := by
  have hl : a.length ≤ 100000000000 := by have := wt_Limpl_Column_len (l := a); omega
  unfold m_laws_eqColumnS; refine eqLoop a b (fun f k => m_laws_eqColumnS_l1 f a b k) (fun f k x y hx hy hk => ?_) (fun f => by rw [m_laws_eqColumnS_l1, dnlt]; rfl) (by omega); rw [m_laws_eqColumnS_l1, dlt (lt_of_at hx), cond_true, at_of hx, Option.bind_some, at_of hy, Option.bind_some, eq_impl_Column, Option.bind_some, ck1 (by omega), Option.bind_some]; rfl
theorem eq_Lint {a b : (List Int)} (h : wt_Lint a ≤ 100000000000) : m_laws_eqIntS a b = some (decide (a = b)) := by
  have hl : a.length ≤ 100000000000 := by have := wt_Lint_len (l := a); omega
  unfold m_laws_eqIntS; refine eqLoop a b (fun f k => m_laws_eqIntS_l1 f a b k) (fun f k x y hx hy hk => ?_) (fun f => by rw [m_laws_eqIntS_l1, dnlt]; rfl) (by omega); rw [m_laws_eqIntS_l1, dlt (lt_of_at hx), cond_true, at_of hx, Option.bind_some, at_of hy, Option.bind_some, bneD, ck1 (by omega), Option.bind_some]; rfl
abbrev Col := S_impl_Column
def colOk (c : Col) : Bool := decide (1 ≤ c.Kind) && decide (c.Kind ≤ 3)
def colsOk (cs : List Col) : Bool := decide (cs.length ≤ 4) && cs.all colOk
def vFit (v : V) (c : Col) : Bool := decide (v.Kind = c.Kind) || (decide (v.Kind = 0) && c.Empty)
def rowFits (cs : List Col) (r : Row) : Bool := colsOk cs && (rowOk r && (decide (r.length = cs.length) && all2 vFit r cs))
def rowsOk (cs : List Col) (rs : Rows) : Bool := colsOk cs && rs.all (rowFits cs)
theorem lenD (n m : Nat) : decide ((n : Int) ≤ (m : Int)) = decide (n ≤ m) := by rw [decide_eq_decide]; omega
theorem E_impl_ColumnsOk {cs : List Col} (h : cs.length ≤ 900000000) : m_impl_ColumnsOk cs = some (colsOk cs) := by
  unfold m_impl_ColumnsOk m_impl_ColumnsOk_j1 colsOk
  rw [L_slices_ContainsFunc_Limpl_Column_impl_Column (q := fun c => !(colOk c)) h (fun c _ => by unfold m_impl_ColumnsOk_1; rw [E_between]; rfl), Option.bind_some,
    show (4 : Int) = ((4 : Nat) : Int) from rfl, lenD, List.all_eq_not_any_not]
  cases decide (cs.length ≤ 4) <;> rfl
theorem E_spec_ColumnsOk {cs : List Col} (h : cs.length ≤ 900000000) : m_spec_ColumnsOk cs = some (colsOk cs) := by
  unfold m_spec_ColumnsOk colsOk
  rw [scanA (p := fun c => !(colOk c)) (r0 := false) (r1 := decide ((cs.length : Int) ≤ 4)) cs (fun n k => m_spec_ColumnsOk_l1 n cs k) (fun n k x hx => by
    have := lt_of_at hx; rw [m_spec_ColumnsOk_l1, dlt this, cond_true]; simp only [at_of hx, E_l1In, Option.bind_some, ck1 (show k < 1000000000000 by omega)]; rfl) (fun n => by rw [m_spec_ColumnsOk_l1, dnlt]; rfl) _ fuel0, List.all_eq_not_any_not, show (4 : Int) = ((4 : Nat) : Int) from rfl, lenD]
  cases cs.any fun c => !(colOk c) <;> simp
theorem E_impl_RowFits {cs : List Col} {r : Row} (h : cs.length ≤ 900000000) (hr : rSm r) : m_impl_RowFits cs r = some (rowFits cs r) := by
  unfold m_impl_RowFits rowFits; rw [E_impl_ColumnsOk h, Option.bind_some]; cases colsOk cs
  · rfl
  rw [Bool.not_true, cond_false, E_impl_RowOk hr, Option.bind_some]; cases rowOk r
  · rfl
  rw [Bool.not_true, cond_false]; unfold m_impl_RowFits_j1; rw [neN]
  by_cases hl : r.length = cs.length
  · rw [decide_eq_true hl, Bool.not_true, cond_false]
    simp only [Bool.true_and]
    exact scan2 (q := vFit) r cs hl (fun n k => m_impl_RowFits_l1 n cs r (r.length : Int) k) (fun n k x y hx hy => by
      have := lt_of_at hx; have hrl := hr.1; rw [m_impl_RowFits_l1, dlt this, cond_true]; simp only [at_of hx, at_of hy, Option.bind_some, Go.Lift.lt]; unfold m_impl_RowFits_j2; rw [ck1 (show k < 1000000000000 by omega), Option.bind_some]; unfold vFit; rw [neB, neB]; cases decide (x.Kind = y.Kind) <;> cases decide (x.Kind = 0) <;> cases y.Empty <;> rfl) (fun n => by rw [m_impl_RowFits_l1, dnlt]; rfl) _ fuel0
  · rw [decide_eq_false hl]; rfl
theorem E_spec_RowFits {cs : List Col} {r : Row} (h : cs.length ≤ 900000000) (hr : rSm r) : m_spec_RowFits cs r = some (rowFits cs r) := by
  unfold m_spec_RowFits rowFits; rw [E_spec_ColumnsOk h, Option.bind_some]; cases colsOk cs
  · rfl
  rw [Bool.not_true, cond_false, E_spec_RowOk hr, Option.bind_some]; cases rowOk r
  · rfl
  rw [Bool.not_true, cond_false]; unfold m_spec_RowFits_j1; rw [neN]
  by_cases hl : r.length = cs.length
  · rw [decide_eq_true hl, Bool.not_true, cond_false]
    simp only [Bool.true_and]
    exact scan2 (q := vFit) r cs hl (fun n k => m_spec_RowFits_l1 n cs r k) (fun n k x y hx hy => by
      have := lt_of_at hx; have hrl := hr.1; rw [m_spec_RowFits_l1, dlt this, cond_true]; simp only [at_of hx, at_of hy, Option.bind_some]; unfold m_spec_RowFits_j2; rw [ck1 (show k < 1000000000000 by omega), Option.bind_some]; unfold vFit; rw [neB, neB]; cases decide (x.Kind = y.Kind) <;> cases decide (x.Kind = 0) <;> cases y.Empty <;> rfl) (fun n => by rw [m_spec_RowFits_l1, dnlt]; rfl) _ fuel0
  · rw [decide_eq_false hl]; rfl
theorem E_impl_RowsOk {cs : List Col} {rs : Rows} (h : cs.length ≤ 900000000) (hr : rsSm rs) : m_impl_RowsOk cs rs = some (rowsOk cs rs) := by
  unfold m_impl_RowsOk m_impl_RowsOk_j1 rowsOk; obtain ⟨h1, h2⟩ := hr; rw [E_impl_ColumnsOk h, Option.bind_some, L_slices_ContainsFunc_LLimpl_Value_Limpl_Value (q := fun r => !(rowFits cs r)) (by omega) (fun r hr => by unfold m_impl_RowsOk_1; rw [E_impl_RowFits h (h2 r hr)]; rfl), Option.bind_some, List.all_eq_not_any_not]; cases colsOk cs <;> rfl
theorem E_spec_RowsOk {cs : List Col} {rs : Rows} (h : cs.length ≤ 900000000) (hr : rsSm rs) : m_spec_RowsOk cs rs = some (rowsOk cs rs) := by
  unfold m_spec_RowsOk rowsOk; obtain ⟨h1, h2⟩ := hr
  rw [scanA (p := fun r => !(rowFits cs r)) (r0 := false) (r1 := colsOk cs) rs (fun n k => m_spec_RowsOk_l1 n cs rs k) (fun n k x hx => by
    have := lt_of_at hx; rw [m_spec_RowsOk_l1, dlt this, cond_true]; simp only [at_of hx, E_spec_RowFits h (h2 x (List.mem_of_getElem? hx)), Option.bind_some, ck1 (show k < 1000000000000 by omega)]) (fun n => by
    rw [m_spec_RowsOk_l1, dnlt, cond_false]; unfold m_spec_RowsOk_j1; rw [E_spec_ColumnsOk h]; rfl) _ fuel0, List.all_eq_not_any_not]
  cases rs.any fun r => !(rowFits cs r) <;> cases colsOk cs <;> rfl
theorem rowsOk_fits {cs : List Col} {rs : Rows} (h : rowsOk cs rs = true) {r : Row} (hr : r ∈ rs) : rowOk r = true ∧ r.length = cs.length := by
  unfold rowsOk at h; rw [Bool.and_eq_true, List.all_eq_true] at h; have := h.2 r hr; unfold rowFits at this; simp only [Bool.and_eq_true, decide_eq_true_eq] at this; exact ⟨this.2.1, this.2.2.1⟩
def v0 : V := ⟨0, 0, ⟨#[]⟩⟩
def total (left : List Rows) : Nat := left.flatten.length
abbrev Pt := S_impl_Part
def takesN (p : Pt) : Nat := if p.Kind = 3 ∨ p.Kind = 4 ∨ p.Kind = 5 ∨ p.Kind = 6 then 2 else if p.Kind = 7 ∨ p.Kind = 8 then 1 else 0
theorem beqE {a b : Int} (h : a = b) : (a == b) = true := by simp [h]
theorem bneF {a b : Int} (h : a = b) : (a != b) = false := by simp [h]
theorem beqD {a b : Int} : (a == b) = decide (a = b) := by by_cases h : a = b <;> simp [h]
def vOf (t : Int) : V := if t = 0 ∨ t = 1 then ⟨3, t, ⟨#[]⟩⟩ else v0
def trOf (v : V) : Int := if vOk v then (if v.Kind = 0 then 2 else if v.Kind = 3 then v.N else -1) else -1
def tOk (a : Int) : Bool := decide (0 ≤ a) && decide (a ≤ 2)
def andT (a b : Int) : Int := if tOk a = true ∧ tOk b = true then (if a = 0 ∨ b = 0 then 0 else if a = 2 ∨ b = 2 then 2 else 1) else -1
def orT (a b : Int) : Int := if tOk a = true ∧ tOk b = true then (if a = 1 ∨ b = 1 then 1 else if a = 2 ∨ b = 2 then 2 else 0) else -1
def notT (a : Int) : Int := if a = 0 then 1 else if a = 1 then 0 else if a = 2 then 2 else -1
def cmpR (k o : Int) : Bool := if k = 1 then decide (o = 0) else if k = 2 then !decide (o = 0) else if k = 3 then decide (o < 0) else decide (o ≤ 0)
def cmpT (k : Int) (a b : V) : Int := if ((decide (1 ≤ k) && decide (k ≤ 4)) && (vOk a && vOk b)) = true then (if a.Kind = 0 ∨ b.Kind = 0 then 2 else if a.Kind = b.Kind then (if cmpR k (vOrd a b) = true then 1 else 0) else -1) else -1
theorem E_impl_Compare {k : Int} {a b : V} (ha : a.S.size ≤ 900000000) (hb : b.S.size ≤ 900000000) : m_impl_Compare k a b = some (cmpT k a b) := by
  unfold m_impl_Compare cmpT; have bad : m_impl_Compare_j1 k a b true = some (-1) := by unfold m_impl_Compare_j1; rfl
  rw [E_between, Option.bind_some, E_Value_ok ha, Option.bind_some, E_Value_ok hb, Option.bind_some]; cases hr : (decide (1 ≤ k) && decide (k ≤ 4)) with
  | false => rw [Bool.not_false, cond_true, bad]; rfl
  | true =>
    rw [Bool.not_true, cond_false]; cases hva : vOk a with
    | false => rw [Bool.not_false, cond_true, bad]; rfl
    | true =>
      rw [Bool.not_true, cond_false]; cases hvb : vOk b with
      | false => rw [Bool.not_false, bad]; rfl
      | true =>
        rw [Bool.not_true, if_pos (show (true && (true && true)) = true from rfl)]; unfold m_impl_Compare_j1 m_impl_Compare_j2; rw [cond_false]
        by_cases h0 : a.Kind = 0
        · rw [beqE h0, cond_true, cond_true, if_pos (.inl h0)]
        · rw [beqF h0, cond_false]
          by_cases h1 : b.Kind = 0
          · rw [beqE h1, cond_true, if_pos (.inr h1)]
          · rw [beqF h1, cond_false, if_neg (fun h => h.elim h0 h1)]
            by_cases h2 : a.Kind = b.Kind
            · rw [if_pos h2, show (a.Kind != b.Kind) = false by simp [h2], cond_false, E_order, Option.bind_some]
              generalize vOrd a b = o; simp at hr; have hk : k = 1 ∨ k = 2 ∨ k = 3 ∨ k = 4 := by omega
              have e0 : (o == 0) = decide (o = 0) := beqD; have e1 : (o != 0) = !decide (o = 0) := by by_cases h : o = 0 <;> simp [h]
              rw [e0, e1]; unfold cmpR; rcases hk with e | e | e | e <;> subst e
              · cases h : decide (o = 0) <;> rfl
              · cases h : decide (o = 0) <;> rfl
              · cases h : decide (o < 0) <;> rfl
              · cases h : decide (o ≤ 0) <;> rfl
            · rw [if_neg h2, beqF' h2, cond_true]
theorem E_spec_Compare {k : Int} {a b : V} (ha : vSm a) (hb : vSm b) : m_spec_Compare k a b = some (cmpT k a b) := by
  unfold m_spec_Compare cmpT; have ha' : a.S.size ≤ 900000000 := by unfold vSm at ha; omega
  have hb' : b.S.size ≤ 900000000 := by unfold vSm at hb; omega
  have bad : m_spec_Compare_j1 k a b true = some (-1) := by unfold m_spec_Compare_j1; rfl
  rw [E_l1In, Option.bind_some, E_spec_ValueOk ha', Option.bind_some, E_spec_ValueOk hb', Option.bind_some]; cases hr : (decide (1 ≤ k) && decide (k ≤ 4)) with
  | false => rw [Bool.not_false, cond_true, bad]; rfl
  | true =>
    rw [Bool.not_true, cond_false]; cases hva : vOk a with
    | false => rw [Bool.not_false, cond_true, bad]; rfl
    | true =>
      rw [Bool.not_true, cond_false]; cases hvb : vOk b with
      | false => rw [Bool.not_false, bad]; rfl
      | true =>
        rw [Bool.not_true, if_pos (show (true && (true && true)) = true from rfl)]; unfold m_spec_Compare_j1 m_spec_Compare_j2; rw [cond_false]
        by_cases h0 : a.Kind = 0
        · rw [beqE h0, cond_true, cond_true, if_pos (.inl h0)]
        · rw [beqF h0, cond_false]
          by_cases h1 : b.Kind = 0
          · rw [beqE h1, cond_true, if_pos (.inr h1)]
          · rw [beqF h1, cond_false, if_neg (fun h => h.elim h0 h1)]
            by_cases h2 : a.Kind = b.Kind
            · have ev : vvOrd a b = vOrd a b := by unfold vvOrd; rw [hva, hvb]; rfl
              rw [if_pos h2, show (a.Kind != b.Kind) = false by simp [h2], cond_false, E_ValueOrder ha hb, ev]; generalize vOrd a b = o; simp at hr; have hk : k = 1 ∨ k = 2 ∨ k = 3 ∨ k = 4 := by omega
              have e0 : (o == 0) = decide (o = 0) := beqD; have e1 : (o != 0) = !decide (o = 0) := by by_cases h : o = 0 <;> simp [h]
              rw [Option.bind_some, Option.bind_some, Option.bind_some, Option.bind_some, e0, e1]; unfold cmpR; rcases hk with e | e | e | e <;> subst e
              · cases h : decide (o = 0) <;> rfl
              · cases h : decide (o = 0) <;> rfl
              · cases h : decide (o < 0) <;> rfl
              · cases h : decide (o ≤ 0) <;> rfl
            · rw [if_neg h2, beqF' h2, cond_true]
def sumT (a b : V) : V := if (a.Kind = 0 ∨ b.Kind = 0) ∨ ¬ (-9999 ≤ a.N + b.N ∧ a.N + b.N ≤ 9999) then v0 else ⟨1, a.N + b.N, ⟨#[]⟩⟩
def valOf (row : Row) (p : Pt) (ins : List V) : V :=
  if p.Kind = 1 then p.V
  else if p.Kind = 2 then row.getD p.N.toNat v0
  else if p.Kind = 3 then sumT (ins.getD 0 v0) (ins.getD 1 v0)
  else if p.Kind = 4 then vOf (cmpT p.N (ins.getD 0 v0) (ins.getD 1 v0))
  else if p.Kind = 5 then vOf (andT (trOf (ins.getD 0 v0)) (trOf (ins.getD 1 v0)))
  else if p.Kind = 6 then vOf (orT (trOf (ins.getD 0 v0)) (trOf (ins.getD 1 v0)))
  else if p.Kind = 7 then vOf (notT (trOf (ins.getD 0 v0)))
  else vOf (if (ins.getD 0 v0).Kind = 0 then 1 else 0)
theorem vN {v : V} (h : vOk v = true) : (-9999 ≤ v.N ∧ v.N ≤ 9999) ∧ v.S.size ≤ 1000 := by
  unfold vOk at h
  by_cases h0 : v.Kind = 0
  · rw [if_pos h0] at h; have := of_decide_eq_true h; rw [this]; decide
  · by_cases h1 : v.Kind = 1
    · rw [if_neg h0, if_pos h1] at h; simp at h; rw [h.1]; exact ⟨⟨h.2.1, h.2.2⟩, by decide⟩
    · by_cases h2 : v.Kind = 2
      · rw [if_neg h0, if_neg h1, if_pos h2] at h; simp at h; exact ⟨by omega, by omega⟩
      · by_cases h3 : v.Kind = 3
        · rw [if_neg h0, if_neg h1, if_neg h2, if_pos h3] at h; simp at h; rw [h.1]; exact ⟨by omega, by decide⟩
        · rw [if_neg h0, if_neg h1, if_neg h2, if_neg h3] at h; cases h
theorem getD_of {α : Type} {l : List α} {k : Nat} {x d : α} (h : l[k]? = some x) : l.getD k d = x := by rw [List.getD_eq_getElem?_getD, h]; rfl
theorem at_z {α : Type} {l : List α} {i : Int} {x : α} (h0 : 0 ≤ i) (h : l[i.toNat]? = some x) : at? l i = some x := by
  have := at_of h
  rwa [Int.toNat_of_nonneg h0] at this
def inR (n : Nat) (k : Int) : Bool := decide (0 ≤ k) && decide (k ≤ (n : Int) - 1)
theorem inR_of {n : Nat} {k : Int} (h : inR n k = true) : 0 ≤ k ∧ k.toNat < n := by
  unfold inR at h; rw [Bool.and_eq_true, decide_eq_true_eq, decide_eq_true_eq] at h; omega
def vStep (row : Row) (st : List V) (p : Pt) : List V := st.take (st.length - takesN p) ++ [valOf row p (st.drop (st.length - takesN p))]
def exprVal (row : Row) (e : List Pt) : V := (e.foldl (vStep row) []).getD 0 v0
def tyV (v : V) (k : Int) : Prop := vOk v = true ∧ (v.Kind = k ∨ v.Kind = 0)
inductive Typed : List V → List Int → Prop
  | nil : Typed [] []
  | cons {v : V} {k : Int} {vs : List V} {ks : List Int} : tyV v k → Typed vs ks → Typed (v :: vs) (k :: ks)
theorem Typed.ok {vs : List V} {ks : List Int} (h : Typed vs ks) : ∀ v ∈ vs, vOk v = true := by
  induction h with
  | nil => simp
  | cons h _ ih =>
    intro v hv; rcases List.mem_cons.1 hv with rfl | hv
    · exact h.1
    · exact ih v hv
theorem Typed.take {vs : List V} {ks : List Int} (h : Typed vs ks) (n : Nat) : Typed (vs.take n) (ks.take n) := by
  induction h generalizing n with
  | nil => simp; exact .nil
  | cons h _ ih =>
    cases n with
    | zero => exact .nil
    | succ n => exact .cons h (ih n)
theorem Typed.drop {vs : List V} {ks : List Int} (h : Typed vs ks) (n : Nat) : Typed (vs.drop n) (ks.drop n) := by
  induction h generalizing n with
  | nil => simp; exact .nil
  | cons h h2 ih =>
    cases n with
    | zero => exact .cons h h2
    | succ n => exact ih n
theorem fits_get {cs : List Col} {row : Row} (h : rowFits cs row = true) : colsOk cs = true ∧ rowOk row = true ∧ row.length = cs.length ∧ ∀ (i : Nat) (v : V) (c : Col), row[i]? = some v → cs[i]? = some c → vFit v c = true := by
  unfold rowFits at h; rw [Bool.and_eq_true, Bool.and_eq_true, Bool.and_eq_true, decide_eq_true_eq] at h; obtain ⟨h1, h2, h3, h4⟩ := h; refine ⟨h1, h2, h3, fun i v c hv hc => ?_⟩; unfold all2 at h4; have := List.all_eq_true.1 h4 (v, c) (List.mem_of_getElem? (i := i) (by rw [List.getElem?_zip_eq_some]; exact ⟨hv, hc⟩)); exact this
theorem rowOk_all {row : Row} (h : rowOk row = true) : row.length ≤ 4 ∧ ∀ v ∈ row, vOk v = true := by
  unfold rowOk at h; rw [Bool.and_eq_true, decide_eq_true_eq] at h; exact ⟨h.1, fun v hv => List.all_eq_true.1 h.2 v hv⟩
def yes : V := ⟨3, 1, ⟨#[]⟩⟩
def col0 : Col := ⟨0, false⟩
def colAt (cs : List Col) (n : Int) : Col := cs.getD n.toNat col0
theorem getD_in {α : Type} {l : List α} {n : Int} {d : α} (h : inR l.length n = true) : at? l n = some (l.getD n.toNat d) := by
  have h2 := inR_of h; exact at_z h2.1 (by rw [List.getD_eq_getElem?_getD, List.getElem?_eq_getElem h2.2]; rfl)
def holdsB (e : List Pt) (r : Row) : Bool := decide (exprVal r e = yes)
def rowAt (r : Row) (n : Int) : V := r.getD n.toNat v0
theorem colsOk_all {cs : List Col} (h : colsOk cs = true) : cs.length ≤ 4 ∧ ∀ c ∈ cs, colOk c = true := by
  unfold colsOk at h; simp only [Bool.and_eq_true, decide_eq_true_eq, List.all_eq_true] at h; exact h
theorem inR_get {α : Type} {l : List α} {n : Int} {d : α} (h : inR l.length n = true) : l[n.toNat]? = some (l.getD n.toNat d) := by
  have h2 := inR_of h; rw [List.getD_eq_getElem?_getD, List.getElem?_eq_getElem h2.2]; rfl
theorem app1 {o : Rows} {x : Row} (h : o.length ≤ 900000000) : app? o [x] = some (o ++ [x]) := app_of (by simp; omega)
def parts (r : Row) (b : Rows) (e : List Pt) : Rows := (b.map (r ++ ·)).filter (holdsB e)
theorem fits_rsSm {cs : List Col} {rs : Rows} (h : rs.length ≤ 400000000) (hf : ∀ r ∈ rs, rowFits cs r = true) : rsSm rs := by
  refine ⟨h, fun r hr => ?_⟩; have := rowOk_all (fits_get (hf r hr)).2.1; refine ⟨by omega, fun v hv => ?_⟩; have := (vN (this.2 v hv)).2; unfold vSm; omega
theorem E_kept {a : Rows} {p : Row → Option Bool} {q : Row → Bool} (h : a.length ≤ 1100000) (hl : ∀ r ∈ a, r.length ≤ 4) (hp : ∀ r ∈ a, p r = some (q r)) : m_impl_kept a p = some (a.filter q) := by
  unfold m_impl_kept; have e := scanMF (f := fun r => if q r = true then some r else none) (J := fun o => m_impl_kept_j2 p o) a (fun n k o => m_impl_kept_l1 p n a (a.length : Int) k o) (fun n k r o hr ho => ?_) (fun n o ho => by rw [m_impl_kept_l1, dnlt, cond_false]) _ fuel0
  · rw [e]
    unfold m_impl_kept_j2; have ef : a.filterMap (fun r => if q r = true then some r else none) = a.filter q := by rw [← List.filterMap_eq_filter]; rfl
    have := List.length_filter_le q a; rw [ef, E_rowsCopy (by omega) (fun r hr => by have := hl r (List.mem_filter.1 hr).1; omega)]; rfl
  · have hk := lt_of_at hr
    rw [m_impl_kept_l1, dlt hk, cond_true, at_of hr, Option.bind_some, hp r (List.mem_of_getElem? hr), Option.bind_some]; unfold m_impl_kept_j1; cases q r with
    | true => rw [cond_true, app1 (by omega), Option.bind_some, ck1 (by omega), Option.bind_some]; rfl
    | false => rw [cond_false, ck1 (by omega), Option.bind_some]; simp
def belowN (cuts : List Int) (n : Int) : Nat := (cuts.filter fun x => decide (x ≤ n)).length
theorem E_below {cuts : List Int} {n : Int} (h : cuts.length ≤ 1000) : m_impl_below cuts n = some (belowN cuts n : Int) := by
  unfold m_impl_below; rw [L_slices_Clone_Lint_int (by omega), Option.bind_some, L_slices_DeleteFunc_Lint_int (p := fun x => m_impl_below_1 x n) (q := fun x => decide (x > n)) (by omega) (fun x _ => rfl), Option.bind_some]; unfold belowN
  congr 4
  funext x
  rw [Bool.eq_iff_iff]; simp
theorem below_le (cuts : List Int) (n : Int) : belowN cuts n ≤ cuts.length := List.length_filter_le _ _
theorem below_mono {cuts : List Int} {m n : Int} (h : m ≤ n) : belowN cuts m ≤ belowN cuts n := by
  unfold belowN
  induction cuts with
  | nil => simp
  | cons x l ih =>
    by_cases h1 : x ≤ m
    · rw [List.filter_cons_of_pos (by simpa using h1), List.filter_cons_of_pos (by simp; omega)]; simpa using ih
    · rw [List.filter_cons_of_neg (by simpa using h1)]
      by_cases h2 : x ≤ n
      · rw [List.filter_cons_of_pos (by simpa using h2)]; simp only [List.length_cons]; omega
      · rw [List.filter_cons_of_neg (by simpa using h2)]; exact ih
def risP (l : List Int) : Prop := l.length ≤ 4 ∧ (∀ x ∈ l, -9999 ≤ x ∧ x ≤ 9999) ∧ ∀ (k : Nat) x y, l[k]? = some x → l[k + 1]? = some y → x < y
theorem ris_loop {l : List Int} (h : risP l) : ∀ (d k n : Nat), k + d = l.length → d < n → m_impl_rising_l1 n l (-9999) 9999 l (l.length : Int) (k : Int) = some true := by
  intro d
  induction d with
  | zero =>
    intro k n hk hd; obtain ⟨n, rfl⟩ : ∃ q, n = q + 1 := ⟨n - 1, by omega⟩; have : k = l.length := by omega
    subst this; rw [m_impl_rising_l1, dnlt]; rfl
  | succ d ih =>
    intro k n hk hd; obtain ⟨n, rfl⟩ : ∃ q, n = q + 1 := ⟨n - 1, by omega⟩; have hlt : k < l.length := by omega
    have hl := h.1; obtain ⟨x, hx⟩ : ∃ x, l[k]? = some x := ⟨_, List.getElem?_eq_getElem hlt⟩; have hb := h.2.1 x (List.mem_of_getElem? hx)
    have nxt : m_impl_rising_j1 (m_impl_rising_l1 n) l (-9999) 9999 l (l.length : Int) (k : Int) false = some true := by
      unfold m_impl_rising_j1; rw [cond_false, ck1 (by omega), Option.bind_some, show ((k : Int) + 1) = ((k + 1 : Nat) : Int) by omega]; exact ih (k + 1) n (by omega) (by omega)
    rw [m_impl_rising_l1, dlt hlt, cond_true, at_of hx, Option.bind_some, E_between, Option.bind_some, decide_eq_true hb.1, decide_eq_true hb.2, Bool.and_self, Bool.not_true, cond_false]
    by_cases hk0 : k = 0
    · subst hk0
      exact nxt
    · obtain ⟨j, rfl⟩ : ∃ j, k = j + 1 := ⟨k - 1, by omega⟩
      obtain ⟨y, hy⟩ : ∃ y, l[j]? = some y := ⟨_, List.getElem?_eq_getElem (by omega)⟩; have hlt' := h.2.2 j y x hy hx; rw [decide_eq_true (show (((j + 1 : Nat) : Int)) > 0 by omega), cond_true, ckI_of (by omega) (by omega), Option.bind_some, show (((j + 1 : Nat) : Int) - 1) = (j : Int) by omega, at_of hy, Option.bind_some, decide_eq_false (show ¬ y ≥ x by omega)]; exact nxt
theorem E_CutsOk {l : List Int} (h : risP l) : m_impl_CutsOk l = some true := by
  unfold m_impl_CutsOk m_impl_CutsOk_j1 m_impl_rising; rw [decide_eq_true (show (l.length : Int) ≤ 4 by have := h.1; omega), cond_true]; have e := ris_loop h l.length 0 (((l.length : Int) - 0).toNat + 1) (by omega) fuel0; rw [show (((0 : Nat) : Int)) = 0 from rfl] at e; rw [e]; rfl
theorem tyV_sz1 {v : V} {k : Int} (h : tyV v k) : v.S.size ≤ 1000 := (vN h.1).2
def partN (cuts : List Int) (v : V) : Nat := if v.Kind = 0 then 0 else belowN cuts v.N
theorem E_PartOf {cuts : List Int} {v : V} (hc : risP cuts) (hv : tyV v 1) : m_impl_PartOf cuts v = some (partN cuts v : Int) := by
  unfold m_impl_PartOf; rw [E_CutsOk hc, Option.bind_some, Bool.not_true, cond_false, E_Value_ok (by have := tyV_sz1 hv; omega), Option.bind_some, hv.1]; unfold m_impl_PartOf_j1 partN; rw [Bool.not_true, cond_false]
  by_cases h0 : v.Kind = 0
  · rw [beqE h0, cond_true, if_pos h0]; rfl
  · rw [beqF h0, cond_false, beqE (hv.2.resolve_right h0), cond_true, if_neg h0, E_below (by have := hc.1; omega)]; rfl
theorem part_le {cuts : List Int} {v : V} : partN cuts v ≤ cuts.length := by
  unfold partN
  split
  · exact Nat.zero_le _
  · exact below_le _ _
theorem copies_loop {L : List Rows} (hL : L.length ≤ 100) (h : ∀ l ∈ L, l.length ≤ 1100000 ∧ ∀ r ∈ l, r.length ≤ 100) : ∀ (d k n : Nat), k + d = L.length → d < n → m_impl_partsOf_l2 n (L.length : Int) (k : Int) L = some L := by
  intro d
  induction d with
  | zero =>
    intro k n hk hd; obtain ⟨n, rfl⟩ : ∃ q, n = q + 1 := ⟨n - 1, by omega⟩; have : k = L.length := by omega
    subst this; rw [m_impl_partsOf_l2, dnlt]; rfl
  | succ d ih =>
    intro k n hk hd; obtain ⟨n, rfl⟩ : ∃ q, n = q + 1 := ⟨n - 1, by omega⟩; have hlt : k < L.length := by omega
    obtain ⟨l, hl⟩ : ∃ l, L[k]? = some l := ⟨_, List.getElem?_eq_getElem hlt⟩; have hb := h l (List.mem_of_getElem? hl)
    have hset : L.set k l = L := by
      apply List.ext_getElem?
      intro i; rw [List.getElem?_set]
      by_cases e : k = i
      · subst e; rw [if_pos rfl, if_pos hlt, hl]
      · rw [if_neg e]
    rw [m_impl_partsOf_l2, dlt hlt, cond_true, at_of hl, Option.bind_some, Option.bind_some, E_rowsCopy (by omega) (fun r hr => by have := hb.2 r hr; omega), Option.bind_some, Option.bind_some, ck1 (by omega), Option.bind_some, Int.toNat_natCast, hset, show ((k : Int) + 1) = ((k + 1 : Nat) : Int) by omega]; exact ih (k + 1) n (by omega) (by omega)
def seqI : Int → Nat → List Int
  | _, 0 => []
  | a, m + 1 => a :: seqI (a + 1) m
theorem seqI_mem : ∀ {m : Nat} {a x : Int}, x ∈ seqI a m ↔ a ≤ x ∧ x < a + m
  | 0, a, x => by first | (simp [seqI]; done) | (simp [seqI]; omega)
  | m + 1, a, x => by rw [seqI, List.mem_cons, seqI_mem (m := m)]; omega
theorem seqI_nodup : ∀ (m : Nat) (a : Int), (seqI a m).Nodup
  | 0, a => List.nodup_nil
  | m + 1, a => by
    rw [seqI, List.nodup_cons]; exact ⟨fun h => by have := seqI_mem.1 h; omega, seqI_nodup m _⟩
theorem seqI_len : ∀ (m : Nat) (a : Int), (seqI a m).length = m
  | 0, _ => rfl
  | m + 1, a => by rw [seqI, List.length_cons, seqI_len]
theorem E_cloneI {l : List Int} (h : l.length ≤ 900000000) : m_impl_clone_int l = some l := by
  unfold m_impl_clone_int; cases l with
  | nil => rfl
  | cons x l =>
    rw [beqF (by simp; omega), cond_false]; unfold appN? m_slices_Clip_Lint_int_o; rw [if_pos (by simp at h ⊢; omega)]; rfl
theorem pf_loop : ∀ (m n : Nat) (a : Int) (o : List Int), m < n → (-10 ≤ a ∧ a + m ≤ 100) → o.length + m ≤ 1000 → m_impl_PartsFor_l1 n (a + m - 1) a o = some (o ++ seqI a m) := by
  intro m
  induction m with
  | zero =>
    intro n a o hn ha ho; obtain ⟨n, rfl⟩ : ∃ q, n = q + 1 := ⟨n - 1, by omega⟩; rw [m_impl_PartsFor_l1, decide_eq_false (show ¬ a ≤ a + ((0 : Nat) : Int) - 1 by omega), cond_false]; unfold m_impl_PartsFor_j3; rw [E_cloneI (by omega)]; simp [seqI]
  | succ m ih =>
    intro n a o hn ha ho; obtain ⟨n, rfl⟩ : ∃ q, n = q + 1 := ⟨n - 1, by omega⟩; rw [m_impl_PartsFor_l1, decide_eq_true (show a ≤ a + ((m + 1 : Nat) : Int) - 1 by omega), cond_true, app_of (by simp; omega), Option.bind_some, ckI_of (by omega) (by omega), Option.bind_some]; have := ih n (a + 1) (o ++ [a]) (by omega) (by omega) (by simp; omega); rw [show a + 1 + (m : Int) - 1 = a + ((m + 1 : Nat) : Int) - 1 by omega] at this; rw [this, seqI, List.append_assoc]; rfl
theorem pf_j2 {a : Int} {b : Int} (ha : 0 ≤ a) (hb : a ≤ b) (h : b ≤ 10) : m_impl_PartsFor_j2 a b = some (seqI a (b - a).toNat.succ) := by
  unfold m_impl_PartsFor_j2; have := pf_loop (b - a).toNat.succ ((b - a).toNat + 2) a [] (by omega) (by omega) (by simp; omega); rw [show a + (((b - a).toNat.succ : Nat) : Int) - 1 = b by omega] at this; rw [this, List.nil_append]
def num (n : Int) : V := ⟨1, n, ⟨#[]⟩⟩
theorem cmpS_nil : cmpS ⟨#[]⟩ ⟨#[]⟩ = 0 := (TO_str.eq0 _ _).2 rfl
theorem vOrd_num (m n : Int) : vOrd (num m) (num n) = cmpI m n := by
  unfold vOrd num; rw [show cmpI (1 : Int) 1 = 0 from rfl, cmpS_nil]; unfold cmpI
  by_cases h : m < n
  · rw [if_pos h]; rfl
  · rw [if_neg h]
    by_cases h2 : n < m
    · rw [if_pos h2]; rfl
    · rw [if_neg h2]; rfl
theorem num_of {v : V} (h : vOk v = true) (hk : v.Kind = 1) : v = num v.N ∧ -9999 ≤ v.N ∧ v.N ≤ 9999 := by
  obtain ⟨k, m, s⟩ := v; simp only at hk; subst hk; unfold vOk at h; rw [if_neg (show ¬ (1 : Int) = 0 by decide), if_pos rfl] at h; simp only [Bool.and_eq_true, decide_eq_true_eq] at h; rw [h.1]; exact ⟨rfl, h.2⟩
theorem cmp_part {cuts : List Int} {v : V} {kind n : Int} (hv : tyV v 1) (hn : -9999 ≤ n ∧ n ≤ 9999) (h : cmpT kind v (num n) = 1) : (kind = 1 → partN cuts v = belowN cuts n) ∧ (kind = 3 → partN cuts v ≤ belowN cuts (n - 1)) ∧ (kind = 4 → partN cuts v ≤ belowN cuts n) := by
  unfold cmpT at h
  split at h
  · by_cases h0 : v.Kind = 0
    · rw [if_pos (.inl h0)] at h; cases h
    · obtain ⟨e, b1, b2⟩ := num_of hv.1 (hv.2.resolve_right h0)
      rw [if_neg (fun hx => hx.elim h0 (fun h1 => by cases h1)), if_pos (show v.Kind = (num n).Kind from hv.2.resolve_right h0)] at h; have hp : partN cuts v = belowN cuts v.N := by unfold partN; rw [if_neg h0]
      rw [hp]; rw [e, vOrd_num] at h
      have hr : cmpR kind (cmpI v.N n) = true := by
        cases hc : cmpR kind (cmpI v.N n) with
        | true => rfl
        | false => rw [hc, if_neg (by decide)] at h; cases h
      unfold cmpR cmpI at hr; refine ⟨fun hk => ?_, fun hk => ?_, fun hk => ?_⟩
      · subst hk
        rw [if_pos rfl] at hr
        have : v.N = n := by
          have hr := of_decide_eq_true hr
          split at hr
          · cases hr
          · split at hr
            · cases hr
            · omega
        rw [this]
      · subst hk
        rw [if_neg (by decide), if_neg (by decide), if_pos rfl] at hr; have hr := of_decide_eq_true hr; refine below_mono ?_
        split at hr
        · omega
        · split at hr
          · exact absurd hr (by decide)
          · exact absurd hr (by decide)
      · subst hk
        rw [if_neg (by decide), if_neg (by decide), if_neg (by decide)] at hr; have hr := of_decide_eq_true hr; refine below_mono ?_
        split at hr
        · omega
        · split at hr
          · exact absurd hr (by decide)
          · omega
  · cases h
theorem E_PartsFor {cuts : List Int} {kind n : Int} (hc : risP cuts) (hk : 1 ≤ kind ∧ kind ≤ 4) (hn : -9999 ≤ n ∧ n ≤ 9999) :
    ∃ ks, m_impl_PartsFor cuts kind n = some ks ∧ ks.Nodup ∧ ks.length ≤ 20 ∧ (∀ k ∈ ks, 0 ≤ k ∧ k ≤ cuts.length) ∧ ∀ v, tyV v 1 → cmpT kind v (num n) = 1 → ((partN cuts v : Nat) : Int) ∈ ks := by
  have hl := hc.1; have hb := below_le cuts n; have hb1 := below_le cuts (n - 1); unfold m_impl_PartsFor; rw [E_CutsOk hc, Option.bind_some, Bool.not_true, cond_false, show m_impl_numOk n = some true by unfold m_impl_numOk; rw [E_between, decide_eq_true (show (-9999 : Int) ≤ n by omega), decide_eq_true (show n ≤ (9999 : Int) by omega)]; rfl, Option.bind_some]; unfold m_impl_PartsFor_j1; rw [Bool.not_true, cond_false, E_below (by omega)]
  have fin : ∀ (a b : Int), 0 ≤ a → a ≤ b → b ≤ cuts.length → (∀ v, tyV v 1 → cmpT kind v (num n) = 1 → a ≤ ((partN cuts v : Nat) : Int) ∧ ((partN cuts v : Nat) : Int) ≤ b) → ∃ ks, m_impl_PartsFor_j2 a b = some ks ∧ ks.Nodup ∧ ks.length ≤ 20 ∧ (∀ k ∈ ks, 0 ≤ k ∧ k ≤ cuts.length) ∧ ∀ v, tyV v 1 → cmpT kind v (num n) = 1 → ((partN cuts v : Nat) : Int) ∈ ks := by
    intro a b h1 h2 h3 h4; refine ⟨_, pf_j2 h1 h2 (by omega), seqI_nodup _ _, by rw [seqI_len]; omega, fun k hk => ?_, fun v hv hx => ?_⟩
    · have := seqI_mem.1 hk; omega
    · have := h4 v hv hx
      rw [seqI_mem]; omega
  have hk' : kind = 1 ∨ kind = 2 ∨ kind = 3 ∨ kind = 4 := by omega
  rcases hk' with rfl | rfl | rfl | rfl
  · rw [show ((1 : Int) == 1) = true from rfl, cond_true, Option.bind_some, Option.bind_some]
    refine fin (belowN cuts n) (belowN cuts n) (by omega) (Int.le_refl _) (by omega) fun v hv hx => ?_; have := (cmp_part (cuts := cuts) hv (by omega) hx).1 rfl; omega
  · rw [show ((2 : Int) == 1) = false from rfl, cond_false, show ((2 : Int) == 2) = true from rfl, cond_true]
    refine fin 0 (cuts.length : Int) (by omega) (by omega) (by omega) fun v hv hx => ?_; have := part_le (cuts := cuts) (v := v); omega
  · rw [show ((3 : Int) == 1) = false from rfl, cond_false, show ((3 : Int) == 2) = false from rfl, cond_false, show ((3 : Int) == 3) = true from rfl, cond_true]
    rw [ckI_of (by omega) (by omega), Option.bind_some, E_below (by omega), Option.bind_some]; refine fin 0 (belowN cuts (n - 1)) (by omega) (by omega) (by omega) fun v hv hx => ?_; have := (cmp_part (cuts := cuts) hv (by omega) hx).2.1 rfl; omega
  · rw [show ((4 : Int) == 1) = false from rfl, cond_false, show ((4 : Int) == 2) = false from rfl, cond_false, show ((4 : Int) == 3) = false from rfl, cond_false, show ((4 : Int) == 4) = true from rfl, cond_true, Option.bind_some]
    refine fin 0 (belowN cuts n) (by omega) (by omega) (by omega) fun v hv hx => ?_; have := (cmp_part (cuts := cuts) hv (by omega) hx).2.2 rfl; omega
def suits (kind n : Int) (r : Row) : Bool := decide (cmpT kind (rowAt r 0) (num n) = 1)
def okAt (l : List Int) (k : Nat) : Bool := (decide (-9999 ≤ l.getD k 0) && decide (l.getD k 0 ≤ 9999)) && (decide (k = 0) || decide (l.getD (k - 1) 0 < l.getD k 0))
def cutsB (l : List Int) : Bool := decide (l.length ≤ 4) && (List.range' 0 l.length).all (okAt l)
theorem getD_k {l : List Int} {k : Nat} (h : k < l.length) : l[k]? = some (l.getD k 0) := by
  rw [List.getD_eq_getElem?_getD, List.getElem?_eq_getElem h]; rfl
theorem rise_loop {l : List Int} (hl : l.length ≤ 1000) : ∀ (d k n : Nat), k + d = l.length → d < n → m_impl_rising_l1 n l (-9999) 9999 l (l.length : Int) (k : Int) = some ((List.range' k d).all (okAt l)) := by
  intro d
  induction d with
  | zero =>
    intro k n hk hd; obtain ⟨n, rfl⟩ : ∃ q, n = q + 1 := ⟨n - 1, by omega⟩; have : k = l.length := by omega
    subst this; rw [m_impl_rising_l1, dnlt]; rfl
  | succ d ih =>
    intro k n hk hd; obtain ⟨n, rfl⟩ : ∃ q, n = q + 1 := ⟨n - 1, by omega⟩; have hlt : k < l.length := by omega
    have hx := getD_k hlt
    have nxt : ∀ b, m_impl_rising_j1 (m_impl_rising_l1 n) l (-9999) 9999 l (l.length : Int) (k : Int) b = some (!b && (List.range' (k + 1) d).all (okAt l)) := by
      intro b; unfold m_impl_rising_j1; cases b with
      | true => rfl
      | false =>
        rw [cond_false, ck1 (by omega), Option.bind_some, show ((k : Int) + 1) = ((k + 1 : Nat) : Int) by omega, ih (k + 1) n (by omega) (by omega)]; rfl
    rw [m_impl_rising_l1, dlt hlt, cond_true, at_of hx, Option.bind_some, E_between, Option.bind_some, List.range'_succ, List.all_cons]; unfold okAt; cases hb : (decide (-9999 ≤ l.getD k 0) && decide (l.getD k 0 ≤ 9999)) with
    | false => rw [Bool.not_false, cond_true, nxt]; rfl
    | true =>
      rw [Bool.not_true, cond_false, Bool.true_and]
      by_cases hk0 : k = 0
      · subst hk0
        rw [decide_eq_false (show ¬ (((0 : Nat) : Int)) > 0 by omega), cond_false, nxt, decide_eq_true rfl]; rfl
      · have hy := getD_k (l := l) (k := k - 1) (by omega)
        rw [decide_eq_true (show ((k : Nat) : Int) > 0 by omega), cond_true, ckI_of (by omega) (by omega), Option.bind_some, show ((k : Int) - 1) = ((k - 1 : Nat) : Int) by omega, at_of hy, Option.bind_some, nxt, decide_eq_false hk0, Bool.false_or]
        congr 2
        rw [Bool.eq_iff_iff]; simp
theorem E_CutsOk_g {l : List Int} : m_impl_CutsOk l = some (cutsB l) := by
  unfold m_impl_CutsOk m_impl_CutsOk_j1 m_impl_rising cutsB
  by_cases h : l.length ≤ 4
  · rw [decide_eq_true (show (l.length : Int) ≤ 4 by omega), cond_true, decide_eq_true h]
    have e := rise_loop (l := l) (by omega) l.length 0 (((l.length : Int) - 0).toNat + 1) (by omega) fuel0; rw [show (((0 : Nat) : Int)) = 0 from rfl] at e; rw [e]; rfl
  · rw [decide_eq_false (show ¬ (l.length : Int) ≤ 4 by omega), decide_eq_false h]; rfl
theorem cuts_loop {l : List Int} (hl : l.length ≤ 1100000) : ∀ (d k n : Nat), k + d = l.length → d < n → m_spec_CutsOk_l1 n l (k : Int) = some ((List.range' k d).all (okAt l) && decide (l.length ≤ 4)) := by
  intro d
  induction d with
  | zero =>
    intro k n hk hd; obtain ⟨n, rfl⟩ : ∃ q, n = q + 1 := ⟨n - 1, by omega⟩; have : k = l.length := by omega
    subst this; rw [m_spec_CutsOk_l1, dnlt, cond_false]; unfold m_spec_CutsOk_j2
    congr 1
    rw [Bool.eq_iff_iff]; simp; omega
  | succ d ih =>
    intro k n hk hd; obtain ⟨n, rfl⟩ : ∃ q, n = q + 1 := ⟨n - 1, by omega⟩; have hlt : k < l.length := by omega
    have hx := getD_k hlt
    have nxt : ∀ b, m_spec_CutsOk_j1 (m_spec_CutsOk_l1 n) l (k : Int) b = some ((!b && (List.range' (k + 1) d).all (okAt l)) && decide (l.length ≤ 4)) := by
      intro b; unfold m_spec_CutsOk_j1; cases b with
      | true => rfl
      | false =>
        rw [cond_false, ck1 (by omega), Option.bind_some, show ((k : Int) + 1) = ((k + 1 : Nat) : Int) by omega, ih (k + 1) n (by omega) (by omega)]; rfl
    rw [m_spec_CutsOk_l1, dlt hlt, cond_true, at_of hx, Option.bind_some, E_l1In, Option.bind_some, List.range'_succ, List.all_cons]; unfold okAt; cases hb : (decide (-9999 ≤ l.getD k 0) && decide (l.getD k 0 ≤ 9999)) with
    | false => rw [Bool.not_false, cond_true, nxt]; rfl
    | true =>
      rw [Bool.not_true, cond_false, Bool.true_and]
      by_cases hk0 : k = 0
      · subst hk0
        rw [decide_eq_false (show ¬ (((0 : Nat) : Int)) > 0 by omega), cond_false, nxt, decide_eq_true rfl]; rfl
      · have hy := getD_k (l := l) (k := k - 1) (by omega)
        rw [decide_eq_true (show ((k : Nat) : Int) > 0 by omega), cond_true, ckI_of (by omega) (by omega), Option.bind_some, show ((k : Int) - 1) = ((k - 1 : Nat) : Int) by omega, at_of hy, Option.bind_some, Option.bind_some, nxt, decide_eq_false hk0, Bool.false_or]
        congr 3
        rw [Bool.eq_iff_iff]; simp
theorem E_spec_CutsOk_g {l : List Int} (hl : l.length ≤ 1100000) : m_spec_CutsOk l = some (cutsB l) := by
  unfold m_spec_CutsOk cutsB; have e := cuts_loop hl l.length 0 (((l.length : Int) - 0).toNat + 1) (by omega) fuel0; rw [show (((0 : Nat) : Int)) = 0 from rfl] at e; rw [e, Bool.and_comm]
theorem cutsB_ris {l : List Int} (h : cutsB l = true) : risP l := by
  unfold cutsB at h; rw [Bool.and_eq_true, decide_eq_true_eq, List.all_eq_true] at h; have at' : ∀ k, k < l.length → okAt l k = true := fun k hk => h.2 k (by rw [List.mem_range'_1]; omega); refine ⟨h.1, fun x hx => ?_, fun k x y hx hy => ?_⟩
  · obtain ⟨k, hk⟩ := List.getElem?_of_mem hx
    have hlt : k < l.length := by
      rcases Nat.lt_or_ge k l.length with g | g
      · exact g
      · rw [List.getElem?_eq_none g] at hk; cases hk
    have := at' k hlt; unfold okAt at this; rw [getD_of hk] at this; simp only [Bool.and_eq_true, decide_eq_true_eq] at this; exact this.1
  · have hlt : k + 1 < l.length := by
      rcases Nat.lt_or_ge (k + 1) l.length with g | g
      · exact g
      · rw [List.getElem?_eq_none g] at hy; cases hy
    have := at' (k + 1) hlt; unfold okAt at this; rw [getD_of hy, show k + 1 - 1 = k from rfl, getD_of hx] at this; simp only [Bool.and_eq_true, Bool.or_eq_true, decide_eq_true_eq] at this; rcases this.2 with g | g
    · omega
    · exact g
theorem asc_lt {l : List Int} (h : risP l) : ∀ (j k : Nat) (x y : Int), j < k → l[j]? = some x → l[k]? = some y → x < y := by
  intro j k
  induction k with
  | zero => intro x y hj; omega
  | succ k ih =>
    intro x y hj hx hy
    have hk : k < l.length := by
      rcases Nat.lt_or_ge (k + 1) l.length with g | g
      · omega
      · rw [List.getElem?_eq_none g] at hy; cases hy
    have hz : l[k]? = some l[k] := List.getElem?_eq_getElem hk; have h1 := h.2.2 k _ y hz hy
    by_cases e : j = k
    · subst e; rw [hz] at hx; cases hx; exact h1
    · have := ih x l[k] (by omega) hx hz
      omega
theorem filter_pre {p : Int → Bool} : ∀ (l : List Int) (m : Nat), m ≤ l.length → (∀ (k : Nat) x, l[k]? = some x → (p x = true ↔ k < m)) → (l.filter p).length = m
  | [], m, hm, _ => by simp at hm; simp [hm]
  | x :: l, 0, _, h => by
    rw [List.filter_cons_of_neg (by have := h 0 x rfl; simp at this; simpa using this)]; exact filter_pre l 0 (Nat.zero_le _) fun k y hy => by have := h (k + 1) y (by simpa using hy); simpa using this
  | x :: l, m + 1, hm, h => by
    rw [List.filter_cons_of_pos ((h 0 x rfl).2 (by omega)), List.length_cons, filter_pre l m (by simpa using hm) fun k y hy => by have := h (k + 1) y (by simpa using hy); rw [this]; omega]
theorem cnt_loop {R : Type} {L : Nat → Int → Option R} {J : Int → Option R} {q : Int → Bool} {l : List Int} (hl : risP l) (mono : ∀ x y, x < y → q y = true → q x = true)
    (step : ∀ n (k : Nat) x, l[k]? = some x → L (n + 1) (k : Int) = if q x = true then L n ((k : Int) + 1) else J (k : Int)) (stop : ∀ n, L (n + 1) (l.length : Int) = J (l.length : Int)) : ∀ (d k n : Nat), k + d = l.length → d < n → (∀ (j : Nat) x, j < k → l[j]? = some x → q x = true) → L n (k : Int) = J ((l.filter q).length : Int) := by
  intro d
  induction d with
  | zero =>
    intro k n hk hd h; obtain ⟨n, rfl⟩ : ∃ m, n = m + 1 := ⟨n - 1, by omega⟩; have : k = l.length := by omega
    subst this; rw [stop, filter_pre l l.length (Nat.le_refl _) fun j x hx => ⟨fun _ => ?_, fun hj => h j x hj hx⟩]; rcases Nat.lt_or_ge j l.length with g | g
    · exact g
    · rw [List.getElem?_eq_none g] at hx; cases hx
  | succ d ih =>
    intro k n hk hd h; obtain ⟨n, rfl⟩ : ∃ m, n = m + 1 := ⟨n - 1, by omega⟩; have hlt : k < l.length := by omega
    have hx : l[k]? = some l[k] := List.getElem?_eq_getElem hlt; rw [step n k _ hx]
    by_cases hq : q l[k] = true
    · rw [if_pos hq, show ((k : Int) + 1) = ((k + 1 : Nat) : Int) by omega]
      refine ih (k + 1) n (by omega) (by omega) fun j x hj hjx => ?_
      by_cases e : j = k
      · subst e; rw [hx] at hjx; cases hjx; exact hq
      · exact h j x (by omega) hjx
    · rw [if_neg hq, filter_pre l k (by omega) fun j x hjx => ⟨fun hqx => ?_, fun hj => h j x hj hjx⟩]
      rcases Nat.lt_or_ge j k with g | g
      · exact g
      · exfalso
        by_cases e : j = k
        · subst e; rw [hx] at hjx; cases hjx; exact hq hqx
        · exact hq (mono _ _ (asc_lt hl k j _ _ (by omega) hx hjx) hqx)
theorem E_spec_PartOf {cuts : List Int} {v : V} (hc : cutsB cuts = true) (hv : tyV v 1) : m_spec_PartOf cuts v = some (partN cuts v : Int) := by
  have hr := cutsB_ris hc; have hl := hr.1; unfold m_spec_PartOf; rw [E_spec_CutsOk_g (by omega), hc, Option.bind_some, Bool.not_true, cond_false, E_spec_ValueOk (by have := tyV_sz1 hv; omega), Option.bind_some, hv.1, Bool.not_true, cond_false]; unfold m_spec_PartOf_j1 partN
  by_cases h0 : v.Kind = 0
  · rw [beqF' (show ¬ v.Kind = 1 by omega), cond_true, bneF h0, cond_false, if_pos h0, show (1000000000 : Nat) = 999999999 + 1 from rfl, m_spec_PartOf_l1, beqF (show ¬ v.Kind = 1 by omega), cond_false]
    unfold m_spec_PartOf_j2 m_spec_PartOf_j3; cases decide ((0 : Int) < (cuts.length : Int)) <;> rfl
  · have h1 := hv.2.resolve_right h0
    rw [bneF h1, cond_false, cond_false, if_neg h0]
    have e := cnt_loop (L := fun n k => m_spec_PartOf_l1 n cuts v k) (J := fun k => some k) (q := fun x => decide (x ≤ v.N)) hr (fun x y h1 h2 => by simp at h2 ⊢; omega) (fun n k x hx => by
      have hlt := lt_of_at hx; rw [m_spec_PartOf_l1, dlt hlt, cond_true, beqE h1, cond_true, at_of hx, Option.bind_some]; unfold m_spec_PartOf_j2
      by_cases hq : x ≤ v.N
      · rw [decide_eq_true hq, cond_true, ck1 (by omega), Option.bind_some, if_pos rfl]
      · rw [decide_eq_false hq, cond_false, if_neg (by decide)]; rfl) (fun n => by rw [m_spec_PartOf_l1, dnlt, cond_false]; rfl) cuts.length 0 1000000000 (by omega) (by omega) (fun j x hj => by omega)
    exact e
def sel (kind a b k : Int) : Bool := if kind = 2 then true else if kind = 1 then decide (k = a) else if kind = 3 then decide (k ≤ b) else decide (k ≤ a)
def ksOf (cuts : List Int) (kind n : Int) : List Int := (seqI 0 (cuts.length + 1)).filter (sel kind (belowN cuts n) (belowN cuts (n - 1)))
theorem sel_loop {cuts : List Int} {kind a b : Int} (hl : cuts.length ≤ 10) (hk : kind = 1 ∨ kind = 2 ∨ kind = 3 ∨ kind = 4) : ∀ (m n : Nat) (k : Int) (o : List Int), k + m = cuts.length + 1 → 0 ≤ k → m < n → o.length + m ≤ 100 → m_spec_PartsFor_l3 n cuts kind a b k o = some (o ++ (seqI k m).filter (sel kind a b)) := by
  intro m
  induction m with
  | zero =>
    intro n k o h1 h0 h2 h3; obtain ⟨n, rfl⟩ : ∃ q, n = q + 1 := ⟨n - 1, by omega⟩; rw [m_spec_PartsFor_l3, decide_eq_false (show ¬ k ≤ (cuts.length : Int) by omega), cond_false]; simp [seqI, m_spec_PartsFor_j8]
  | succ m ih =>
    intro n k o h1 h0 h2 h3; obtain ⟨n, rfl⟩ : ∃ q, n = q + 1 := ⟨n - 1, by omega⟩
    have nxt : ∀ s : Bool, s = sel kind a b k → m_spec_PartsFor_j6 (m_spec_PartsFor_l3 n) cuts kind a b k s o = some (o ++ (seqI k (m + 1)).filter (sel kind a b)) := by
      intro s hs; unfold m_spec_PartsFor_j6 m_spec_PartsFor_j7; rw [seqI]; cases s with
      | true => rw [cond_true, app_of (by simp; omega), Option.bind_some, ckI_of (by omega) (by omega), Option.bind_some, ih n (k + 1) (o ++ [k]) (by omega) (by omega) (by omega) (by simp; omega), List.filter_cons_of_pos hs.symm, List.append_assoc]; rfl
      | false => rw [cond_false, ckI_of (by omega) (by omega), Option.bind_some, ih n (k + 1) o (by omega) (by omega) (by omega) (by omega), List.filter_cons_of_neg (by rw [← hs]; decide)]
    rw [m_spec_PartsFor_l3, decide_eq_true (show k ≤ (cuts.length : Int) by omega), cond_true]; rcases hk with rfl | rfl | rfl | rfl
    · rw [show ((1 : Int) == 2) = false from rfl, cond_false, show ((1 : Int) == 1) = true from rfl, cond_true, show ((1 : Int) == 3) = false from rfl, cond_false, show ((1 : Int) == 4) = false from rfl, cond_false]
      by_cases e : k = a
      · rw [beqE e, cond_true]; exact nxt _ (by unfold sel; rw [if_neg (by decide), if_pos rfl, decide_eq_true e])
      · rw [beqF e, cond_false]; exact nxt _ (by unfold sel; rw [if_neg (by decide), if_pos rfl, decide_eq_false e])
    · rw [show ((2 : Int) == 2) = true from rfl, cond_true]; exact nxt _ (by unfold sel; rw [if_pos rfl])
    · rw [show ((3 : Int) == 2) = false from rfl, cond_false, show ((3 : Int) == 1) = false from rfl, cond_false, show ((3 : Int) == 3) = true from rfl, cond_true, show ((3 : Int) == 4) = false from rfl, cond_false]
      by_cases e : k ≤ b
      · rw [decide_eq_true e, cond_true]; exact nxt _ (by unfold sel; rw [if_neg (by decide), if_neg (by decide), if_pos rfl, decide_eq_true e])
      · rw [decide_eq_false e, cond_false]; exact nxt _ (by unfold sel; rw [if_neg (by decide), if_neg (by decide), if_pos rfl, decide_eq_false e])
    · rw [show ((4 : Int) == 2) = false from rfl, cond_false, show ((4 : Int) == 1) = false from rfl, cond_false, show ((4 : Int) == 3) = false from rfl, cond_false, show ((4 : Int) == 4) = true from rfl, cond_true]
      exact nxt _ (by unfold sel; rw [if_neg (by decide), if_neg (by decide), if_neg (by decide)])
theorem E_spec_PartsFor {cuts : List Int} {kind n : Int} (hc : cutsB cuts = true) (hn : -9999 ≤ n ∧ n ≤ 9999) : m_spec_PartsFor cuts kind n = some (if 1 ≤ kind ∧ kind ≤ 4 then ksOf cuts kind n else []) := by
  have hr := cutsB_ris hc; have hl := hr.1; unfold m_spec_PartsFor; rw [E_spec_CutsOk_g (by omega), hc, Option.bind_some, Bool.not_true, cond_false, E_l1In, decide_eq_true (show (-9999 : Int) ≤ n by omega), decide_eq_true (show n ≤ (9999 : Int) by omega), Option.bind_some, Bool.and_self, Bool.not_true, cond_false, E_l1In, Option.bind_some]; unfold m_spec_PartsFor_j1
  by_cases hk : 1 ≤ kind ∧ kind ≤ 4
  · rw [decide_eq_true hk.1, decide_eq_true hk.2, Bool.and_self, Bool.not_true, cond_false, if_pos hk]
    have e1 := cnt_loop (L := fun f k => m_spec_PartsFor_l1 f cuts kind n k 0 []) (J := fun k => m_spec_PartsFor_j3 cuts kind n k 0 []) (q := fun x => decide (x ≤ n)) hr (fun x y h1 h2 => by simp at h2 ⊢; omega) (fun f k x hx => by
      have hlt := lt_of_at hx; rw [m_spec_PartsFor_l1, dlt hlt, cond_true, at_of hx, Option.bind_some]; unfold m_spec_PartsFor_j2
      by_cases hq : x ≤ n
      · rw [decide_eq_true hq, cond_true, ck1 (by omega), Option.bind_some, if_pos rfl]
      · rw [decide_eq_false hq, cond_false, if_neg (by decide)]) (fun f => by rw [m_spec_PartsFor_l1, dnlt, cond_false]; rfl) cuts.length 0 1000000000 (by omega) (by omega) (fun j x hj => by omega)
    have e2 := cnt_loop (L := fun f k => m_spec_PartsFor_l2 f cuts kind n (belowN cuts n) k []) (J := fun k => m_spec_PartsFor_j5 cuts kind (belowN cuts n) k []) (q := fun x => decide (x < n)) hr (fun x y h1 h2 => by simp at h2 ⊢; omega) (fun f k x hx => by
      have hlt := lt_of_at hx; rw [m_spec_PartsFor_l2, dlt hlt, cond_true, at_of hx, Option.bind_some]; unfold m_spec_PartsFor_j4
      by_cases hq : x < n
      · rw [decide_eq_true hq, cond_true, ck1 (by omega), Option.bind_some, if_pos rfl]
      · rw [decide_eq_false hq, cond_false, if_neg (by decide)]) (fun f => by rw [m_spec_PartsFor_l2, dnlt, cond_false]; rfl) cuts.length 0 1000000000 (by omega) (by omega) (fun j x hj => by omega)
    have eb : (cuts.filter fun x => decide (x < n)).length = belowN cuts (n - 1) := by
      unfold belowN
      congr 1
      refine List.filter_congr fun x _ => ?_; rw [Bool.eq_iff_iff]; simp; omega
    refine e1.trans ?_; show m_spec_PartsFor_j3 cuts kind n (belowN cuts n) 0 [] = _; unfold m_spec_PartsFor_j3; refine e2.trans ?_; rw [eb]; unfold m_spec_PartsFor_j5; rw [sel_loop (by omega) (by omega) (cuts.length + 1) _ 0 [] (by omega) (by omega) (by omega) (by simp; omega)]; rfl
  · rw [if_neg hk]
    have : (decide (1 ≤ kind) && decide (kind ≤ 4)) = false := by
      rw [Bool.and_eq_false_iff, decide_eq_false_iff_not, decide_eq_false_iff_not]; omega
    rw [this]; rfl
theorem seqI_eq : ∀ (m : Nat) (a c : Int), a ≤ c → c < a + m → (seqI a m).filter (fun k => decide (k = c)) = [c]
  | 0, a, c, h1, h2 => by omega
  | m + 1, a, c, h1, h2 => by
    rw [seqI]
    by_cases e : a = c
    · subst e
      rw [List.filter_cons_of_pos (by simp)]
      congr 1
      rw [List.filter_eq_nil_iff]; intro x hx; have := seqI_mem.1 hx; simp; omega
    · rw [List.filter_cons_of_neg (by simpa using e), seqI_eq m (a + 1) c (by omega) (by omega)]
theorem seqI_le : ∀ (m : Nat) (a b : Int), a ≤ b + 1 → b < a + m → (seqI a m).filter (fun k => decide (k ≤ b)) = seqI a (b - a + 1).toNat
  | 0, a, b, h1, h2 => by rw [show (b - a + 1).toNat = 0 by omega]; rfl
  | m + 1, a, b, h1, h2 => by
    rw [seqI]
    by_cases e : a ≤ b
    · rw [List.filter_cons_of_pos (by simpa using e), seqI_le m (a + 1) b (by omega) (by omega), show (b - a + 1).toNat = (b - (a + 1) + 1).toNat + 1 by omega, seqI]
    · rw [List.filter_cons_of_neg (by simpa using e), show (b - a + 1).toNat = 0 by omega]
      show _ = []; rw [List.filter_eq_nil_iff]; intro x hx; have := seqI_mem.1 hx; simp; omega
theorem sel_1 (a b : Int) : sel 1 a b = fun k => decide (k = a) := by funext k; unfold sel; rw [if_neg (by decide), if_pos rfl]
theorem sel_2 (a b : Int) : sel 2 a b = fun _ => true := by funext k; unfold sel; rw [if_pos rfl]
theorem sel_3 (a b : Int) : sel 3 a b = fun k => decide (k ≤ b) := by funext k; unfold sel; rw [if_neg (by decide), if_neg (by decide), if_pos rfl]
theorem sel_4 (a b : Int) : sel 4 a b = fun k => decide (k ≤ a) := by funext k; unfold sel; rw [if_neg (by decide), if_neg (by decide), if_neg (by decide)]
theorem E_impl_PartsFor_g {cuts : List Int} {kind n : Int} (hc : cutsB cuts = true) (hn : -9999 ≤ n ∧ n ≤ 9999) : m_impl_PartsFor cuts kind n = some (if 1 ≤ kind ∧ kind ≤ 4 then ksOf cuts kind n else []) := by
  have hr := cutsB_ris hc; have hl := hr.1; have hb := below_le cuts n; have hb1 := below_le cuts (n - 1); unfold m_impl_PartsFor; rw [E_CutsOk_g, hc, Option.bind_some, Bool.not_true, cond_false, show m_impl_numOk n = some true by unfold m_impl_numOk; rw [E_between, decide_eq_true (show (-9999 : Int) ≤ n by omega), decide_eq_true (show n ≤ (9999 : Int) by omega)]; rfl, Option.bind_some]; unfold m_impl_PartsFor_j1; rw [Bool.not_true, cond_false, E_below (by omega)]
  by_cases hk : 1 ≤ kind ∧ kind ≤ 4
  · rw [if_pos hk]
    unfold ksOf; have hk' : kind = 1 ∨ kind = 2 ∨ kind = 3 ∨ kind = 4 := by omega
    rcases hk' with rfl | rfl | rfl | rfl
    · rw [show ((1 : Int) == 1) = true from rfl, cond_true, Option.bind_some, Option.bind_some, pf_j2 (by omega) (Int.le_refl _) (by omega), sel_1, seqI_eq _ _ _ (by omega) (by omega), show ((belowN cuts n : Int) - (belowN cuts n : Int)).toNat.succ = 1 by omega]; rfl
    · rw [show ((2 : Int) == 1) = false from rfl, cond_false, show ((2 : Int) == 2) = true from rfl, cond_true, pf_j2 (by omega) (by omega) (by omega), sel_2, List.filter_eq_self.2 (fun _ _ => rfl), show ((cuts.length : Int) - 0).toNat.succ = cuts.length + 1 by omega]
    · rw [show ((3 : Int) == 1) = false from rfl, cond_false, show ((3 : Int) == 2) = false from rfl, cond_false, show ((3 : Int) == 3) = true from rfl, cond_true, ckI_of (by omega) (by omega), Option.bind_some, E_below (by omega), Option.bind_some, pf_j2 (by omega) (by omega) (by omega), sel_3, seqI_le _ _ _ (by omega) (by omega), show ((belowN cuts (n - 1) : Int) - 0).toNat.succ = ((belowN cuts (n - 1) : Int) - 0 + 1).toNat by omega]
    · rw [show ((4 : Int) == 1) = false from rfl, cond_false, show ((4 : Int) == 2) = false from rfl, cond_false, show ((4 : Int) == 3) = false from rfl, cond_false, show ((4 : Int) == 4) = true from rfl, cond_true, Option.bind_some, pf_j2 (by omega) (by omega) (by omega), sel_4, seqI_le _ _ _ (by omega) (by omega), show ((belowN cuts n : Int) - 0).toNat.succ = ((belowN cuts n : Int) - 0 + 1).toNat by omega]
  · rw [if_neg hk, beqF (show ¬ kind = 1 by omega), cond_false, beqF (show ¬ kind = 2 by omega), cond_false, beqF (show ¬ kind = 3 by omega), cond_false, beqF (show ¬ kind = 4 by omega), cond_false]
theorem ks_ok {cuts : List Int} {kind n : Int} (hc : cutsB cuts = true) (hk : 1 ≤ kind ∧ kind ≤ 4) (hn : -9999 ≤ n ∧ n ≤ 9999) : (ksOf cuts kind n).Nodup ∧ (ksOf cuts kind n).length ≤ 20 ∧ (∀ k ∈ ksOf cuts kind n, 0 ≤ k ∧ k ≤ cuts.length) ∧ ∀ v, tyV v 1 → cmpT kind v (num n) = 1 → ((partN cuts v : Nat) : Int) ∈ ksOf cuts kind n := by
  have hl := (cutsB_ris hc).1; have h1 := E_impl_PartsFor_g (kind := kind) hc hn; rw [if_pos hk] at h1; obtain ⟨ks, e1, e2⟩ := E_PartsFor (cutsB_ris hc) hk hn; rw [h1] at e1; cases e1; exact e2
def distF (c : Nat) (f : Row → Nat) (rows : Rows) : List Rows := (List.range (c + 1)).map fun k => rows.filter fun r => decide (f r = k)
theorem distF_get {c : Nat} {f : Row → Nat} {rows : Rows} {k : Nat} (h : k ≤ c) : (distF c f rows)[k]? = some (rows.filter fun r => decide (f r = k)) := by
  unfold distF; rw [List.getElem?_map, List.getElem?_range (by omega)]; rfl
theorem distF_snoc {c : Nat} {f : Row → Nat} {rows : Rows} {r : Row} {k : Nat} (hk : k ≤ c) (h : f r = k) : (distF c f rows).set k ((rows.filter fun r => decide (f r = k)) ++ [r]) = distF c f (rows ++ [r]) := by
  apply List.ext_getElem?
  intro i; rw [List.getElem?_set]; have hl : (distF c f rows).length = c + 1 := by unfold distF; simp
  by_cases e : k = i
  · subst e
    rw [if_pos rfl, if_pos (by omega), distF_get hk, List.filter_append, List.filter_cons_of_pos (by simpa using h)]; rfl
  · rw [if_neg e]
    by_cases hi : i ≤ c
    · rw [distF_get hi, distF_get hi, List.filter_append, List.filter_cons_of_neg (by simp; omega), List.filter_nil, List.append_nil]
    · rw [List.getElem?_eq_none (by omega), List.getElem?_eq_none (by unfold distF; simp; omega)]
theorem distF_nil (c : Nat) (f : Row → Nat) : distF c f [] = List.replicate (c + 1) [] := by
  unfold distF
  apply List.ext_getElem?
  intro i
  by_cases h : i < c + 1
  · rw [List.getElem?_map, List.getElem?_range h, List.getElem?_replicate, if_pos h]; rfl
  · rw [List.getElem?_eq_none (by simp; omega), List.getElem?_eq_none (by simp; omega)]
theorem fit_ty1 {cs : List Col} {r : Row} {i : Int} (h : rowFits cs r = true) (hi : inR cs.length i = true) : tyV (rowAt r i) (colAt cs i).Kind := by
  obtain ⟨f1, f2, f3, f4⟩ := fits_get h; have hr : inR r.length i = true := by rw [f3]; exact hi
  have hx := inR_get (d := v0) hr; have := f4 _ _ _ hx (inR_get (d := col0) hi); unfold vFit at this; rw [Bool.or_eq_true, decide_eq_true_eq, Bool.and_eq_true, decide_eq_true_eq] at this; exact ⟨(rowOk_all f2).2 _ (List.mem_of_getElem? hx), this.imp id (fun h => h.1)⟩
def ptI (cuts : List Int) (i : Int) (r : Row) : Nat := partN cuts (rowAt r i)
def rdy (cs : List Col) (rows : Rows) (i : Int) (cuts : List Int) : Prop := rows.length ≤ 1100000 ∧ (∀ r ∈ rows, rowFits cs r = true) ∧ inR cs.length i = true ∧ (colAt cs i).Kind = 1 ∧ cutsB cuts = true
theorem rdy_row {cs : List Col} {rows : Rows} {i : Int} {cuts : List Int} (h : rdy cs rows i cuts) {r : Row} (hr : r ∈ rows) : at? r i = some (rowAt r i) ∧ tyV (rowAt r i) 1 ∧ r.length ≤ 4 := by
  obtain ⟨h1, h2, h3, h4, h5⟩ := h; have hf := h2 r hr; have hir : inR r.length i = true := by rw [(fits_get hf).2.2.1]; exact h3
  have := fit_ty1 hf h3; rw [h4] at this; exact ⟨getD_in (d := v0) hir, this, (rowOk_all (fits_get hf).2.1).1⟩
theorem dist_loop {cs : List Col} {rows : Rows} {i : Int} {cuts : List Int} (h : rdy cs rows i cuts) : ∀ (d k n : Nat), k + d = rows.length → d < n → m_impl_partsOf_l1 n i cuts rows (rows.length : Int) (k : Int) (distF cuts.length (ptI cuts i) (rows.take k)) = m_impl_partsOf_j1 (distF cuts.length (ptI cuts i) rows) := by
  have h30 := h.1; intro d
  induction d with
  | zero =>
    intro k n hk hd; obtain ⟨n, rfl⟩ : ∃ q, n = q + 1 := ⟨n - 1, by omega⟩; have : k = rows.length := by omega
    subst this; rw [m_impl_partsOf_l1, dnlt, cond_false, List.take_length]
  | succ d ih =>
    intro k n hk hd; obtain ⟨n, rfl⟩ : ∃ q, n = q + 1 := ⟨n - 1, by omega⟩; have hlt : k < rows.length := by omega
    obtain ⟨r, hr⟩ : ∃ r, rows[k]? = some r := ⟨_, List.getElem?_eq_getElem hlt⟩; obtain ⟨ha, hv, _⟩ := rdy_row h (List.mem_of_getElem? hr); have hle : ptI cuts i r ≤ cuts.length := part_le; have hg := distF_get (f := ptI cuts i) (rows := rows.take k) hle; have hfl := List.length_filter_le (fun r' => decide (ptI cuts i r' = ptI cuts i r)) (rows.take k); rw [List.length_take] at hfl; rw [m_impl_partsOf_l1, dlt hlt, cond_true, at_of hr, Option.bind_some, ha, Option.bind_some, E_PartOf (cutsB_ris h.2.2.2.2) hv, Option.bind_some]; change (at? _ ((ptI cuts i r : Nat) : Int)).bind _ = _; rw [at_of hg, Option.bind_some]; change (at? _ ((ptI cuts i r : Nat) : Int)).bind _ = _; rw [at_of hg, Option.bind_some, app1 (by omega), Option.bind_some]; change (at? _ ((ptI cuts i r : Nat) : Int)).bind _ = _; rw [at_of hg, Option.bind_some, ck1 (by omega), Option.bind_some]; change m_impl_partsOf_l1 n i cuts rows (rows.length : Int) ((k : Int) + 1) ((distF cuts.length (ptI cuts i) (rows.take k)).set (((ptI cuts i r : Nat) : Int)).toNat _) = _; rw [Int.toNat_natCast, distF_snoc hle rfl]; have ht : rows.take k ++ [r] = rows.take (k + 1) := by rw [List.take_add_one, hr]; rfl
    rw [ht, show ((k : Int) + 1) = ((k + 1 : Nat) : Int) by omega]; exact ih (k + 1) n (by omega) (by omega)
theorem E_partsOf_g {cs : List Col} {rows : Rows} {i : Int} {cuts : List Int} (h : rdy cs rows i cuts) : m_impl_partsOf rows i cuts = some (distF cuts.length (ptI cuts i) rows) := by
  have hc1 := (cutsB_ris h.2.2.2.2).1; have h30 := h.1; unfold m_impl_partsOf; rw [ckI_of (by omega) (by omega), Option.bind_some, show mk2? ((cuts.length : Int) + 1) ((cuts.length : Int) + 1) ([] : Rows) = some (distF cuts.length (ptI cuts i) []) by unfold mk2?; rw [if_pos (by omega), distF_nil, show ((cuts.length : Int) + 1).toNat = cuts.length + 1 by omega], Option.bind_some]; have := dist_loop h rows.length 0 (((rows.length : Int) - 0).toNat + 1) (by omega) fuel0; rw [List.take_zero, show (((0 : Nat) : Int)) = 0 from rfl] at this; rw [this]; unfold m_impl_partsOf_j1
  exact copies_loop (by unfold distF; simp; omega) (fun l hl => by
    unfold distF at hl; obtain ⟨k, _, rfl⟩ := List.mem_map.1 hl; have := List.length_filter_le (fun r => decide (ptI cuts i r = k)) rows; refine ⟨by omega, fun r hr => ?_⟩; have := (rdy_row h (List.mem_filter.1 hr).1).2.2; omega) _ 0 _ (by omega) fuel0
theorem spec_parts_in {cs : List Col} {rows : Rows} {i : Int} {cuts : List Int} {K : List Col → Rows → Int → List Int → Int → List Rows → Option (List Rows)} (h : rdy cs rows i cuts) (k : Nat) (o : List Rows) : m_spec_PartsOf_l2 K (((rows.length : Int) - 0).toNat + 1) cs rows i cuts (k : Int) 0 o [] = m_spec_PartsOf_j3 K cs rows i cuts (k : Int) o (rows.filter fun r => decide (ptI cuts i r = k)) := by
  have h30 := h.1; have e := scanMF (f := fun r => if decide (ptI cuts i r = k) = true then some r else none) (J := fun o' => m_spec_PartsOf_j3 K cs rows i cuts (k : Int) o o') rows (fun n m o' => m_spec_PartsOf_l2 K n cs rows i cuts (k : Int) m o o') (fun n m r o' hr ho => ?_) (fun n o' ho => by rw [m_spec_PartsOf_l2, dnlt, cond_false]) _ fuel0
  · rw [e]
    congr 1
    rw [← List.filterMap_eq_filter]; rfl
  · have hlt := lt_of_at hr
    obtain ⟨ha, hv, hl4⟩ := rdy_row h (List.mem_of_getElem? hr); rw [m_spec_PartsOf_l2, dlt hlt, cond_true, at_of hr, Option.bind_some, ha, Option.bind_some, E_spec_PartOf h.2.2.2.2 hv, Option.bind_some, beqD]; have e2 : decide (((partN cuts (rowAt r i) : Nat) : Int) = (k : Int)) = decide (ptI cuts i r = k) := by unfold ptI; rw [Bool.eq_iff_iff]; simp; omega
    rw [e2]; unfold m_spec_PartsOf_j2; cases decide (ptI cuts i r = k) with
    | true => rw [cond_true, Option.bind_some, E_l3Own (by omega), Option.bind_some, app1 (by omega), Option.bind_some, ck1 (by omega), Option.bind_some]; rfl
    | false => rw [cond_false, ck1 (by omega), Option.bind_some]; simp
def prB (cs : List Col) (i : Int) (cuts : List Int) : Bool := inR cs.length i && (decide ((colAt cs i).Kind = 1) && cutsB cuts)
def drn (cs : List Col) (rows : Rows) (cuts : List Int) : Prop := colsOk cs = true ∧ rows.length ≤ 1100000 ∧ (∀ r ∈ rows, rowFits cs r = true) ∧ cuts.length ≤ 1100000
theorem drn_rows {cs : List Col} {rows : Rows} {cuts : List Int} (h : drn cs rows cuts) : rowsOk cs rows = true ∧ rsSm rows := ⟨by unfold rowsOk; rw [h.1, List.all_eq_true.2 h.2.2.1]; rfl, fits_rsSm (by have := h.2.1; omega) h.2.2.1⟩
theorem drn_rdy {cs : List Col} {rows : Rows} {i : Int} {cuts : List Int} (h : drn cs rows cuts) (hp : prB cs i cuts = true) : rdy cs rows i cuts := by
  unfold prB at hp; simp only [Bool.and_eq_true, decide_eq_true_eq] at hp; exact ⟨h.2.1, h.2.2.1, hp.1, hp.2.1, hp.2.2⟩
theorem E_partsOk_g {cs : List Col} {rows : Rows} {i : Int} {cuts : List Int} (h : drn cs rows cuts) : m_impl_partsOk cs rows i cuts = some (prB cs i cuts) := by
  have l1 := (colsOk_all h.1).1; obtain ⟨ro, sr⟩ := drn_rows h; unfold m_impl_partsOk m_impl_partsOk_j1 prB; rw [E_impl_ColumnsOk (by omega), Option.bind_some, h.1, cond_true, E_impl_RowsOk (by omega) sr, Option.bind_some, ro, cond_true, ckI_of (by omega) (by omega), Option.bind_some, E_between, Option.bind_some]; show (bif inR cs.length i then _ else _) = _; cases hi : inR cs.length i with
  | false => rfl
  | true =>
    rw [cond_true, getD_in (d := col0) hi, Option.bind_some, beqD, E_CutsOk_g]; show (bif decide ((colAt cs i).Kind = 1) then _ else _) = _; cases decide ((colAt cs i).Kind = 1) <;> rfl
theorem E_l28 {cs : List Col} {rows : Rows} {i : Int} {cuts : List Int} (h : drn cs rows cuts) : m_spec_l28Ready cs rows i cuts = some (prB cs i cuts) := by
  have l1 := (colsOk_all h.1).1; obtain ⟨ro, sr⟩ := drn_rows h; unfold m_spec_l28Ready m_spec_l28Ready_j1 prB; rw [E_spec_CutsOk_g (by have := h.2.2.2; omega), Option.bind_some]; cases hc : cutsB cuts with
  | false => simp
  | true =>
    rw [cond_true, E_spec_RowsOk (by omega) sr, Option.bind_some, ro, cond_true, ckI_of (by omega) (by omega), Option.bind_some, E_l1In, Option.bind_some]; show (bif inR cs.length i then _ else _) = _; cases hi : inR cs.length i with
    | false => rfl
    | true =>
      rw [cond_true, getD_in (d := col0) hi, Option.bind_some, beqD]; show some (decide ((colAt cs i).Kind = 1)) = _; simp
theorem parts_out {cs : List Col} {rows : Rows} {i : Int} {cuts : List Int} (hd : drn cs rows cuts) (hp : prB cs i cuts = true) : ∀ (d k n : Nat), k + d = cuts.length + 1 → d < n → m_spec_PartsOf_l1 n cs rows i cuts (k : Int) ((List.range k).map fun k => rows.filter fun r => decide (ptI cuts i r = k)) = some (distF cuts.length (ptI cuts i) rows) := by
  have h := drn_rdy hd hp; have hl := hd.2.2.2; intro d
  induction d with
  | zero =>
    intro k n hk hd'; obtain ⟨n, rfl⟩ : ∃ q, n = q + 1 := ⟨n - 1, by omega⟩; have : k = cuts.length + 1 := by omega
    subst this; rw [m_spec_PartsOf_l1, decide_eq_false (show ¬ ((cuts.length + 1 : Nat) : Int) ≤ (cuts.length : Int) by omega), cond_false]; rfl
  | succ d ih =>
    intro k n hk hd'; obtain ⟨n, rfl⟩ : ∃ q, n = q + 1 := ⟨n - 1, by omega⟩; rw [m_spec_PartsOf_l1, decide_eq_true (show (k : Int) ≤ (cuts.length : Int) by omega), cond_true, E_l28 hd, hp, Option.bind_some]; unfold m_spec_PartsOf_j1; rw [cond_true, spec_parts_in h]; unfold m_spec_PartsOf_j3 m_spec_PartsOf_j4; rw [app_of (by simp; omega), Option.bind_some, ck1 (by omega), Option.bind_some]; have := ih (k + 1) n (by omega) (by omega); rw [List.range_succ, List.map_append] at this; rw [show ((k : Int) + 1) = ((k + 1 : Nat) : Int) by omega]; exact this
theorem E_spec_PartsOf {cs : List Col} {rows : Rows} {i : Int} {cuts : List Int} (hd : drn cs rows cuts) : m_spec_PartsOf cs rows i cuts = some (if prB cs i cuts = true then distF cuts.length (ptI cuts i) rows else []) := by
  unfold m_spec_PartsOf
  by_cases hp : prB cs i cuts = true
  · rw [if_pos hp]
    exact parts_out hd hp (cuts.length + 1) 0 1000000000 (by omega) (by have := hd.2.2.2; omega)
  · rw [if_neg hp, show (1000000000 : Nat) = 999999999 + 1 from rfl, m_spec_PartsOf_l1, E_l28 hd, Option.bind_some]
    have hp' : prB cs i cuts = false := by simpa using hp
    rw [hp']; unfold m_spec_PartsOf_j1; cases decide ((0 : Int) ≤ (cuts.length : Int)) <;> rfl
def suitI (i kind n : Int) (r : Row) : Bool := decide (cmpT kind (rowAt r i) (num n) = 1)
def ksG (cuts : List Int) (kind n : Int) : List Int := if 1 ≤ kind ∧ kind ≤ 4 then ksOf cuts kind n else []
def prunedG (cs : List Col) (rows : Rows) (i : Int) (cuts : List Int) (kind n : Int) : Rows := if prB cs i cuts = true then (ksG cuts kind n).flatMap fun k => (rows.filter fun r => decide (((ptI cuts i r : Nat) : Int) = k)).filter (suitI i kind n) else []
theorem prB_cuts {cs : List Col} {i : Int} {cuts : List Int} (hp : prB cs i cuts = true) : cutsB cuts = true := by
  unfold prB at hp; simp only [Bool.and_eq_true] at hp; exact hp.2.2
theorem ksG_ok {cuts : List Int} {kind n : Int} (hc : cutsB cuts = true) (hn : -9999 ≤ n ∧ n ≤ 9999) : (ksG cuts kind n).length ≤ 20 ∧ ∀ k ∈ ksG cuts kind n, 0 ≤ k ∧ k ≤ cuts.length := by
  unfold ksG
  by_cases hk : 1 ≤ kind ∧ kind ≤ 4
  · rw [if_pos hk]
    have := ks_ok (kind := kind) hc hk hn; exact ⟨this.2.1, this.2.2.1⟩
  · rw [if_neg hk]; exact ⟨by simp, by simp⟩
theorem fold_flat (g : Int → Rows) : ∀ (x : List Int) (o : Rows), x.foldl (fun (o : Rows) (k : Int) => o ++ g k) o = o ++ x.flatMap g
  | [], o => by simp
  | k :: x, o => by rw [List.foldl_cons, fold_flat g x, List.flatMap_cons, List.append_assoc]
theorem distF_at {c : Nat} {f : Row → Nat} {rows : Rows} {k : Int} (h0 : 0 ≤ k) (h : k ≤ c) : at? (distF c f rows) k = some (rows.filter fun r => decide (((f r : Nat) : Int) = k)) := by
  have hd := distF_get (c := c) (f := f) (rows := rows) (k := k.toNat) (by omega)
  have ef : (rows.filter fun r => decide (f r = k.toNat)) = rows.filter fun r => decide (((f r : Nat) : Int) = k) := by
    refine List.filter_congr fun r _ => ?_; rw [Bool.eq_iff_iff, decide_eq_true_eq, decide_eq_true_eq]; omega
  rw [ef] at hd; exact at_z h0 hd
theorem num_sz (n : Int) : (num n).S.size ≤ 20 := by show ByteArray.size ⟨#[]⟩ ≤ 20; decide
theorem E_impl_PrunedRows_g {cs : List Col} {rows : Rows} {i : Int} {cuts : List Int} {kind n : Int} (hd : drn cs rows cuts) (hn : -9999 ≤ n ∧ n ≤ 9999) : m_impl_PrunedRows cs rows i cuts kind n = some (prunedG cs rows i cuts kind n) := by
  unfold m_impl_PrunedRows prunedG; rw [E_partsOk_g hd, Option.bind_some]
  by_cases hp : prB cs i cuts = true
  · have h := drn_rdy hd hp
    have hc := prB_cuts hp; obtain ⟨k1, k2⟩ := ksG_ok (kind := kind) hc hn; have h30 := hd.2.1; rw [hp, Bool.not_true, cond_false, if_pos rfl, E_partsOf_g h, Option.bind_some, E_impl_PartsFor_g hc hn, Option.bind_some]; change m_impl_PrunedRows_l1 ((((ksG cuts kind n).length : Int) - 0).toNat + 1) i kind n (distF cuts.length (ptI cuts i) rows) (ksG cuts kind n) ((ksG cuts kind n).length : Int) 0 [] = _; have h' := scanF (f := fun (o : Rows) (k : Int) => o ++ (rows.filter fun r => decide (((ptI cuts i r : Nat) : Int) = k)).filter (suitI i kind n)) (J := fun o => m_impl_PrunedRows_j1 o) (fun k o => o.length ≤ 1100000 * k) (ksG cuts kind n) (fun f k o => m_impl_PrunedRows_l1 f i kind n (distF cuts.length (ptI cuts i) rows) (ksG cuts kind n) ((ksG cuts kind n).length : Int) k o) (fun f k x o hx ho => ?_) (fun f o ho => by rw [m_impl_PrunedRows_l1, dnlt, cond_false]) _ fuel0 [] (by simp)
    · rw [h'.1, fold_flat, List.nil_append]; rfl
    · have hlt := lt_of_at hx
      have hb := k2 x (List.mem_of_getElem? hx); have l1 := List.length_filter_le (fun r => decide (((ptI cuts i r : Nat) : Int) = x)) rows; have l2 := List.length_filter_le (suitI i kind n) (rows.filter fun r => decide (((ptI cuts i r : Nat) : Int) = x)); refine ⟨?_, by rw [List.length_append]; omega⟩; rw [m_impl_PrunedRows_l1, dlt hlt, cond_true, at_of hx, Option.bind_some, distF_at hb.1 hb.2, Option.bind_some]
      rw [E_kept (q := suitI i kind n) (by omega) (fun r hr => (rdy_row h (List.mem_filter.1 hr).1).2.2) (fun r hr => by
        obtain ⟨ha, hv, _⟩ := rdy_row h (List.mem_filter.1 hr).1; unfold m_impl_PrunedRows_1; rw [ha, Option.bind_some]; change (m_impl_Compare kind (rowAt r i) (num n)).bind _ = _; rw [E_impl_Compare (by have := tyV_sz1 hv; omega) (by have := num_sz n; omega), Option.bind_some, beqD]; rfl), Option.bind_some, app_of (by omega), Option.bind_some, ck1 (by omega), Option.bind_some]
  · rw [if_neg hp]
    have hp' : prB cs i cuts = false := by simpa using hp
    rw [hp']; rfl
theorem spec_in {K : Int → Int → Int → List Rows → List Int → Int → Rows → Option Rows} {cs : List Col} {rows part : Rows} {i : Int} {cuts ks : List Int} {kind n : Int} {L : List Rows} {q : Nat} {o : Rows} (h : rdy cs rows i cuts) (hs : ∀ r ∈ part, r ∈ rows) (hp : part.length ≤ 1100000) (ho : o.length ≤ 30000000) (hq : q < 1000) :
    m_spec_PrunedRows_l2 K (((part.length : Int) - 0).toNat + 1) i kind n L ks (q : Int) part 0 o = K i kind n L ks ((q : Int) + 1) (o ++ part.filter (suitI i kind n)) := by
  have h' := scanF (f := fun (o : Rows) r => if suitI i kind n r = true then o ++ [r] else o) (J := fun o => m_spec_PrunedRows_j3 K i kind n L ks (q : Int) o) (fun k o => o.length ≤ 30000000 + k) part (fun f k o => m_spec_PrunedRows_l2 K f i kind n L ks (q : Int) part k o) (fun f k r o hr ho => ?_) (fun f o ho => by rw [m_spec_PrunedRows_l2, dnlt, cond_false]) _ fuel0 o (by omega)
  · rw [h'.1]
    unfold m_spec_PrunedRows_j3; rw [ck1 (by omega), Option.bind_some]
    congr 1
    clear h' hs hp ho
    induction part generalizing o with
    | nil => simp
    | cons r part ih =>
      rw [List.foldl_cons, ih]
      by_cases e : suitI i kind n r = true
      · rw [if_pos e, List.filter_cons_of_pos e, List.append_assoc]; rfl
      · rw [if_neg e, List.filter_cons_of_neg e]
  · have hlt := lt_of_at hr
    obtain ⟨ha, hv, _⟩ := rdy_row h (hs r (List.mem_of_getElem? hr)); refine ⟨?_, by show (if _ then _ else _ : Rows).length ≤ _; split <;> (try rw [List.length_append, List.length_singleton]) <;> omega⟩; rw [m_spec_PrunedRows_l2, dlt hlt, cond_true, at_of hr, Option.bind_some, ha, Option.bind_some]; change (m_spec_Compare kind (rowAt r i) (num n)).bind _ = _; rw [E_spec_Compare (by unfold vSm; have := tyV_sz1 hv; omega) (by unfold vSm; have := num_sz n; omega), Option.bind_some, beqD]; unfold m_spec_PrunedRows_j2; show (bif suitI i kind n r then _ else _) = _; cases suitI i kind n r with
    | true => rw [cond_true, Option.bind_some, app1 (by omega), Option.bind_some, ck1 (by omega), Option.bind_some]; rfl
    | false => rw [cond_false, ck1 (by omega), Option.bind_some]; rfl
theorem E_spec_PrunedRows_g {cs : List Col} {rows : Rows} {i : Int} {cuts : List Int} {kind n : Int} (hd : drn cs rows cuts) (hn : -9999 ≤ n ∧ n ≤ 9999) : m_spec_PrunedRows cs rows i cuts kind n = some (prunedG cs rows i cuts kind n) := by
  unfold m_spec_PrunedRows prunedG; rw [E_spec_PartsOf hd, Option.bind_some]
  by_cases hp : prB cs i cuts = true
  · have h := drn_rdy hd hp
    have hc := prB_cuts hp; obtain ⟨k1, k2⟩ := ksG_ok (kind := kind) hc hn; have h30 := hd.2.1; rw [if_pos hp, if_pos hp, E_spec_PartsFor hc hn, Option.bind_some]; change m_spec_PrunedRows_l1 1000000000 i kind n (distF cuts.length (ptI cuts i) rows) (ksG cuts kind n) 0 [] = _; have h' := scanF (f := fun (o : Rows) (k : Int) => o ++ (rows.filter fun r => decide (((ptI cuts i r : Nat) : Int) = k)).filter (suitI i kind n)) (J := fun o => some o) (fun k o => o.length ≤ 1100000 * k) (ksG cuts kind n) (fun f k o => m_spec_PrunedRows_l1 f i kind n (distF cuts.length (ptI cuts i) rows) (ksG cuts kind n) k o) (fun f k x o hx ho => ?_) (fun f o ho => by rw [m_spec_PrunedRows_l1, dnlt, cond_false]; rfl) 1000000000 (by omega) [] (by simp)
    · rw [h'.1, fold_flat, List.nil_append]
    · have hlt := lt_of_at hx
      have hb := k2 x (List.mem_of_getElem? hx); have l1 := List.length_filter_le (fun r => decide (((ptI cuts i r : Nat) : Int) = x)) rows; have l2 := List.length_filter_le (suitI i kind n) (rows.filter fun r => decide (((ptI cuts i r : Nat) : Int) = x)); refine ⟨?_, by rw [List.length_append]; omega⟩; rw [m_spec_PrunedRows_l1, dlt hlt, cond_true]; unfold m_spec_PrunedRows_j1; rw [decide_eq_true (show ((distF cuts.length (ptI cuts i) rows).length : Int) > 0 by unfold distF; simp), cond_true, at_of hx, Option.bind_some, distF_at hb.1 hb.2, Option.bind_some, spec_in h (fun r hr => (List.mem_filter.1 hr).1) (by omega) (by omega) (by omega)]
  · rw [if_neg hp, if_neg hp]
    have e0 : ∀ ks : List Int, m_spec_PrunedRows_l1 1000000000 i kind n [] ks 0 [] = some [] := by
      intro ks; rw [show (1000000000 : Nat) = 999999999 + 1 from rfl, m_spec_PrunedRows_l1]; unfold m_spec_PrunedRows_j1; cases decide ((0 : Int) < (ks.length : Int)) <;> rfl
    obtain ⟨ks, hks⟩ : ∃ ks, m_spec_PartsFor cuts kind n = some ks := by
      cases hc : cutsB cuts with
      | true => exact ⟨_, E_spec_PartsFor hc hn⟩
      | false =>
        unfold m_spec_PartsFor; rw [E_spec_CutsOk_g (by have := hd.2.2.2; omega), hc]; exact ⟨[], rfl⟩
    rw [hks, Option.bind_some, e0]
def markM {α : Type} (mk : Int → α → α) (w : α → Int) : Int → List α → List α
  | _, [] => []
  | c, x :: r => mk c x :: markM mk w (c + w x) r
def endM {α : Type} (w : α → Int) : Int → List α → Int
  | c, [] => c
  | c, x :: r => endM w (c + w x) r
theorem markM_len {α : Type} {mk : Int → α → α} {w : α → Int} : ∀ (c : Int) (l : List α), (markM mk w c l).length = l.length
  | _, [] => rfl
  | c, x :: l => by rw [markM, List.length_cons, List.length_cons, markM_len]
theorem endM_ge {α : Type} {w : α → Int} (hw : ∀ x, 0 ≤ w x) : ∀ (c : Int) (l : List α), c ≤ endM w c l
  | c, [] => Int.le_refl _
  | c, x :: l => by
    have := endM_ge hw (c + w x) l; have := hw x; rw [endM]; omega
theorem endM_sum {α : Type} {w : α → Int} {m : α → Nat} (hm : ∀ x, w x ≤ 3 * (m x : Int)) : ∀ (c : Int) (l : List α), endM w c l ≤ c + 3 * ((l.map m).sum : Int)
  | c, [] => by simp [endM]
  | c, x :: l => by
    have h1 := endM_sum hm (c + w x) l; have h2 := hm x; rw [endM, List.map_cons, List.sum_cons]
    push_cast
    omega
theorem markLoop {α : Type} {mk : Int → α → α} {w : α → Int} {B : Int} {ok : α → Prop} (hw : ∀ x, 0 ≤ w x) (L : Nat → Int → Int → List α → Option (Int × List α))
    (hs : ∀ (f : Nat) (d : List α) (x : α) (r : List α) (c : Int), d.length < 1000000000000 → 0 ≤ c → c + w x ≤ B → ok x → L (f + 1) c (d.length : Int) (d ++ x :: r) = L f (c + w x) ((d.length + 1 : Nat) : Int) (d ++ mk c x :: r))
    (he : ∀ (f : Nat) (c : Int) (o : List α), L (f + 1) c (o.length : Int) o = some (c, o)) :
    ∀ (r d : List α) (c : Int) (f : Nat), r.length < f → (∀ x ∈ r, ok x) → 0 ≤ c → endM w c r ≤ B → d.length + r.length ≤ 900000000000 → L f c (d.length : Int) (d ++ r) = some (endM w c r, d ++ markM mk w c r)
  | [], d, c, f, hf, _, _, _, _ => by
    obtain ⟨f, rfl⟩ : ∃ q, f = q + 1 := ⟨f - 1, by omega⟩; rw [List.append_nil, he]; simp [markM, endM]
  | x :: r, d, c, f, hf, hok, hc, hB, hl => by
    obtain ⟨f, rfl⟩ : ∃ q, f = q + 1 := ⟨f - 1, by omega⟩; rw [endM] at hB ⊢; have h1 := endM_ge hw (c + w x) r; have h2 := hw x; rw [List.length_cons] at hf hl; rw [hs f d x r c (by omega) hc (by omega) (hok x (by simp))]; have ih := markLoop hw L hs he r (d ++ [mk c x]) (c + w x) f (by omega) (fun y hy => hok y (by simp [hy])) (by omega) hB (by rw [List.length_append, List.length_singleton]; omega); rw [List.append_assoc, List.singleton_append, List.length_append, List.length_singleton] at ih; rw [ih, markM, List.append_assoc, List.singleton_append]
theorem heldLoop {α : Type} {mk : Int → α → α} {w : α → Int} {B : Int} {ok : α → Prop} (hw : ∀ x, 0 ≤ w x) (t0 : List α) (L : Nat → Int → Int → Option Int)
    (hs : ∀ (f k : Nat) (c : Int) (x : α), t0[k]? = some (mk c x) → k < 1000000000000 → 0 ≤ c → c + w x ≤ B → ok x → L (f + 1) c (k : Int) = L f (c + w x) ((k + 1 : Nat) : Int))
    (he : ∀ (f : Nat) (c : Int), L (f + 1) c (t0.length : Int) = some c) :
    ∀ (r d : List α) (c : Int) (f : Nat), t0 = d ++ markM mk w c r → r.length < f → (∀ x ∈ r, ok x) → 0 ≤ c → endM w c r ≤ B → d.length + r.length ≤ 900000000000 → L f c (d.length : Int) = some (endM w c r)
  | [], d, c, f, ht, hf, _, _, _, _ => by
    obtain ⟨f, rfl⟩ : ∃ q, f = q + 1 := ⟨f - 1, by omega⟩; rw [markM, List.append_nil] at ht; rw [← ht, he]; rfl
  | x :: r, d, c, f, ht, hf, hok, hc, hB, hl => by
    obtain ⟨f, rfl⟩ : ∃ q, f = q + 1 := ⟨f - 1, by omega⟩; rw [endM] at hB ⊢; have h1 := endM_ge hw (c + w x) r; have h2 := hw x; rw [List.length_cons] at hf hl; rw [markM] at ht; have hx : t0[d.length]? = some (mk c x) := by rw [ht]; simp
    rw [hs f d.length c x hx (by omega) hc (by omega) (hok x (by simp))]; have ih := heldLoop hw t0 L hs he r (d ++ [mk c x]) (c + w x) f (by rw [ht, List.append_assoc, List.singleton_append]) (by omega) (fun y hy => hok y (by simp [hy])) (by omega) hB (by rw [List.length_append, List.length_singleton]; omega); rw [List.length_append, List.length_singleton] at ih; exact ih
theorem T_markText {k : Int} (hk : k ≤ 1000000000000) : Tot (m_laws_markText k) fun _ => True := by
  unfold m_laws_markText; refine Tot.bif (fun _ => Tot.ret trivial) (fun h0 => ?_); have hk0 : 0 < k := by simpa using h0
  have key : ∀ (n : Nat) (t : Int) (a : ByteArray) (f : Nat), t ≤ n → 0 ≤ t → n < f → (a.size : Int) + t ≤ 2000000000000 → Tot (m_laws_markText_l1 f t a) fun _ => True := by
    intro n
    induction n with
    | zero =>
      intro t a f h1 h2 h3 h4; obtain ⟨f, rfl⟩ : ∃ q, f = q + 1 := ⟨f - 1, by omega⟩; rw [m_laws_markText_l1, decide_eq_false (by omega), cond_false]; unfold m_laws_markText_j1; exact Tot.cat (by rw [show ByteArray.size ⟨#[109]⟩ = 1 from rfl]; omega) (Tot.ret trivial)
    | succ n ih =>
      intro t a f h1 h2 h3 h4; obtain ⟨f, rfl⟩ : ∃ q, f = q + 1 := ⟨f - 1, by omega⟩; rw [m_laws_markText_l1]; refine Tot.bif (fun ht => ?_) (fun _ => ?_)
      · have ht' : 0 < t := by simpa using ht
        have e1 : t.tmod 10 = t % 10 := Int.tmod_eq_emod_of_nonneg (by omega); have e2 : t.tdiv 10 = t / 10 := Int.tdiv_eq_ediv_of_nonneg (by omega); refine Tot.rem (by omega) (Tot.ck (by omega) (by omega) (Tot.cat ?_ (Tot.quo (by omega) (by omega) (by omega) ?_)))
        · have : ∀ b : UInt8, (bStr [b]).size = 1 := fun b => rfl
          rw [this]; omega
        · refine ih _ _ f (by omega) (by omega) (by omega) ?_
          have : ∀ b : UInt8, (bStr [b]).size = 1 := fun b => rfl; rw [ByteArray.size_append, this]
          push_cast
          omega
      · unfold m_laws_markText_j1
        exact Tot.cat (by rw [show ByteArray.size ⟨#[109]⟩ = 1 from rfl]; omega) (Tot.ret trivial)
  exact key k.toNat k ⟨#[]⟩ _ (by omega) (by omega) (by omega) (by rw [show ByteArray.size ⟨#[]⟩ = 0 from rfl]; omega)
def mtx (k : Int) : ByteArray := (m_laws_markText k).getD ⟨#[]⟩
theorem E_markText {k : Int} (hk : k ≤ 1000000000000) : m_laws_markText k = some (mtx k) := by
  obtain ⟨t, ht, _⟩ := T_markText hk; unfold mtx; rw [ht]; rfl
def mkV (c : Int) (_ : V) : V := ⟨c, c + 1, mtx (c + 2)⟩
abbrev markV (c : Int) (l : Row) : Row := markM mkV (fun _ => 3) c l
theorem endVl (c : Int) : ∀ l : Row, endM (fun _ : V => 3) c l = c + 3 * l.length
  | [] => by simp [endM]
  | x :: l => by rw [endM, endVl (c + 3) l, List.length_cons]; push_cast; omega
theorem set_at {α : Type} {d r : List α} {x y : α} : (d ++ x :: r).set d.length y = d ++ y :: r := by rw [List.set_append_right _ _ (Nat.le_refl _)]; simp
theorem at_at {α : Type} {d r : List α} {x : α} : at? (d ++ x :: r) (d.length : Int) = some x := at_of (by simp)
theorem lt_at {α : Type} {d r : List α} {x : α} : decide ((d.length : Int) < ((d ++ x :: r).length : Int)) = true := decide_eq_true (by rw [List.length_append, List.length_cons]; omega)
theorem E_markV {l : Row} {k : Int} (hk : 0 ≤ k) (hB : k + 3 * l.length ≤ 1000000000000) : m_laws_markValueS l k = some (k + 3 * l.length, markV k l) := by
  unfold m_laws_markValueS
  have := markLoop (mk := mkV) (w := fun _ => 3) (B := 1000000000000) (ok := fun _ => True) (fun _ => by decide) (fun f c i o => m_laws_markValueS_l1 f c i o) (fun f d x r c hd hc hB _ => by
    rw [m_laws_markValueS_l1, lt_at, cond_true, at_at, Option.bind_some, Option.bind_some, ltE, ckI_of (by omega) (by omega), Option.bind_some, Int.toNat_natCast, set_at, at_at, Option.bind_some, Option.bind_some, ltE, ckI_of (by omega) (by omega), Option.bind_some, E_markText (by omega), Option.bind_some, set_at, at_at, Option.bind_some, Option.bind_some, ltE, ckI_of (by omega) (by omega), Option.bind_some, ckI_of (by omega) (by omega), Option.bind_some, set_at]; unfold mkV; rw [show c + 1 + 1 + 1 = c + 3 by omega, show c + 1 + 1 = c + 2 by omega, show ((d.length : Int) + 1) = ((d.length + 1 : Nat) : Int) by omega]) (fun f c o => by rw [m_laws_markValueS_l1, dnlt]; rfl) l [] k _ fuel0 (fun _ _ => trivial) hk (by rw [endVl]; exact hB) (by simp only [List.length_nil]; omega)
  rw [endVl] at this; exact this
theorem E_heldV {l : Row} {k : Int} (hk : 0 ≤ k) (hB : k + 3 * l.length ≤ 1000000000000) : m_laws_heldValueS (markV k l) k = some (k + 3 * l.length) := by
  unfold m_laws_heldValueS
  have := heldLoop (mk := mkV) (w := fun _ => 3) (B := 1000000000000) (ok := fun _ => True) (fun _ => by decide) (markV k l) (fun f c i => m_laws_heldValueS_l1 f (markV k l) c i) (fun f i c x hx hi hc hB _ => by
    rw [m_laws_heldValueS_l1, dlt (lt_of_at hx), cond_true, at_of hx, Option.bind_some]; unfold mkV; simp only [bne_self_eq_false, cond_false, Option.bind_some]; rw [ckI_of (by omega) (by omega), Option.bind_some]; simp only [bne_self_eq_false, cond_false, Option.bind_some]; rw [ckI_of (by omega) (by omega), Option.bind_some, E_markText (by omega), Option.bind_some, show c + 1 + 1 = c + 2 by omega]; rw [show sEq (mtx (c + 2)) (mtx (c + 2)) = true by rw [sEq_eq]; exact decide_eq_true rfl, Bool.not_true, cond_false, ckI_of (by omega) (by omega), Option.bind_some, ck1 (by omega), Option.bind_some, show c + 2 + 1 = c + 3 by omega]; rfl) (fun f c => by rw [m_laws_heldValueS_l1, dnlt]; rfl) l [] k (((markV k l).length : Int) - 0).toNat.succ rfl (by rw [markM_len]; omega) (fun _ _ => trivial) hk (by rw [endVl]; exact hB) (by simp only [List.length_nil]; omega)
  rw [endVl] at this; exact this
def wR (r : Row) : Int := 3 * r.length
def mkR (c : Int) (r : Row) : Row := markV c r
theorem E_markR {l : Rows} {k : Int} (hk : 0 ≤ k) (hB : endM wR k l ≤ 1000000000000) (hl : l.length ≤ 900000000000) : m_laws_markValueSS l k = some (endM wR k l, markM mkR wR k l) := by
  unfold m_laws_markValueSS
  exact markLoop (mk := mkR) (w := wR) (B := 1000000000000) (ok := fun _ => True) (fun x => by unfold wR; omega) (fun f c i o => m_laws_markValueSS_l1 f c i o) (fun f d x r c hd hc hB _ => by
    have hB' : c + 3 * (x.length : Int) ≤ 1000000000000 := hB; rw [m_laws_markValueSS_l1, lt_at, cond_true, at_at, Option.bind_some, Option.bind_some, E_markV hc hB', Option.bind_some, lenQ_ok (markM_len _ _), Option.bind_some, ltE, ckI_of (by omega) (by omega), Option.bind_some, Int.toNat_natCast, set_at]; rfl) (fun f c o => by rw [m_laws_markValueSS_l1, dnlt]; rfl) l [] k _ fuel0 (fun _ _ => trivial) hk hB (by simp only [List.length_nil]; omega)
theorem vokE_b {v : V} (h : vOk v = true) : v.S.size ≤ 6 ∧ -9999 ≤ v.N ∧ v.N ≤ 9999 := by
  have e0 : (⟨#[]⟩ : ByteArray).size = 0 := rfl; unfold vOk at h
  by_cases h0 : v.Kind = 0
  · rw [if_pos h0, decide_eq_true_eq] at h
    rw [h]; exact ⟨by show (0 : Nat) ≤ 6; omega, by show (-9999 : Int) ≤ 0; omega, by show (0 : Int) ≤ 9999; omega⟩
  rw [if_neg h0] at h
  by_cases h1 : v.Kind = 1
  · rw [if_pos h1, Bool.and_eq_true, Bool.and_eq_true, decide_eq_true_eq, decide_eq_true_eq, decide_eq_true_eq] at h
    refine ⟨by rw [h.1, e0]; omega, h.2.1, h.2.2⟩
  rw [if_neg h1] at h
  by_cases h2 : v.Kind = 2
  · rw [if_pos h2, Bool.and_eq_true, Bool.and_eq_true, decide_eq_true_eq, decide_eq_true_eq] at h
    exact ⟨h.1.2, by omega, by omega⟩
  rw [if_neg h2] at h
  by_cases h3 : v.Kind = 3
  · rw [if_pos h3, Bool.and_eq_true, Bool.and_eq_true, decide_eq_true_eq, decide_eq_true_eq, decide_eq_true_eq] at h
    exact ⟨by rw [h.1, e0]; omega, by omega, by omega⟩
  rw [if_neg h3] at h; cases h
theorem rowOkE_b {r : Row} (h : rowOk r = true) : r.length ≤ 4 ∧ ∀ v ∈ r, vOk v = true := by
  unfold rowOk at h; rw [Bool.and_eq_true, decide_eq_true_eq, List.all_eq_true] at h; exact h
theorem smE_Value {v : S_laws_Value} (h : wt_laws_Value v ≤ 1048576) : vSm (cv_laws_Value v) := by unfold wt_laws_Value at h; unfold vSm cv_laws_Value; simp only; omega
theorem smE_row {l : List S_laws_Value} (h : wt_Llaws_Value l ≤ 1048576) : rSm (cv_Llaws_Value l) := by
  refine ⟨?_, ?_⟩
  · have := wt_Llaws_Value_len (l := l); unfold cv_Llaws_Value; rw [List.length_map]; omega
  · intro v hv
    obtain ⟨x, hx, rfl⟩ := List.mem_map.1 hv; exact smE_Value (by have := wt_Llaws_Value_mem hx; omega)
theorem smE_rows {l : List (List S_laws_Value)} (h : wt_LLlaws_Value l ≤ 1048576) : rsSm (cv_LLlaws_Value l) := by
  refine ⟨?_, ?_⟩
  · have := wt_LLlaws_Value_len (l := l); unfold cv_LLlaws_Value; rw [List.length_map]; omega
  · intro v hv
    obtain ⟨x, hx, rfl⟩ := List.mem_map.1 hv; exact smE_row (by have := wt_LLlaws_Value_mem hx; omega)
def eqR (r x : Row) : Bool := decide (x = r)
theorem E_heldR {l : Rows} {k : Int} (hk : 0 ≤ k) (hB : endM wR k l ≤ 1000000000000) (hl : l.length ≤ 900000000000) : m_laws_heldValueSS (markM mkR wR k l) k = some (endM wR k l) := by
  unfold m_laws_heldValueSS
  exact heldLoop (mk := mkR) (w := wR) (B := 1000000000000) (ok := fun _ => True) (fun x => by unfold wR; omega) (markM mkR wR k l) (fun f c i => m_laws_heldValueSS_l1 f (markM mkR wR k l) c i) (fun f i c x hx hi hc hB _ => by
    have hB' : c + 3 * (x.length : Int) ≤ 1000000000000 := hB; rw [m_laws_heldValueSS_l1, dlt (lt_of_at hx), cond_true, at_of hx, Option.bind_some]; unfold mkR; rw [E_heldV hc hB', Option.bind_some, decide_eq_false (by omega), cond_false, ck1 (by omega), Option.bind_some]; rfl) (fun f c => by rw [m_laws_heldValueSS_l1, dnlt]; rfl) l [] k (((markM mkR wR k l).length : Int) - 0).toNat.succ rfl (by rw [markM_len]; omega) (fun _ _ => trivial) hk hB (by simp only [List.length_nil]; omega)
theorem sumL5 {α : Type} {f g : α → Nat} : ∀ {l : List α}, (∀ x ∈ l, f x ≤ g x) → (l.map f).sum ≤ (l.map g).sum
  | [], _ => Nat.le_refl _
  | x :: l, h => by
    rw [List.map_cons, List.sum_cons, List.map_cons, List.sum_cons]; have := sumL5 (f := f) (g := g) (l := l) fun y hy => h y (by simp [hy]); have := h x (by simp); omega
theorem sumB5 {α : Type} {f : α → Nat} {B : Nat} : ∀ {l : List α}, (∀ x ∈ l, f x ≤ B) → (l.map f).sum ≤ l.length * B
  | [], _ => Nat.zero_le _
  | x :: l, h => by
    rw [List.map_cons, List.sum_cons, List.length_cons, Nat.succ_mul]; have := sumB5 (f := f) (B := B) (l := l) fun y hy => h y (by simp [hy]); have := h x (by simp); omega
theorem endR_w (c : Int) (l : Rows) : endM wR c l ≤ c + 3 * (wt_LLimpl_Value l : Int) := by
  have h1 := endM_sum (w := wR) (m := fun r => r.length) (fun x => by unfold wR; omega) c l; have h2 : (l.map fun r : Row => r.length).sum ≤ (l.map fun x => wt_Limpl_Value x).sum := sumL5 fun x _ => wt_Limpl_Value_len; unfold wt_LLimpl_Value
  push_cast
  omega
theorem wt_row5 {r : Row} (h : rowOk r = true) : wt_Limpl_Value r ≤ 28 := by
  obtain ⟨h1, h2⟩ := rowOkE_b h; have h3 : (r.map fun v => wt_impl_Value v).sum ≤ r.length * 6 := sumB5 fun v hv => (vokE_b (h2 v hv)).1; unfold wt_Limpl_Value; omega
theorem wt_rows5 {l : Rows} (hl : l.length ≤ 200000000) (h : ∀ r ∈ l, rowOk r = true) : wt_LLimpl_Value l ≤ 10000000000 := by
  have h3 : (l.map fun t => wt_Limpl_Value t).sum ≤ l.length * 28 := sumB5 fun t ht => wt_row5 (h t ht); unfold wt_LLimpl_Value; omega
theorem drnA {cs : List Col} {rows : Rows} {cuts : List Int} (hr : rowsOk cs rows = true) (hs : rows.length ≤ 1100000) (hl : cuts.length ≤ 1100000) : drn cs rows cuts := by
  unfold rowsOk at hr; rw [Bool.and_eq_true, List.all_eq_true] at hr; exact ⟨hr.1, hs, hr.2, hl⟩
theorem numOk_n {n : Int} (h : ¬(-9999 ≤ n ∧ n ≤ 9999)) : (decide (-9999 ≤ n) && decide (n ≤ 9999)) = false := by
  rw [Bool.and_eq_false_iff, decide_eq_false_iff_not, decide_eq_false_iff_not]; omega
def prunedA (cs : List Col) (rows : Rows) (i : Int) (cuts : List Int) (kind n : Int) : Rows := if rowsOk cs rows = true ∧ (-9999 ≤ n ∧ n ≤ 9999) then prunedG cs rows i cuts kind n else []
theorem E_impl_PF0 {cuts : List Int} {kind n : Int} (hn : ¬(-9999 ≤ n ∧ n ≤ 9999)) : m_impl_PartsFor cuts kind n = some [] := by
  unfold m_impl_PartsFor; rw [E_CutsOk_g, Option.bind_some]; unfold m_impl_PartsFor_j1; cases cutsB cuts with
  | false => rfl
  | true =>
    rw [Bool.not_true, cond_false, show m_impl_numOk n = some false by unfold m_impl_numOk; rw [E_between, numOk_n hn]; rfl]; rfl
theorem E_spec_PF0 {cuts : List Int} {kind n : Int} (hl : cuts.length ≤ 1100000) (hn : ¬(-9999 ≤ n ∧ n ≤ 9999)) : m_spec_PartsFor cuts kind n = some [] := by
  unfold m_spec_PartsFor; rw [E_spec_CutsOk_g hl, Option.bind_some]; unfold m_spec_PartsFor_j1; cases cutsB cuts with
  | false => rfl
  | true =>
    rw [Bool.not_true, cond_false, E_l1In, numOk_n hn]; rfl
theorem E_impl_PrunedRows_a {cs : List Col} {rows : Rows} {i : Int} {cuts : List Int} {kind n : Int} (lc : cs.length ≤ 1100000) (hs : rsSm rows) (hr : rows.length ≤ 1100000) (hl : cuts.length ≤ 1100000) : m_impl_PrunedRows cs rows i cuts kind n = some (prunedA cs rows i cuts kind n) := by
  unfold prunedA
  by_cases hk : rowsOk cs rows = true
  · have hd := drnA hk hr hl
    by_cases hn : -9999 ≤ n ∧ n ≤ 9999
    · rw [if_pos ⟨hk, hn⟩]; exact E_impl_PrunedRows_g hd hn
    · rw [if_neg (fun h => hn h.2)]
      unfold m_impl_PrunedRows; rw [E_partsOk_g hd, Option.bind_some]
      by_cases hp : prB cs i cuts = true
      · rw [hp, Bool.not_true, cond_false, E_partsOf_g (drn_rdy hd hp), Option.bind_some, E_impl_PF0 hn, Option.bind_some]
        rfl
      · have hp' : prB cs i cuts = false := by simpa using hp
        rw [hp']; rfl
  · rw [if_neg (fun h => hk h.1)]
    have hk' : rowsOk cs rows = false := by simpa using hk
    unfold m_impl_PrunedRows m_impl_partsOk m_impl_partsOk_j1; rw [E_impl_ColumnsOk (by omega), Option.bind_some]; cases colsOk cs with
    | false => rfl
    | true => rw [cond_true, E_impl_RowsOk (by omega) hs, Option.bind_some, hk']; rfl
theorem E_spec_PrunedRows_a {cs : List Col} {rows : Rows} {i : Int} {cuts : List Int} {kind n : Int} (lc : cs.length ≤ 1100000) (hs : rsSm rows) (hr : rows.length ≤ 1100000) (hl : cuts.length ≤ 1100000) : m_spec_PrunedRows cs rows i cuts kind n = some (prunedA cs rows i cuts kind n) := by
  unfold prunedA
  have e0 : ∀ (L : List Rows), m_spec_PrunedRows_l1 1000000000 i kind n L [] 0 [] = some [] := by
    intro L; rw [show (1000000000 : Nat) = 999999999 + 1 from rfl, m_spec_PrunedRows_l1]; rfl
  have e1 : ∀ ks : List Int, m_spec_PrunedRows_l1 1000000000 i kind n [] ks 0 [] = some [] := by
    intro ks; rw [show (1000000000 : Nat) = 999999999 + 1 from rfl, m_spec_PrunedRows_l1]; unfold m_spec_PrunedRows_j1; cases decide ((0 : Int) < (ks.length : Int)) <;> rfl
  by_cases hk : rowsOk cs rows = true
  · have hd := drnA hk hr hl
    by_cases hn : -9999 ≤ n ∧ n ≤ 9999
    · rw [if_pos ⟨hk, hn⟩]; exact E_spec_PrunedRows_g hd hn
    · rw [if_neg (fun h => hn h.2)]
      unfold m_spec_PrunedRows; rw [E_spec_PartsOf hd, Option.bind_some, E_spec_PF0 hl hn, Option.bind_some, e0]
  · rw [if_neg (fun h => hk h.1)]
    have hk' : rowsOk cs rows = false := by simpa using hk
    have ep : m_spec_PartsOf cs rows i cuts = some [] := by
      unfold m_spec_PartsOf; rw [show (1000000000 : Nat) = 999999999 + 1 from rfl, m_spec_PartsOf_l1]
      have er : m_spec_l28Ready cs rows i cuts = some false := by
        unfold m_spec_l28Ready m_spec_l28Ready_j1; rw [E_spec_CutsOk_g hl, Option.bind_some]; cases cutsB cuts with
        | false => rfl
        | true => rw [cond_true, E_spec_RowsOk (by omega) hs, Option.bind_some, hk']; rfl
      rw [er, Option.bind_some]; unfold m_spec_PartsOf_j1; cases decide ((0 : Int) ≤ (cuts.length : Int)) <;> rfl
    obtain ⟨ks, hks⟩ : ∃ ks, m_spec_PartsFor cuts kind n = some ks := by
      by_cases hn : -9999 ≤ n ∧ n ≤ 9999
      · cases hc : cutsB cuts with
        | true => exact ⟨_, E_spec_PartsFor hc hn⟩
        | false =>
          unfold m_spec_PartsFor; rw [E_spec_CutsOk_g hl, hc]; exact ⟨[], rfl⟩
      · exact ⟨_, E_spec_PF0 hl hn⟩
    unfold m_spec_PrunedRows; rw [ep, Option.bind_some, hks, Option.bind_some, e1]
def mkC (c : Int) (_ : Col) : Col := ⟨c, ((c + 1).tmod 3 == (0 : Int))⟩
def wC (_ : Col) : Int := 2
theorem endC (c : Int) : ∀ l : List Col, endM wC c l = c + 2 * l.length
  | [] => by simp [endM]
  | x :: l => by rw [endM, endC (c + wC x) l, List.length_cons]; unfold wC; push_cast; omega
theorem E_markC {l : List Col} {k : Int} (hk : 0 ≤ k) (hB : k + 2 * l.length ≤ 1000000000000) : m_laws_markColumnS l k = some (k + 2 * l.length, markM mkC wC k l) := by
  unfold m_laws_markColumnS
  have := markLoop (mk := mkC) (w := wC) (B := 1000000000000) (ok := fun _ => True) (fun _ => by unfold wC; decide) (fun f c i o => m_laws_markColumnS_l1 f c i o) (fun f d x r c hd hc hB _ => by
    have hB' : c + 2 ≤ 1000000000000 := hB; rw [m_laws_markColumnS_l1, lt_at, cond_true, at_at, Option.bind_some, Option.bind_some, ltE, ckI_of (by omega) (by omega), Option.bind_some, remI, if_neg (by decide), Option.bind_some, Int.toNat_natCast, set_at, at_at, Option.bind_some, Option.bind_some, ltE, ckI_of (by omega) (by omega), Option.bind_some, ckI_of (by omega) (by omega), Option.bind_some, set_at]; unfold mkC wC; rw [show c + 1 + 1 = c + 2 by omega, show ((d.length : Int) + 1) = ((d.length + 1 : Nat) : Int) by omega]) (fun f c o => by rw [m_laws_markColumnS_l1, dnlt]; rfl) l [] k _ fuel0 (fun _ _ => trivial) hk (by rw [endC]; exact hB) (by simp only [List.length_nil]; omega)
  rw [endC] at this; exact this
def mkI (c : Int) (_ : Int) : Int := c
def wI (_ : Int) : Int := 1
theorem endI (c : Int) : ∀ l : List Int, endM wI c l = c + l.length
  | [] => by simp [endM]
  | x :: l => by rw [endM, endI (c + wI x) l, List.length_cons]; unfold wI; push_cast; omega
theorem E_markI {l : List Int} {k : Int} (hk : 0 ≤ k) (hB : k + l.length ≤ 1000000000000) (hl : l.length ≤ 900000000000) : m_laws_markIntS l k = some (k + l.length, markM mkI wI k l) := by
  unfold m_laws_markIntS
  have := markLoop (mk := mkI) (w := wI) (B := 1000000000000) (ok := fun _ => True) (fun _ => by unfold wI; decide) (fun f c i o => m_laws_markIntS_l1 f c i o) (fun f d x r c hd hc hB _ => by
    have hB' : c + 1 ≤ 1000000000000 := hB; rw [m_laws_markIntS_l1, lt_at, cond_true, at_at, Option.bind_some, Option.bind_some, ltE, ckI_of (by omega) (by omega), Option.bind_some, ckI_of (by omega) (by omega), Option.bind_some, Int.toNat_natCast, set_at]; unfold mkI wI; rw [show ((d.length : Int) + 1) = ((d.length + 1 : Nat) : Int) by omega]) (fun f c o => by rw [m_laws_markIntS_l1, dnlt]; rfl) l [] k _ fuel0 (fun _ _ => trivial) hk (by rw [endI]; exact hB) (by simp only [List.length_nil]; omega)
  rw [endI] at this; exact this
theorem flat_le {f : Int → Rows} {N : Nat} : ∀ (l : List Int), (∀ k ∈ l, (f k).length ≤ N) → (l.flatMap f).length ≤ l.length * N
  | [], _ => by simp
  | k :: l, h => by
    have h1 := h k (by simp); have h2 := flat_le l fun x hx => h x (by simp [hx]); rw [List.flatMap_cons, List.length_append, List.length_cons, Nat.succ_mul]; omega
theorem prunedA_ok {cs : List Col} {rows : Rows} {i : Int} {cuts : List Int} {kind n : Int} (hr : rows.length ≤ 1100000) : (prunedA cs rows i cuts kind n).length ≤ 22000000 ∧ ∀ r ∈ prunedA cs rows i cuts kind n, rowOk r = true := by
  unfold prunedA
  split
  · rename_i h
    unfold prunedG
    split
    · rename_i hp
      obtain ⟨k1, k2⟩ := ksG_ok (kind := kind) (prB_cuts hp) h.2; refine ⟨?_, fun r hrr => ?_⟩
      · have := flat_le (N := rows.length) (f := fun k => (rows.filter fun r => decide (((ptI cuts i r : Nat) : Int) = k)).filter (suitI i kind n)) (ksG cuts kind n) fun k _ => Nat.le_trans (List.length_filter_le _ _) (List.length_filter_le _ _)
        exact Nat.le_trans this (Nat.le_trans (Nat.mul_le_mul k1 hr) (by decide))
      · obtain ⟨k, _, hrr⟩ := List.mem_flatMap.1 hrr
        exact (rowsOk_fits h.1 (List.mem_filter.1 (List.mem_filter.1 hrr).1).1).1
    · exact ⟨by simp, by simp⟩
  · exact ⟨by simp, by simp⟩
theorem pure_FnExactPrunedRows (a0 : List S_laws_Column) (a1 : List (List S_laws_Value)) (a2 : Int) (a3 : List Int) (a4 a5 : Int) (b0 : B_list B_laws_Column a0) (b1 : B_list (B_list B_laws_Value) a1) (b2 : B_int a2) (b3 : B_list B_int a3) (b4 : B_int a4) (b5 : B_int a5) : m_laws_FnExactPrunedRows a0 a1 a2 a3 a4 a5 = some true := by
  unfold m_laws_FnExactPrunedRows
  by_cases hl : (a3.length : Int) > 1048576
  case pos => rw [decide_eq_true hl, cond_true]
  rw [decide_eq_false hl, cond_false, sz_Llaws_Column b0 (by decide) (by decide), Option.bind_some]
  by_cases h0 : (wt_Llaws_Column a0 : Int) ≤ 1048576
  case neg => rw [szR_lt' h0, cond_true]
  rw [szR_lt h0, cond_false, szR_pos h0, sz_LLlaws_Value b1 (by omega) (by omega), Option.bind_some]
  by_cases h1 : (wt_LLlaws_Value a1 : Int) ≤ 1048576 - (wt_Llaws_Column a0 : Int)
  case neg => rw [szR_lt' h1, cond_true]
  rw [szR_lt h1, cond_false]; have hc0 : (cv_Llaws_Column a0).length ≤ 1100000 := by have := wt_Llaws_Column_len (l := a0); unfold cv_Llaws_Column; rw [List.length_map]; omega
  have s1 := smE_rows (l := a1) (by omega); have l1 : (cv_LLlaws_Value a1).length ≤ 1100000 := by have := wt_LLlaws_Value_len (l := a1); unfold cv_LLlaws_Value; rw [List.length_map]; omega
  have t0 := to_Llaws_Column (a := a0) (by omega); have t1 := to_LLlaws_Value (a := a1) (by omega); have t3 := to_Lint (a := a3) (by unfold wt_Lint; omega); have l3 : (cv_Lint a3).length ≤ 1100000 := by unfold cv_Lint; (try rw [List.length_map]); omega
  have w0 : wt_Limpl_Column (cv_Llaws_Column a0) ≤ 1048576 := by rw [wc_Llaws_Column]; omega
  have w1 : wt_LLimpl_Value (cv_LLlaws_Value a1) ≤ 1048576 := by rw [wc_LLlaws_Value]; omega
  rw [t0, Option.bind_some, t1, Option.bind_some, t3, Option.bind_some]; generalize cv_Llaws_Column a0 = cs at *; generalize cv_LLlaws_Value a1 = R at *; generalize cv_Lint a3 = cuts at *; have eC := E_impl_PrunedRows_a (cs := cs) (rows := R) (i := a2) (cuts := cuts) (kind := a4) (n := a5) (by omega) s1 l1 l3; have eS := E_spec_PrunedRows_a (cs := cs) (rows := R) (i := a2) (cuts := cuts) (kind := a4) (n := a5) (by omega) s1 l1 l3; obtain ⟨hC, hCk⟩ := prunedA_ok (cs := cs) (rows := R) (i := a2) (cuts := cuts) (kind := a4) (n := a5) l1; generalize prunedA cs R a2 cuts a4 a5 = C at *; have hw := wt_rows5 (l := C) (by omega) hCk; have hB := endR_w 1 C; have eqC : m_laws_eqValueSS C C = some true := by rw [eq_LLimpl_Value (by omega)]; exact congrArg some (decide_eq_true rfl)
  have eqR : m_laws_eqValueSS R R = some true := by rw [eq_LLimpl_Value (by omega)]; exact congrArg some (decide_eq_true rfl)
  have eqa : m_laws_eqColumnS cs cs = some true := by rw [eq_Limpl_Column (by omega)]; exact congrArg some (decide_eq_true rfl)
  have eqc : m_laws_eqIntS cuts cuts = some true := by rw [eq_Lint (by unfold wt_Lint; omega)]; exact congrArg some (decide_eq_true rfl)
  have hB2 := endR_w (1 + 2 * cs.length) R; have hg2 := endM_ge (w := wR) (fun x => by unfold wR; omega) (1 + 2 * (cs.length : Int)) R; have hg1 := endM_ge (w := wR) (fun x => by unfold wR; omega) 1 C; rw [eS, Option.bind_some, Option.bind_some, Option.bind_some, Option.bind_some, eC, Option.bind_some, eqC, Option.bind_some, Bool.not_true, cond_false]; simp only [t0, t1, t3, Option.bind_some, eqa, eqc, eqR, Bool.not_true, cond_false]; rw [E_markC (by omega) (by omega), Option.bind_some, lenQ_ok (markM_len _ _), Option.bind_some]; simp only []; rw [E_markR (by omega) (by omega) (by omega), Option.bind_some, lenQ_ok (markM_len _ _), Option.bind_some]; simp only []; rw [E_markI (by omega) (by omega) (by omega), Option.bind_some, lenQ_ok (markM_len _ _), Option.bind_some]; simp only []; rw [decide_eq_false (by omega), cond_false]; unfold m_laws_FnExactPrunedRows_j1; rw [cond_false, E_markR (by omega) (by omega) (by omega), Option.bind_some, lenQ_ok (markM_len _ _), Option.bind_some]; simp only []; rw [E_heldR (by omega) (by omega) (by omega), Option.bind_some, decide_eq_false (by omega), cond_false, bne_self_eq_false, cond_false, t0, Option.bind_some, t1, Option.bind_some, t3, Option.bind_some, eC, Option.bind_some, eqC, Option.bind_some, Bool.not_true, cond_false, Option.bind_some, decide_eq_false (by omega), cond_false, bne_self_eq_false, cond_false]
end Go.Proofs.Ytjmeoggmdnlicaa
