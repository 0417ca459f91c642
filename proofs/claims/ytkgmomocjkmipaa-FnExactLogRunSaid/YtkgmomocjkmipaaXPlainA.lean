/- What the mirrors come to, in plain Lean: the law itself at the end. -/
import Derived.Test.YtkgmomocjkmipaaXW5
import Derived.Test.YtkgmomocjkmipaaLd
set_option linter.unusedVariables false
set_option linter.unusedSimpArgs false
set_option linter.unnecessarySimpa false
namespace Go.Proofs.Ytkgmomocjkmipaa
open Go.Proofs Go.Lift
abbrev V := S_impl_Value
abbrev Row := List V
def cmpI (a b : Int) : Int := if a < b then -1 else if b < a then 1 else 0
def orI (l : List Int) : Int := (l.find? (· != 0)).getD 0
def lower (l : List UInt8) : Bool := l.all fun b => decide (97 ≤ b.toNat) && decide (b.toNat ≤ 122)
/-- A value is one. -/
def vOk (v : V) : Bool :=
  if v.Kind = 0 then decide (v = ⟨0, 0, ⟨#[]⟩⟩)
  else if v.Kind = 1 then decide (v.S = ⟨#[]⟩) && (decide (-9999 ≤ v.N) && decide (v.N ≤ 9999))
  else if v.Kind = 2 then decide (v.N = 0) && decide (v.S.size ≤ 6) && lower v.S.data.toList
  else if v.Kind = 3 then decide (v.S = ⟨#[]⟩) && (decide (0 ≤ v.N) && decide (v.N ≤ 1))
  else false
def rowOk (l : Row) : Bool := decide (l.length ≤ 4) && l.all vOk
/-- As memory holds it with ease. -/
def vSm (v : V) : Prop := v.S.size ≤ 1100000
def rSm (l : Row) : Prop := l.length ≤ 1100000 ∧ ∀ v ∈ l, vSm v
theorem E_IndexFunc_V {l : Row} {p : V → Option Bool} {q : V → Bool} (hl : l.length ≤ 3000000) (hp : ∀ v ∈ l, p v = some (q v)) : m_slices_ContainsFunc_Limpl_Value_impl_Value l p = some (l.any q) := by
  unfold m_slices_ContainsFunc_Limpl_Value_impl_Value m_slices_IndexFunc_Limpl_Value_impl_Value
  have key : ∀ (ys : Row) (k n : Nat), l.drop k = ys → k ≤ l.length → ys.length < n → ∃ i : Int, m_slices_IndexFunc_Limpl_Value_impl_Value_l1 p n l (l.length : Int) (k : Int) = some i ∧ decide (i ≥ 0) = ys.any q := by
    intro ys
    induction ys with
    | nil =>
      intro k n hd hk hn
      have : k = l.length := by
        have := congrArg List.length hd
        simp at this; omega
      subst this
      obtain ⟨m, rfl⟩ : ∃ m, n = m + 1 := ⟨n - 1, by simp at hn; omega⟩
      exact ⟨-1, by simp only [m_slices_IndexFunc_Limpl_Value_impl_Value_l1, dnlt]; rfl, rfl⟩
    | cons y ys ih =>
      intro k n hd hk hn
      have hlt : k < l.length := by
        have := congrArg List.length hd
        simp at this; omega
      have hc := List.drop_eq_getElem_cons hlt
      rw [hd] at hc
      simp only [List.cons.injEq] at hc
      have hx : l[k]? = some y := by rw [List.getElem?_eq_getElem hlt, hc.1]
      obtain ⟨m, rfl⟩ : ∃ m, n = m + 1 := ⟨n - 1, by simp at hn; omega⟩
      simp only [m_slices_IndexFunc_Limpl_Value_impl_Value_l1, dlt hlt, at_of hx, hp y (List.mem_of_getElem? hx), ck1 (show k < 1000000000000 by omega), Option.bind_some, cond_true]
      cases hq : q y
      · obtain ⟨i, h1, h2⟩ := ih (k + 1) m hc.2.symm (by omega) (by simp at hn; omega)
        exact ⟨i, by simpa using h1, by rw [h2]; simp [hq]⟩
      · exact ⟨(k : Int), rfl, by simp [hq]⟩
  obtain ⟨i, h1, h2⟩ := key l 0 _ rfl (by omega) (show l.length < (((l.length : Int) - 0).toNat + 1) by omega)
  rw [show ((0 : Nat) : Int) = 0 from rfl] at h1
  rw [h1]
  simp only [Option.bind_some, h2]
theorem E_between (a b c : Int) : m_impl_between a b c = some (decide (b ≤ a) && decide (a ≤ c)) := by
  unfold m_impl_between m_impl_between_j1
  by_cases h : a ≥ b <;> simp [h]
theorem E_l1In (a b c : Int) : m_spec_l1In a b c = some (decide (b ≤ a) && decide (a ≤ c)) := by
  unfold m_spec_l1In m_spec_l1In_j1
  by_cases h : a ≥ b <;> simp [h]
theorem lower_any (l : List UInt8) : lower l = !(l.any fun b => !(decide (97 ≤ (b.toNat : Int)) && decide ((b.toNat : Int) ≤ 122))) := by
  unfold lower
  rw [List.all_eq_not_any_not]
  congr 2
  funext b
  congr 1
  have h1 : decide (97 ≤ b.toNat) = decide (97 ≤ (b.toNat : Int)) := by rw [decide_eq_decide]; omega
  have h2 : decide (b.toNat ≤ 122) = decide ((b.toNat : Int) ≤ 122) := by rw [decide_eq_decide]; omega
  rw [h1, h2]
theorem E_letters {s : ByteArray} (h : s.size ≤ 3000000) : m_impl_letters s = some (lower s.data.toList) := by
  unfold m_impl_letters sBytes?
  rw [if_pos (by omega)]
  simp only [Option.bind_some]
  have hl : s.data.toList.length ≤ 3000000 := h
  have := scanA (p := fun b : UInt8 => !(decide (97 ≤ (b.toNat : Int)) && decide ((b.toNat : Int) ≤ 122))) (r0 := false) (r1 := true) s.data.toList (fun n k => m_impl_letters_l1 n s.data.toList (s.data.toList.length : Int) k) (fun n k x hx => by
    have := lt_of_at hx
    simp only [m_impl_letters_l1, dlt this, at_of hx, E_between, ck1 (show k < 1000000000000 by omega), Option.bind_some, cond_true]) (fun n => by simp only [m_impl_letters_l1, dnlt]; rfl) _ fuel0
  rw [this, lower_any]
  cases s.data.toList.any fun b => !(decide (97 ≤ (b.toNat : Int)) && decide ((b.toNat : Int) ≤ 122)) <;> rfl
theorem sAt_of {s : ByteArray} {k : Nat} {x : UInt8} (h : s.data.toList[k]? = some x) : sAt? s (k : Int) = some x := by
  unfold sAt?
  rw [if_pos (by omega)]
  obtain ⟨h1, h2⟩ := List.getElem?_eq_some_iff.1 h
  have hs : k < s.size := by have := h1; rwa [Array.length_toList] at this
  have : s[k]? = some (s[k]'hs) := by simp [hs]
  rw [Int.toNat_natCast, this]
  congr 1
theorem E_l1Text {s : ByteArray} (h : s.size ≤ 3000000) : m_spec_l1Text s = some (lower s.data.toList && decide (s.size ≤ 6)) := by
  unfold m_spec_l1Text
  have hl : s.data.toList.length = s.size := rfl
  rw [← hl]
  have := scanA (p := fun b : UInt8 => !(decide (97 ≤ (b.toNat : Int)) && decide ((b.toNat : Int) ≤ 122))) (r0 := false) (r1 := decide ((s.size : Int) ≤ 6)) s.data.toList (fun n k => m_spec_l1Text_l1 n s k) (fun n k x hx => by
    have := lt_of_at hx
    have hd : decide ((k : Int) < (s.size : Int)) = true := by rw [← hl]; exact dlt this
    simp only [m_spec_l1Text_l1, m_spec_l1Text_j1, hd, sAt_of hx, ck1 (show k < 1000000000000 by omega), Option.bind_some, cond_true]
    have e1 : ((97 : UInt8).toNat : Int) = 97 := rfl
    have e2 : ((122 : UInt8).toNat : Int) = 122 := rfl
    rw [e1, e2]
    by_cases h1 : (x.toNat : Int) < 97
    · have : ¬ (97 ≤ (x.toNat : Int)) := by omega
      simp [h1, this]
    · have h1' : 97 ≤ (x.toNat : Int) := by omega
      by_cases h2 : (x.toNat : Int) > 122
      · have : ¬ ((x.toNat : Int) ≤ 122) := by omega
        simp [h1, h2, this]
      · have : (x.toNat : Int) ≤ 122 := by omega
        simp [h1, h2, this, h1']) (fun n => by simp only [m_spec_l1Text_l1, hl, dnlt]; rfl) _ fuel0
  rw [this, lower_any]
  have e : decide ((s.size : Int) ≤ 6) = decide (s.size ≤ 6) := by rw [decide_eq_decide]; omega
  rw [e]
  cases s.data.toList.any fun b => !(decide (97 ≤ (b.toNat : Int)) && decide ((b.toNat : Int) ≤ 122)) <;> simp
theorem E_Value_ok {v : V} (h : v.S.size ≤ 3000000) : m_impl_Value_ok v = some (vOk v) := by
  unfold m_impl_Value_ok m_impl_Value_ok_j1 m_impl_Value_ok_j2 m_impl_Value_ok_j3 vOk
  simp only [E_between, E_letters h, Option.bind_some, sEq_eq]
  by_cases h0 : v.Kind = 0
  · simp [h0]
  · by_cases h1 : v.Kind = 1
    · by_cases hs : v.S = ⟨#[]⟩ <;> simp [beqF h0, h0, h1, hs]
    · by_cases h2 : v.Kind = 2
      · by_cases hn : v.N = 0
        · by_cases hs : v.S.size ≤ 6
          · have : (v.S.size : Int) ≤ 6 := by omega
            simp [beqF h0, beqF h1, h0, h1, h2, hn, hs, this]
          · have : ¬ (v.S.size : Int) ≤ 6 := by omega
            simp [beqF h0, beqF h1, h0, h1, h2, hn, hs, this]
        · simp [beqF h0, beqF h1, h0, h1, h2, beqF hn, hn]
      · by_cases h3 : v.Kind = 3
        · by_cases hs : v.S = ⟨#[]⟩ <;> simp [beqF h0, beqF h1, beqF h2, h0, h1, h2, h3, hs]
        · simp [beqF h0, beqF h1, beqF h2, beqF h3, h0, h1, h2, h3]
theorem E_spec_ValueOk {v : V} (h : v.S.size ≤ 3000000) : m_spec_ValueOk v = some (vOk v) := by
  unfold m_spec_ValueOk m_spec_ValueOk_j1 m_spec_ValueOk_j2 m_spec_ValueOk_j3 m_spec_ValueOk_j4 vOk
  simp only [E_l1In, E_l1Text h, Option.bind_some, sEq_eq]
  obtain ⟨k, n, s⟩ := v
  simp only [S_impl_Value.mk.injEq]
  by_cases h0 : k = 0
  · by_cases hn : n = 0
    · simp [h0, hn]
    · simp [h0, hn, beqF hn]
  · by_cases h1 : k = 1
    · by_cases hs : s = ⟨#[]⟩ <;> by_cases ha : -9999 ≤ n <;> by_cases hb : n ≤ 9999 <;> simp [beqF h0, h0, h1, hs, ha, hb]
    · by_cases h2 : k = 2
      · by_cases hn : n = 0
        · simp [beqF h0, beqF h1, h0, h1, h2, hn, Bool.and_comm]
        · simp [beqF h0, beqF h1, h0, h1, h2, beqF hn, hn]
      · by_cases h3 : k = 3
        · by_cases hs : s = ⟨#[]⟩ <;> by_cases ha : 0 ≤ n <;> by_cases hb : n ≤ 1 <;> simp [beqF h0, beqF h1, beqF h2, h0, h1, h2, h3, hs, ha, hb]
        · simp [beqF h0, beqF h1, beqF h2, beqF h3, h0, h1, h2, h3]
theorem E_impl_RowOk {l : Row} (h : rSm l) : m_impl_RowOk l = some (rowOk l) := by
  unfold m_impl_RowOk m_impl_RowOk_j1 rowOk
  obtain ⟨h1, h2⟩ := h
  rw [E_IndexFunc_V (q := fun v => !(vOk v)) (by omega) (fun v hv => by unfold m_impl_RowOk_1; rw [E_Value_ok (by have := h2 v hv; unfold vSm at this; omega)]; rfl)]
  simp only [Option.bind_some]
  rw [List.all_eq_not_any_not]
  by_cases h : l.length ≤ 4
  · have : (l.length : Int) ≤ 4 := by omega
    simp [h, this]
  · have : ¬ (l.length : Int) ≤ 4 := by omega
    simp [h, this]
theorem E_spec_RowOk {l : Row} (h : rSm l) : m_spec_RowOk l = some (rowOk l) := by
  unfold m_spec_RowOk rowOk
  obtain ⟨h1, h2⟩ := h
  have := scanA (p := fun v => !(vOk v)) (r0 := false) (r1 := decide ((l.length : Int) ≤ 4)) l (fun n k => m_spec_RowOk_l1 n l k) (fun n k x hx => by
    have := lt_of_at hx
    have hsm := h2 x (List.mem_of_getElem? hx)
    unfold vSm at hsm
    simp only [m_spec_RowOk_l1, dlt this, at_of hx, E_spec_ValueOk (show x.S.size ≤ 3000000 by omega), ck1 (show k < 1000000000000 by omega), Option.bind_some, cond_true]) (fun n => by simp only [m_spec_RowOk_l1, dnlt]; rfl) _ fuel0
  rw [this, List.all_eq_not_any_not]
  have e : decide ((l.length : Int) ≤ 4) = decide (l.length ≤ 4) := by rw [decide_eq_decide]; omega
  rw [e]
  cases l.any fun v => !(vOk v) <;> simp
theorem E_CompareI (a b : Int) : m_cmp_Compare_int a b = some (cmpI a b) := by
  unfold m_cmp_Compare_int m_cmp_isNaN_int cmpI
  have e : ∀ x : Int, (x != x) = false := fun x => by simp
  simp only [e, Option.bind_some, cond_false]
  by_cases h : a < b
  · simp [h]
  · by_cases h2 : a > b
    · simp [h, h2]
    · simp [h, h2]
theorem E_Or {l : List Int} (h : l.length ≤ 3000000) : m_cmp_Or_int l = some (orI l) := by
  unfold m_cmp_Or_int
  rw [scanC l (fun n k (_ : Unit) => m_cmp_Or_int_l1 n 0 l (l.length : Int) k) (fun x s k => bif (x != 0) then some x else k s) (fun _ => some 0) (fun n k x s hx => by
    have := lt_of_at hx
    rw [m_cmp_Or_int_l1, dlt this, cond_true, at_of hx, Option.bind_some, ck1 (show k < 1000000000000 by omega), Option.bind_some]) (fun n s => by rw [m_cmp_Or_int_l1, dnlt]; rfl) _ fuel0 ()]
  clear h
  unfold orI
  induction l with
  | nil => rfl
  | cons x l ih =>
    simp only [foldC, List.find?_cons]
    cases hx : (x != 0)
    · simpa using ih
    · rfl
theorem orI_1 {x : Int} {l : List Int} (h : x ≠ 0) : orI (x :: l) = x := by simp [orI, h]
theorem orI_0 {l : List Int} : orI (0 :: l) = orI l := by simp [orI]
theorem E_clone {l : Row} (h : l.length ≤ 3000000) : m_impl_clone_impl_Value l = some l := by
  unfold m_impl_clone_impl_Value appN?
  cases l with
  | nil => rfl
  | cons x l =>
    have e : (((x :: l).length : Int) == 0) = false := by simp; omega
    rw [e, cond_false, if_pos ⟨by simp, by omega⟩, Option.bind_some]; rfl
theorem E_l3Own {l : Row} (h : l.length ≤ 3000000) : m_spec_l3Own l = some l := by
  unfold m_spec_l3Own
  rw [app_of (by simp; omega)]; rfl

abbrev Rd := S_spec_l20Rd
def Rd.ok (o : Rd) : Prop := 0 ≤ o.p ∧ o.p ≤ 1000000000
def lx (x y : Int) : Int := if x = 0 then y else x
theorem orI_2 (a b : Int) : orI [a, b] = lx a b := by
  unfold lx; split
  · rename_i h; subst h; rw [orI_0]
    by_cases h : b = 0
    · subst h; rfl
    · rw [orI_1 h]
  · rename_i h; rw [orI_1 h]
theorem L_slices_Clip_Limpl_Version_impl_Version_o {l : List S_impl_Version} : m_slices_Clip_Limpl_Version_impl_Version_o l = some l := rfl
theorem L_slices_swapRangeCmpFunc_impl_Version {p : S_impl_Version → S_impl_Version → Option Int} (P X Q Y S : List S_impl_Version) (hXY : X.length = Y.length) (hl : P.length + X.length + Q.length + Y.length + S.length ≤ 3000000) :
    m_slices_swapRangeCmpFunc_impl_Version (P ++ (X ++ (Q ++ (Y ++ S)))) (P.length : Int) ((P.length + X.length + Q.length : Nat) : Int) (X.length : Int) p = some (P ++ (Y ++ (Q ++ (X ++ S)))) := by
  unfold m_slices_swapRangeCmpFunc_impl_Version
  have key : ∀ (d i m : Nat), i + d = X.length → d < m → m_slices_swapRangeCmpFunc_impl_Version_l1 p m (P.length : Int) ((P.length + X.length + Q.length : Nat) : Int) (X.length : Int) (i : Int) (P ++ ((Y.take i ++ X.drop i) ++ (Q ++ ((X.take i ++ Y.drop i) ++ S)))) = some (P ++ (Y ++ (Q ++ (X ++ S)))) := by
    intro d
    induction d with
    | zero =>
      intro i m hi hm
      obtain ⟨m, rfl⟩ : ∃ q, m = q + 1 := ⟨m - 1, by omega⟩
      obtain rfl : i = X.length := by omega
      rw [m_slices_swapRangeCmpFunc_impl_Version_l1, dnlt, cond_false, List.take_length, List.drop_length, hXY, List.take_length, List.drop_length]
      simp
    | succ d ih =>
      intro i m hi hm
      obtain ⟨m, rfl⟩ : ∃ q, m = q + 1 := ⟨m - 1, by omega⟩
      have hX : X.drop i = X[i] :: X.drop (i + 1) := List.drop_eq_getElem_cons (by omega)
      have hY : Y.drop i = Y[i] :: Y.drop (i + 1) := List.drop_eq_getElem_cons (by omega)
      have eo : P ++ ((Y.take i ++ X.drop i) ++ (Q ++ ((X.take i ++ Y.drop i) ++ S))) = (P ++ Y.take i) ++ X[i] :: ((X.drop (i + 1) ++ (Q ++ X.take i)) ++ Y[i] :: (Y.drop (i + 1) ++ S)) := by rw [hX, hY]; simp only [List.append_assoc, List.cons_append]
      have en : (P ++ Y.take i) ++ Y[i] :: ((X.drop (i + 1) ++ (Q ++ X.take i)) ++ X[i] :: (Y.drop (i + 1) ++ S)) = P ++ ((Y.take (i + 1) ++ X.drop (i + 1)) ++ (Q ++ ((X.take (i + 1) ++ Y.drop (i + 1)) ++ S))) := by
        rw [List.take_succ_eq_append_getElem (show i < Y.length by omega), List.take_succ_eq_append_getElem (show i < X.length by omega)]; simp only [List.append_assoc, List.cons_append, List.nil_append]
      have l1 : (P ++ Y.take i).length = P.length + i := by simp; omega
      have l2 : (P ++ Y.take i).length + 1 + (X.drop (i + 1) ++ (Q ++ X.take i)).length = P.length + X.length + Q.length + i := by simp; omega
      obtain ⟨g1, g2⟩ := at_two (P ++ Y.take i) (X.drop (i + 1) ++ (Q ++ X.take i)) (Y.drop (i + 1) ++ S) X[i] Y[i]
      have st := set_two (P ++ Y.take i) (X.drop (i + 1) ++ (Q ++ X.take i)) (Y.drop (i + 1) ++ S) X[i] Y[i]
      rw [l1] at g1
      rw [l2] at g2
      rw [l2, l1] at st
      rw [eo]
      generalize ho : (P ++ Y.take i) ++ X[i] :: ((X.drop (i + 1) ++ (Q ++ X.take i)) ++ Y[i] :: (Y.drop (i + 1) ++ S)) = o at g1 g2 st
      rw [m_slices_swapRangeCmpFunc_impl_Version_l1, dlt (show i < X.length by omega), cond_true, show ((P.length : Int) + (i : Int)) = ((P.length + i : Nat) : Int) by omega, show (((P.length + X.length + Q.length : Nat) : Int) + (i : Int)) = ((P.length + X.length + Q.length + i : Nat) : Int) by omega,
        ckI_of (x := ((P.length + i : Nat) : Int)) (by omega) (by omega), Option.bind_some, ckI_of (x := ((P.length + X.length + Q.length + i : Nat) : Int)) (by omega) (by omega), Option.bind_some, Option.bind_some]
      rw [at_of g2, Option.bind_some, Option.bind_some, Option.bind_some, at_of g1, Option.bind_some, Option.bind_some, Option.bind_some, Option.bind_some]
      rw [ltE, Int.toNat_natCast, Int.toNat_natCast, at_set_ne g2 (show P.length + i ≠ P.length + X.length + Q.length + i by omega), Option.bind_some, Option.bind_some, ltE, ck1 (by omega), Option.bind_some, st, en, show ((i : Int) + 1) = ((i + 1 : Nat) : Int) by omega]
      exact ih (i + 1) m (by omega) (by omega)
  have := key X.length 0 (((X.length : Int) - 0).toNat + 1) (by omega) (by omega)
  rw [show ((0 : Nat) : Int) = 0 from rfl, List.take_zero, List.drop_zero, List.take_zero, List.drop_zero, List.nil_append, List.nil_append] at this
  exact this
theorem L_slices_rotateCmpFunc_impl_Version {p : S_impl_Version → S_impl_Version → Option Int} (P X Y S : List S_impl_Version) (hX : 0 < X.length) (hY : 0 < Y.length) (hl : P.length + X.length + Y.length + S.length ≤ 3000000) :
    m_slices_rotateCmpFunc_impl_Version (P ++ (X ++ (Y ++ S))) (P.length : Int) ((P.length + X.length : Nat) : Int) ((P.length + X.length + Y.length : Nat) : Int) p = some (P ++ (Y ++ (X ++ S))) := by
  unfold m_slices_rotateCmpFunc_impl_Version
  rw [ckI_of (by omega) (by omega), Option.bind_some, ckI_of (by omega) (by omega), Option.bind_some, show (((P.length + X.length : Nat) : Int) - (P.length : Int)) = (X.length : Int) by omega, show (((P.length + X.length + Y.length : Nat) : Int) - ((P.length + X.length : Nat) : Int)) = (Y.length : Int) by omega]
  have key : ∀ (d n mm : Nat) (P X Y S : List S_impl_Version), X.length + Y.length ≤ d → d < n → 0 < X.length → 0 < Y.length → P.length + X.length + Y.length + S.length ≤ 3000000 → mm = P.length + X.length →
      m_slices_rotateCmpFunc_impl_Version_l1 p n (mm : Int) (X.length : Int) (Y.length : Int) (P ++ (X ++ (Y ++ S))) = some (P ++ (Y ++ (X ++ S))) := by
    intro d
    induction d with
    | zero => intro n mm P X Y S h0 h1 h2; omega
    | succ d ih =>
      intro n mm P X Y S h0 h1 h2 h3 h4 h5
      obtain ⟨n, rfl⟩ : ∃ q, n = q + 1 := ⟨n - 1, by omega⟩
      rw [m_slices_rotateCmpFunc_impl_Version_l1, neN]
      by_cases he : X.length = Y.length
      · rw [decide_eq_true he, Bool.not_true, cond_false]
        unfold m_slices_rotateCmpFunc_impl_Version_j1
        have := L_slices_swapRangeCmpFunc_impl_Version (p := p) P X [] Y S he (by simp; omega)
        simp only [List.nil_append, List.length_nil, Nat.add_zero] at this
        rw [ckI_of (by omega) (by omega), Option.bind_some, show ((mm : Int) - (X.length : Int)) = (P.length : Int) by omega, h5, this, Option.bind_some, lenQ_ok (by simp; omega), Option.bind_some]
      · rw [decide_eq_false he, Bool.not_false, cond_true]
        by_cases hg : X.length > Y.length
        · have hs : X = X.take Y.length ++ X.drop Y.length := (List.take_append_drop _ _).symm
          have lu : (X.take Y.length).length = Y.length := by simp; omega
          have lv : (X.drop Y.length).length = X.length - Y.length := by simp
          generalize X.take Y.length = U at hs lu
          generalize X.drop Y.length = V at hs lv
          subst hs
          have := L_slices_swapRangeCmpFunc_impl_Version (p := p) P U V Y S lu (by simp at h4 ⊢; omega)
          rw [decide_eq_true (show (((U ++ V).length : Int) > (Y.length : Int)) by omega), cond_true, ckI_of (by omega) (by omega), Option.bind_some, show ((mm : Int) - ((U ++ V).length : Int)) = (P.length : Int) by omega, List.append_assoc, ← lu,
            show (mm : Int) = ((P.length + U.length + V.length : Nat) : Int) by simp at h5; omega, this, Option.bind_some, lenQ_ok (by simp; omega), Option.bind_some, ckI_of (by omega) (by omega), Option.bind_some]
          have e := ih n (P.length + U.length + V.length) (P ++ Y) V U S (by simp at h0; omega) (by omega) (by omega) (by omega) (by simp at h4 ⊢; omega) (by simp; omega)
          rw [show (((U ++ V).length : Int) - (U.length : Int)) = (V.length : Int) by simp; omega]
          simp only [List.append_assoc] at e ⊢
          exact e
        · have hs : Y = Y.take (Y.length - X.length) ++ Y.drop (Y.length - X.length) := (List.take_append_drop _ _).symm
          have lu : (Y.take (Y.length - X.length)).length = Y.length - X.length := by simp
          have lv : (Y.drop (Y.length - X.length)).length = X.length := by simp; omega
          generalize Y.take (Y.length - X.length) = U at hs lu
          generalize Y.drop (Y.length - X.length) = V at hs lv
          subst hs
          have := L_slices_swapRangeCmpFunc_impl_Version (p := p) P X U V S lv.symm (by simp at h4 ⊢; omega)
          rw [decide_eq_false (show ¬ ((X.length : Int) > ((U ++ V).length : Int)) by omega), cond_false, ckI_of (by omega) (by omega), Option.bind_some, ckI_of (by omega) (by omega), Option.bind_some, ckI_of (by omega) (by omega), Option.bind_some, show ((mm : Int) - (X.length : Int)) = (P.length : Int) by omega,
            show ((mm : Int) + ((U ++ V).length : Int) - (X.length : Int)) = ((P.length + X.length + U.length : Nat) : Int) by simp; omega, List.append_assoc, this, Option.bind_some, lenQ_ok (by simp; omega), Option.bind_some, ckI_of (by omega) (by omega), Option.bind_some]
          have e := ih n mm P V U (X ++ S) (by simp at h0; omega) (by omega) (by omega) (by simp at he; omega) (by simp at h4 ⊢; omega) (by omega)
          rw [show (((U ++ V).length : Int) - (X.length : Int)) = (U.length : Int) by simp; omega, ← lv]
          simp only [List.append_assoc] at e ⊢
          exact e
  exact key (X.length + Y.length) 1000000000 _ P X Y S (Nat.le_refl _) (by omega) hX hY hl rfl
theorem L_up_slices_symMergeCmpFunc_impl_Version {rc : List S_impl_Version → Int → Int → Int → (S_impl_Version → S_impl_Version → Option Int) → Option (List S_impl_Version)} {p : S_impl_Version → S_impl_Version → Option Int} (x : S_impl_Version) : ∀ (B P R : List S_impl_Version) (n : Nat), B.length < n → P.length + B.length + R.length ≤ 3000000 →
    m_slices_symMergeCmpFunc_impl_Version_l2 rc p n ((P.length + B.length + 1 : Nat) : Int) (P.length : Int) (P ++ x :: (B ++ R)) = some (P ++ (B ++ x :: R)) := by
  intro B
  induction B with
  | nil =>
    intro P R n hn hl
    obtain ⟨n, rfl⟩ : ∃ q, n = q + 1 := ⟨n - 1, by omega⟩
    rw [m_slices_symMergeCmpFunc_impl_Version_l2, ckI_of (by omega) (by omega), Option.bind_some, decide_eq_false (by simp), cond_false]
    rfl
  | cons y B ih =>
    intro P R n hn hl
    obtain ⟨n, rfl⟩ : ∃ q, n = q + 1 := ⟨n - 1, by omega⟩
    obtain ⟨g1, g2⟩ := at_two P [] (B ++ R) x y
    have st := set_two P [] (B ++ R) x y
    rw [List.nil_append, List.nil_append, List.length_nil, Nat.add_zero] at st
    rw [List.nil_append] at g1
    rw [List.nil_append, List.length_nil, Nat.add_zero] at g2
    rw [List.cons_append]
    generalize ho : P ++ x :: y :: (B ++ R) = o at g1 g2 st
    have hlen : (y :: B).length = B.length + 1 := rfl
    rw [hlen] at hn hl
    rw [m_slices_symMergeCmpFunc_impl_Version_l2, hlen, ckI_of (by omega) (by omega), Option.bind_some, decide_eq_true (by omega), cond_true, ck1 (show P.length < 1000000000000 by omega), Option.bind_some, Option.bind_some, show ((P.length : Int) + 1) = ((P.length + 1 : Nat) : Int) by omega, at_of g2, Option.bind_some, Option.bind_some, at_of g1, Option.bind_some, Option.bind_some, Option.bind_some, Option.bind_some, ltE, Int.toNat_natCast, Int.toNat_natCast, at_set_ne g2 (show P.length ≠ P.length + 1 by omega), Option.bind_some, Option.bind_some, ltE, Option.bind_some, st]
    have := ih (P ++ [y]) R n (by omega) (by simp; omega)
    rw [show ((P ++ [y]).length + B.length + 1) = P.length + (B.length + 1) + 1 by simp; omega, show ((P ++ [y]).length : Nat) = P.length + 1 by simp] at this
    rw [show P ++ y :: x :: (B ++ R) = (P ++ [y]) ++ x :: (B ++ R) by simp, this]
    simp
theorem L_down_slices_symMergeCmpFunc_impl_Version {rc : List S_impl_Version → Int → Int → Int → (S_impl_Version → S_impl_Version → Option Int) → Option (List S_impl_Version)} {p : S_impl_Version → S_impl_Version → Option Int} (x : S_impl_Version) (Q : List S_impl_Version) : ∀ (k : Nat) (A R : List S_impl_Version) (n : Nat), A.length = k → k < n → Q.length + A.length + R.length ≤ 3000000 →
    m_slices_symMergeCmpFunc_impl_Version_l4 rc p n (Q.length : Int) ((Q.length + A.length : Nat) : Int) (Q ++ (A ++ x :: R)) = some (Q ++ x :: (A ++ R)) := by
  intro k
  induction k with
  | zero =>
    intro A R n hk hn hl
    obtain rfl : A = [] := List.length_eq_zero_iff.1 hk
    obtain ⟨n, rfl⟩ : ∃ q, n = q + 1 := ⟨n - 1, by omega⟩
    rw [m_slices_symMergeCmpFunc_impl_Version_l4, decide_eq_false (by simp), cond_false]
    rfl
  | succ k ih =>
    intro A R n hk hn hl
    obtain ⟨n, rfl⟩ : ∃ q, n = q + 1 := ⟨n - 1, by omega⟩
    obtain ⟨A', z, rfl⟩ : ∃ A' z, A = A' ++ [z] := by
      have : A ≠ [] := by rintro rfl; simp at hk
      exact ⟨A.dropLast, A.getLast this, (List.dropLast_concat_getLast this).symm⟩
    have hk' : A'.length = k := by simpa using hk
    obtain ⟨g1, g2⟩ := at_two (Q ++ A') [] R z x
    have st := set_two (Q ++ A') [] R x z
    have l1 : (Q ++ A').length = Q.length + A'.length := by simp
    have e0 : Q ++ ((A' ++ [z]) ++ x :: R) = (Q ++ A') ++ z :: ([] ++ x :: R) := by simp
    have hset : (((Q ++ A') ++ z :: ([] ++ x :: R)).set (Q.length + A'.length + 1) z).set (Q.length + A'.length) x = (Q ++ A') ++ x :: z :: R := by
      rw [List.set_append_right _ _ (by rw [l1]; omega), l1, show Q.length + A'.length + 1 - (Q.length + A'.length) = 1 by omega, List.nil_append, List.set_cons_succ, List.set_cons_zero, List.set_append_right _ _ (by rw [l1]; omega), l1, Nat.sub_self, List.set_cons_zero]
    rw [l1] at g1
    rw [l1, List.length_nil, Nat.add_zero] at g2
    rw [e0]
    generalize ho : (Q ++ A') ++ z :: ([] ++ x :: R) = o at g1 g2 hset
    have hlen : (A' ++ [z]).length = A'.length + 1 := by simp
    rw [hlen] at hl ⊢
    rw [m_slices_symMergeCmpFunc_impl_Version_l4, decide_eq_true (by omega), cond_true, show ((Q.length + (A'.length + 1) : Nat) : Int) = ((Q.length + A'.length + 1 : Nat) : Int) by omega, ckdd (by omega), Option.bind_some, Option.bind_some, at_of g1, Option.bind_some, Option.bind_some, at_of g2, Option.bind_some, Option.bind_some, Option.bind_some, Option.bind_some, ltE, Int.toNat_natCast, Int.toNat_natCast, at_set_ne g1 (show Q.length + A'.length + 1 ≠ Q.length + A'.length by omega), Option.bind_some, Option.bind_some, ltE, Option.bind_some, hset]
    have := ih A' (z :: R) n hk' (by omega) (by simp; omega)
    rw [List.append_assoc, this]
    simp
theorem L_b1_slices_symMergeCmpFunc_impl_Version {rc : List S_impl_Version → Int → Int → Int → (S_impl_Version → S_impl_Version → Option Int) → Option (List S_impl_Version)} {p : S_impl_Version → S_impl_Version → Option Int} {q : S_impl_Version → S_impl_Version → Int} {U : List S_impl_Version} (hp : ∀ x ∈ U, ∀ y ∈ U, p x y = some (q x y)) (x : S_impl_Version) (P Y S : List S_impl_Version) (hU : ∀ z ∈ x :: Y, z ∈ U) (hl : P.length + 1 + Y.length + S.length ≤ 3000000) :
    ∃ B1 B2, Y = B1 ++ B2 ∧ m_slices_symMergeCmpFunc_impl_Version_l1 rc p (((P.length + 1 + Y.length : Nat) : Int) - ((P.length + 1 : Nat) : Int)).toNat.succ (P.length : Int) ((P.length + 1 : Nat) : Int) ((P.length + 1 + Y.length : Nat) : Int) (P ++ ([x] ++ (Y ++ S))) = some (P ++ ((B1 ++ x :: B2) ++ S)) ∧ (∀ z, B1[B1.length - 1]? = some z → q z x < 0) ∧ (∀ z, B2[0]? = some z → ¬ q z x < 0) := by
  have hx0 : (P ++ ([x] ++ (Y ++ S)))[P.length]? = some x := by simp
  let good : Nat → Bool := fun h => match (P ++ ([x] ++ (Y ++ S)))[h]? with | some z => decide (q z x < 0) | none => false
  obtain ⟨k, k1, k2, k3, k4, k5⟩ := bsLoop (fun n i j => m_slices_symMergeCmpFunc_impl_Version_l1 rc p n (P.length : Int) i j (P ++ ([x] ++ (Y ++ S)))) (fun i => m_slices_symMergeCmpFunc_impl_Version_j1 rc p (P.length : Int) (i : Int) (P ++ ([x] ++ (Y ++ S)))) good (P.length + 1) (P.length + 1 + Y.length)
    (fun n i => by show m_slices_symMergeCmpFunc_impl_Version_l1 rc p (n + 1) _ _ _ _ = _; rw [m_slices_symMergeCmpFunc_impl_Version_l1, dnlt, cond_false])
    (fun n i j h1 h2 h3 => by
      show m_slices_symMergeCmpFunc_impl_Version_l1 rc p (n + 1) _ _ _ _ = _
      obtain ⟨z, g1, g2, g3, g4⟩ := mid_get P [x] Y S (i := (i + j) / 2) (by omega) (by simp only [List.length_singleton]; omega)
      have gd : good ((i + j) / 2) = decide (q z x < 0) := by show (match (P ++ ([x] ++ (Y ++ S)))[(i + j) / 2]? with | some z => decide (q z x < 0) | none => false) = _; rw [g1]
      rw [m_slices_symMergeCmpFunc_impl_Version_l1, dlt h2, cond_true, show ((i : Int) + (j : Int)) = ((i + j : Nat) : Int) by omega, ckI_of (by omega) (by omega), Option.bind_some, uI_of (by omega) (by omega), Option.bind_some, shr_half, Option.bind_some, uI_of (by omega) (by omega), Option.bind_some, at_of g1, Option.bind_some, Option.bind_some, at_of hx0, Option.bind_some, Option.bind_some, hp z (hU z (by simpa using g2)) x (hU x (by simp)), Option.bind_some, gd]
      by_cases hq : q z x < 0
      · rw [decide_eq_true hq, cond_true, if_pos rfl, ck1 (by omega), Option.bind_some]
        rfl
      · rw [decide_eq_false hq, cond_false, if_neg (by simp)])
    (((P.length + 1 + Y.length : Nat) : Int) - ((P.length + 1 : Nat) : Int)).toNat.succ (by omega) (by omega)
  have k3' : m_slices_symMergeCmpFunc_impl_Version_l1 rc p (((P.length + 1 + Y.length : Nat) : Int) - ((P.length + 1 : Nat) : Int)).toNat.succ (P.length : Int) ((P.length + 1 : Nat) : Int) ((P.length + 1 + Y.length : Nat) : Int) (P ++ ([x] ++ (Y ++ S))) = m_slices_symMergeCmpFunc_impl_Version_j1 rc p (P.length : Int) (k : Int) (P ++ ([x] ++ (Y ++ S))) := k3
  rw [k3']
  have gdef : ∀ h z, (P ++ ([x] ++ (Y ++ S)))[h]? = some z → good h = decide (q z x < 0) := fun h z hz => by
    show (match (P ++ ([x] ++ (Y ++ S)))[h]? with | some z => decide (q z x < 0) | none => false) = _; rw [hz]
  clear k3 k3'
  obtain ⟨B1, B2, rfl, hB⟩ : ∃ B1 B2, Y = B1 ++ B2 ∧ B1.length = k - (P.length + 1) := ⟨Y.take (k - (P.length + 1)), Y.drop (k - (P.length + 1)), (List.take_append_drop _ _).symm, by simp; omega⟩
  rw [List.length_append] at hl k2 k5
  refine ⟨B1, B2, rfl, ?_, ?_, ?_⟩
  · unfold m_slices_symMergeCmpFunc_impl_Version_j1
    have := L_up_slices_symMergeCmpFunc_impl_Version (rc := rc) (p := p) x B1 P (B2 ++ S) 1000000000 (by omega) (by simp; omega)
    rw [show (k : Int) = ((P.length + B1.length + 1 : Nat) : Int) by omega, show P ++ ([x] ++ (B1 ++ B2 ++ S)) = P ++ x :: (B1 ++ (B2 ++ S)) by simp, this]
    simp
  · intro z hz
    rcases k4 with h | h
    · have : B1 = [] := List.length_eq_zero_iff.1 (by omega)
      subst this; simp at hz
    · have hpos := lt_of_at hz
      have : (P ++ ([x] ++ (B1 ++ B2 ++ S)))[k - 1]? = some z := by
        rw [List.getElem?_append_right (by omega), List.getElem?_append_right (by simp; omega), List.append_assoc, List.getElem?_append_left (by simp; omega)]
        rw [← hz]; congr 1; simp; omega
      rw [gdef _ _ this] at h
      simpa using h
  · intro z hz
    rcases k5 with h | h
    · have : B2 = [] := List.length_eq_zero_iff.1 (by omega)
      subst this; simp at hz
    · have hpos := lt_of_at hz
      have : (P ++ ([x] ++ (B1 ++ B2 ++ S)))[k]? = some z := by
        rw [List.getElem?_append_right (by omega), List.getElem?_append_right (by simp; omega), List.append_assoc, List.getElem?_append_right (by simp; omega), List.getElem?_append_left (by simp; omega)]
        rw [← hz]; congr 1; simp; omega
      rw [gdef _ _ this] at h
      simpa using h
theorem L_b3_slices_symMergeCmpFunc_impl_Version {rc : List S_impl_Version → Int → Int → Int → (S_impl_Version → S_impl_Version → Option Int) → Option (List S_impl_Version)} {p : S_impl_Version → S_impl_Version → Option Int} {q : S_impl_Version → S_impl_Version → Int} {U : List S_impl_Version} (hp : ∀ x ∈ U, ∀ y ∈ U, p x y = some (q x y)) (y : S_impl_Version) (P X S : List S_impl_Version) (hU : ∀ z ∈ y :: X, z ∈ U) (hl : P.length + 1 + X.length + S.length ≤ 3000000) :
    ∃ A1 A2, X = A1 ++ A2 ∧ m_slices_symMergeCmpFunc_impl_Version_l3 rc p (((P.length + X.length : Nat) : Int) - (P.length : Int)).toNat.succ ((P.length + X.length : Nat) : Int) (P.length : Int) ((P.length + X.length : Nat) : Int) (P ++ (X ++ ([y] ++ S))) = some (P ++ ((A1 ++ y :: A2) ++ S)) ∧ (∀ z, A1[A1.length - 1]? = some z → ¬ q y z < 0) ∧ (∀ z, A2[0]? = some z → q y z < 0) := by
  have hx0 : (P ++ (X ++ ([y] ++ S)))[P.length + X.length]? = some y := by
    rw [List.getElem?_append_right (by omega), List.getElem?_append_right (by omega)]; simp
  let good : Nat → Bool := fun h => match (P ++ (X ++ ([y] ++ S)))[h]? with | some z => !decide (q y z < 0) | none => false
  obtain ⟨k, k1, k2, k3, k4, k5⟩ := bsLoop (fun n i j => m_slices_symMergeCmpFunc_impl_Version_l3 rc p n ((P.length + X.length : Nat) : Int) i j (P ++ (X ++ ([y] ++ S)))) (fun i => m_slices_symMergeCmpFunc_impl_Version_j4 rc p ((P.length + X.length : Nat) : Int) (i : Int) (P ++ (X ++ ([y] ++ S)))) good P.length (P.length + X.length)
    (fun n i => by show m_slices_symMergeCmpFunc_impl_Version_l3 rc p (n + 1) _ _ _ _ = _; rw [m_slices_symMergeCmpFunc_impl_Version_l3, dnlt, cond_false])
    (fun n i j h1 h2 h3 => by
      show m_slices_symMergeCmpFunc_impl_Version_l3 rc p (n + 1) _ _ _ _ = _
      obtain ⟨z, g1, g2, g3, g4⟩ := mid_get P X [y] S (i := (i + j) / 2) (by omega) (by simp only [List.length_singleton]; omega)
      have gd : good ((i + j) / 2) = !decide (q y z < 0) := by show (match (P ++ (X ++ ([y] ++ S)))[(i + j) / 2]? with | some z => !decide (q y z < 0) | none => false) = _; rw [g1]
      rw [m_slices_symMergeCmpFunc_impl_Version_l3, dlt h2, cond_true, show ((i : Int) + (j : Int)) = ((i + j : Nat) : Int) by omega, ckI_of (by omega) (by omega), Option.bind_some, uI_of (by omega) (by omega), Option.bind_some, shr_half, Option.bind_some, uI_of (by omega) (by omega), Option.bind_some, at_of hx0, Option.bind_some, Option.bind_some, at_of g1, Option.bind_some, Option.bind_some, hp y (hU y (by simp)) z (hU z (by rcases List.mem_append.1 g2 with h | h <;> simp_all)), Option.bind_some, gd]
      by_cases hq : q y z < 0
      · rw [decide_eq_true hq, Bool.not_true, cond_false, if_neg (by simp)]
      · rw [decide_eq_false hq, Bool.not_false, cond_true, if_pos rfl, ck1 (by omega), Option.bind_some]
        rfl)
    (((P.length + X.length : Nat) : Int) - (P.length : Int)).toNat.succ (by omega) (by omega)
  have k3' : m_slices_symMergeCmpFunc_impl_Version_l3 rc p (((P.length + X.length : Nat) : Int) - (P.length : Int)).toNat.succ ((P.length + X.length : Nat) : Int) (P.length : Int) ((P.length + X.length : Nat) : Int) (P ++ (X ++ ([y] ++ S))) = m_slices_symMergeCmpFunc_impl_Version_j4 rc p ((P.length + X.length : Nat) : Int) (k : Int) (P ++ (X ++ ([y] ++ S))) := k3
  rw [k3']
  have gdef : ∀ h z, (P ++ (X ++ ([y] ++ S)))[h]? = some z → good h = !decide (q y z < 0) := fun h z hz => by
    show (match (P ++ (X ++ ([y] ++ S)))[h]? with | some z => !decide (q y z < 0) | none => false) = _; rw [hz]
  clear k3 k3'
  obtain ⟨A1, A2, rfl, hA⟩ : ∃ A1 A2, X = A1 ++ A2 ∧ A1.length = k - P.length := ⟨X.take (k - P.length), X.drop (k - P.length), (List.take_append_drop _ _).symm, by simp; omega⟩
  rw [List.length_append] at hl k2 k5
  refine ⟨A1, A2, rfl, ?_, ?_, ?_⟩
  · unfold m_slices_symMergeCmpFunc_impl_Version_j4
    have := L_down_slices_symMergeCmpFunc_impl_Version (rc := rc) (p := p) y (P ++ A1) A2.length A2 S ((((P.length + (A1 ++ A2).length : Nat) : Int) - (k : Int)).toNat + 1) rfl (by simp; omega) (by simp; omega)
    rw [show (((P ++ A1).length : Nat) : Int) = (k : Int) by simp; omega, show (((P ++ A1).length + A2.length : Nat) : Int) = ((P.length + (A1 ++ A2).length : Nat) : Int) by simp; omega] at this
    rw [show P ++ (A1 ++ A2 ++ ([y] ++ S)) = (P ++ A1) ++ (A2 ++ y :: S) by simp, this]
    simp
  · intro z hz
    rcases k4 with h | h
    · have : A1 = [] := List.length_eq_zero_iff.1 (by omega)
      subst this; simp at hz
    · have hpos := lt_of_at hz
      have : (P ++ (A1 ++ A2 ++ ([y] ++ S)))[k - 1]? = some z := by
        rw [List.getElem?_append_right (by omega), List.append_assoc, List.getElem?_append_left (by omega)]
        rw [← hz]; congr 1; omega
      rw [gdef _ _ this] at h
      simpa using h
  · intro z hz
    rcases k5 with h | h
    · have : A2 = [] := List.length_eq_zero_iff.1 (by omega)
      subst this; simp at hz
    · have hpos := lt_of_at hz
      have : (P ++ (A1 ++ A2 ++ ([y] ++ S)))[k]? = some z := by
        rw [List.getElem?_append_right (by omega), List.append_assoc, List.getElem?_append_right (by omega), List.getElem?_append_left (by omega)]
        rw [← hz]; congr 1; omega
      rw [gdef _ _ this] at h
      simpa using h
theorem L_m12_slices_symMergeCmpFunc_impl_Version {rc : List S_impl_Version → Int → Int → Int → (S_impl_Version → S_impl_Version → Option Int) → Option (List S_impl_Version)} {p : S_impl_Version → S_impl_Version → Option Int} {q : S_impl_Version → S_impl_Version → Int} {U : List S_impl_Version} {d : Nat} (ih : ∀ (P X Y S : List S_impl_Version), X.length + Y.length ≤ d → 0 < X.length → 0 < Y.length → (∀ z ∈ X ++ Y, z ∈ U) → P.length + X.length + Y.length + S.length ≤ 3000000 → OrdB (fun x r => decide (q r x < 0)) X → OrdB (fun x r => decide (q r x < 0)) Y →
    ∃ Z, Z.Perm (X ++ Y) ∧ OrdB (fun x r => decide (q r x < 0)) Z ∧ rc (P ++ (X ++ (Y ++ S))) (P.length : Int) ((P.length + X.length : Nat) : Int) ((P.length + X.length + Y.length : Nat) : Int) p = some (P ++ (Z ++ S)))
    {P A2 B2 S : List S_impl_Version} {a h e b : Nat} (ha : P.length = a) (hm : a + h + A2.length = e) (hb : e + B2.length = b) (hd : A2.length + B2.length ≤ d) (hU : ∀ z ∈ A2 ++ B2, z ∈ U) (hl : b + S.length ≤ 3000000) (oA2 : OrdB (fun x r => decide (q r x < 0)) A2) (oB2 : OrdB (fun x r => decide (q r x < 0)) B2)
    (Z1 : List S_impl_Version) (hz : Z1.length = h) : ∃ Z2, Z2.Perm (A2 ++ B2) ∧ OrdB (fun x r => decide (q r x < 0)) Z2 ∧ m_slices_symMergeCmpFunc_impl_Version_j12 rc p (b : Int) ((a + h : Nat) : Int) (e : Int) (P ++ (Z1 ++ (A2 ++ (B2 ++ S)))) = some (P ++ ((Z1 ++ Z2) ++ S)) := by
  unfold m_slices_symMergeCmpFunc_impl_Version_j12
  have stay : A2 = [] ∨ B2 = [] → ∃ Z2, Z2.Perm (A2 ++ B2) ∧ OrdB (fun x r => decide (q r x < 0)) Z2 ∧ m_slices_symMergeCmpFunc_impl_Version_j13 rc p (b : Int) ((a + h : Nat) : Int) (e : Int) false (P ++ (Z1 ++ (A2 ++ (B2 ++ S)))) = some (P ++ ((Z1 ++ Z2) ++ S)) := by
    intro hn
    refine ⟨A2 ++ B2, .refl _, ?_, ?_⟩
    · rcases hn with rfl | rfl
      · simpa using oB2
      · simpa using oA2
    · unfold m_slices_symMergeCmpFunc_impl_Version_j13
      rw [cond_false]
      simp
  by_cases b1 : a + h < e
  · rw [dlt b1, cond_true]
    by_cases b2 : e < b
    · rw [dlt b2]
      obtain ⟨Z2, z1, z2, z3⟩ := ih (P ++ Z1) A2 B2 S hd (by omega) (by omega) hU (by rw [List.length_append]; omega) oA2 oB2
      refine ⟨Z2, z1, z2, ?_⟩
      unfold m_slices_symMergeCmpFunc_impl_Version_j13
      rw [cond_true, ← List.append_assoc]
      rw [List.length_append, ha, hz, hm, hb] at z3
      have zl := z1.length_eq
      rw [List.length_append] at zl
      rw [z3, Option.bind_some, lenQ_ok (by simp; omega), Option.bind_some]
      simp
    · rw [decide_eq_false (by omega)]
      exact stay (.inr (List.length_eq_zero_iff.1 (by omega)))
  · rw [decide_eq_false (by omega), cond_false]
    exact stay (.inl (List.length_eq_zero_iff.1 (by omega)))
theorem L_m10_slices_symMergeCmpFunc_impl_Version {rc : List S_impl_Version → Int → Int → Int → (S_impl_Version → S_impl_Version → Option Int) → Option (List S_impl_Version)} {p : S_impl_Version → S_impl_Version → Option Int} {q : S_impl_Version → S_impl_Version → Int} {U : List S_impl_Version} {d : Nat} (ht : ∀ x ∈ U, ∀ y ∈ U, ∀ z ∈ U, decide (q y x < 0) = false → decide (q z y < 0) = false → decide (q z x < 0) = false) (ih : ∀ (P X Y S : List S_impl_Version), X.length + Y.length ≤ d → 0 < X.length → 0 < Y.length → (∀ z ∈ X ++ Y, z ∈ U) → P.length + X.length + Y.length + S.length ≤ 3000000 → OrdB (fun x r => decide (q r x < 0)) X → OrdB (fun x r => decide (q r x < 0)) Y →
    ∃ Z, Z.Perm (X ++ Y) ∧ OrdB (fun x r => decide (q r x < 0)) Z ∧ rc (P ++ (X ++ (Y ++ S))) (P.length : Int) ((P.length + X.length : Nat) : Int) ((P.length + X.length + Y.length : Nat) : Int) p = some (P ++ (Z ++ S)))
    {P A1 A2 B1 B2 S : List S_impl_Version} {a h k e b : Nat} (ha : P.length = a) (hk : a + A1.length = k) (hh : k + B1.length = a + h) (hm : a + h + A2.length = e) (hb : e + B2.length = b) (hd1 : A1.length + B1.length ≤ d) (hd : A2.length + B2.length ≤ d) (hU : ∀ z ∈ A1 ++ A2 ++ (B1 ++ B2), z ∈ U) (hl : b + S.length ≤ 3000000) (oX : OrdB (fun x r => decide (q r x < 0)) (A1 ++ A2)) (oY : OrdB (fun x r => decide (q r x < 0)) (B1 ++ B2))
    (c1 : ∀ x y, A1[A1.length - 1]? = some x → B2[0]? = some y → decide (q y x < 0) = false) (c2 : ∀ x y, B1[B1.length - 1]? = some x → A2[0]? = some y → decide (q y x < 0) = false) :
    ∃ Z, Z.Perm (A1 ++ A2 ++ (B1 ++ B2)) ∧ OrdB (fun x r => decide (q r x < 0)) Z ∧ m_slices_symMergeCmpFunc_impl_Version_j10 rc p (a : Int) (b : Int) ((a + h : Nat) : Int) (k : Int) (e : Int) (P ++ (A1 ++ (B1 ++ (A2 ++ (B2 ++ S))))) = some (P ++ (Z ++ S)) := by
  obtain ⟨oA1, oA2, oA⟩ := ord_split oX
  obtain ⟨oB1, oB2, oB⟩ := ord_split oY
  have last := L_m12_slices_symMergeCmpFunc_impl_Version ih (P := P) (A2 := A2) (B2 := B2) (S := S) ha hm hb hd (fun z hz => hU z (by rcases List.mem_append.1 hz with h | h <;> simp [h])) hl oA2 oB2
  unfold m_slices_symMergeCmpFunc_impl_Version_j10
  have stay : A1 = [] ∨ B1 = [] → ∃ Z, Z.Perm (A1 ++ A2 ++ (B1 ++ B2)) ∧ OrdB (fun x r => decide (q r x < 0)) Z ∧ m_slices_symMergeCmpFunc_impl_Version_j11 rc p (a : Int) (b : Int) ((a + h : Nat) : Int) (k : Int) (e : Int) false (P ++ (A1 ++ (B1 ++ (A2 ++ (B2 ++ S))))) = some (P ++ (Z ++ S)) := by
    intro hn
    have oZ : OrdB (fun x r => decide (q r x < 0)) (A1 ++ B1) := by
      rcases hn with rfl | rfl
      · simpa using oB1
      · simpa using oA1
    obtain ⟨Z2, z1, z2, z3⟩ := last (A1 ++ B1) (by rw [List.length_append]; omega)
    obtain ⟨m1, m2⟩ := merge_mid ht hU oX oY c1 c2 (.refl _) oZ z1 z2
    refine ⟨_, m1, m2, ?_⟩
    unfold m_slices_symMergeCmpFunc_impl_Version_j11
    rw [cond_false, ← z3]
    congr 1; simp
  by_cases b1 : a < k
  · rw [dlt b1, cond_true]
    by_cases b2 : k < a + h
    · rw [dlt b2]
      obtain ⟨Z1, y1, y2, y3⟩ := ih P A1 B1 (A2 ++ (B2 ++ S)) hd1 (by omega) (by omega) (fun z hz => hU z (by rcases List.mem_append.1 hz with h | h <;> simp [h])) (by rw [List.length_append, List.length_append]; omega) oA1 oB1
      have zl := y1.length_eq
      rw [List.length_append] at zl
      obtain ⟨Z2, z1, z2, z3⟩ := last Z1 (by omega)
      obtain ⟨m1, m2⟩ := merge_mid ht hU oX oY c1 c2 y1 y2 z1 z2
      refine ⟨_, m1, m2, ?_⟩
      unfold m_slices_symMergeCmpFunc_impl_Version_j11
      rw [ha, hk, hh] at y3
      rw [cond_true, y3, Option.bind_some, lenQ_ok (by simp; omega), Option.bind_some]
      exact z3
    · rw [decide_eq_false (by omega)]
      exact stay (.inr (List.length_eq_zero_iff.1 (by omega)))
  · rw [decide_eq_false (by omega), cond_false]
    exact stay (.inl (List.length_eq_zero_iff.1 (by omega)))
theorem L_m8_slices_symMergeCmpFunc_impl_Version {rc : List S_impl_Version → Int → Int → Int → (S_impl_Version → S_impl_Version → Option Int) → Option (List S_impl_Version)} {p : S_impl_Version → S_impl_Version → Option Int} {q : S_impl_Version → S_impl_Version → Int} {U : List S_impl_Version} {d : Nat} (ht : ∀ x ∈ U, ∀ y ∈ U, ∀ z ∈ U, decide (q y x < 0) = false → decide (q z y < 0) = false → decide (q z x < 0) = false) (ih : ∀ (P X Y S : List S_impl_Version), X.length + Y.length ≤ d → 0 < X.length → 0 < Y.length → (∀ z ∈ X ++ Y, z ∈ U) → P.length + X.length + Y.length + S.length ≤ 3000000 → OrdB (fun x r => decide (q r x < 0)) X → OrdB (fun x r => decide (q r x < 0)) Y →
    ∃ Z, Z.Perm (X ++ Y) ∧ OrdB (fun x r => decide (q r x < 0)) Z ∧ rc (P ++ (X ++ (Y ++ S))) (P.length : Int) ((P.length + X.length : Nat) : Int) ((P.length + X.length + Y.length : Nat) : Int) p = some (P ++ (Z ++ S)))
    {P A1 A2 B1 B2 S : List S_impl_Version} {a h k e m b : Nat} (ha : P.length = a) (hk : a + A1.length = k) (hkm : k + A2.length = m) (hme : m + B1.length = e) (hh : k + B1.length = a + h) (hb : e + B2.length = b) (hd1 : A1.length + B1.length ≤ d) (hd : A2.length + B2.length ≤ d) (hU : ∀ z ∈ A1 ++ A2 ++ (B1 ++ B2), z ∈ U) (hl : b + S.length ≤ 3000000) (oX : OrdB (fun x r => decide (q r x < 0)) (A1 ++ A2)) (oY : OrdB (fun x r => decide (q r x < 0)) (B1 ++ B2))
    (c1 : ∀ x y, A1[A1.length - 1]? = some x → B2[0]? = some y → decide (q y x < 0) = false) (c2 : ∀ x y, B1[B1.length - 1]? = some x → A2[0]? = some y → decide (q y x < 0) = false) :
    ∃ Z, Z.Perm (A1 ++ A2 ++ (B1 ++ B2)) ∧ OrdB (fun x r => decide (q r x < 0)) Z ∧ m_slices_symMergeCmpFunc_impl_Version_j8 rc p (a : Int) (m : Int) (b : Int) ((a + h : Nat) : Int) (((a + h : Nat) : Int) + (m : Int)) (k : Int) (P ++ (A1 ++ A2 ++ (B1 ++ B2 ++ S))) = some (P ++ (Z ++ S)) := by
  obtain ⟨Z, f1, f2, f3⟩ := L_m10_slices_symMergeCmpFunc_impl_Version ht ih (S := S) ha hk hh (show a + h + A2.length = e by omega) hb hd1 hd hU hl oX oY c1 c2
  refine ⟨Z, f1, f2, ?_⟩
  unfold m_slices_symMergeCmpFunc_impl_Version_j8
  rw [show ((((a + h : Nat) : Int) + (m : Int)) - (k : Int)) = (e : Int) by omega, ckI_of (by omega) (by omega), Option.bind_some]
  have stay : A2 = [] ∨ B1 = [] → m_slices_symMergeCmpFunc_impl_Version_j9 rc p (a : Int) (m : Int) (b : Int) ((a + h : Nat) : Int) (k : Int) (e : Int) false (P ++ (A1 ++ A2 ++ (B1 ++ B2 ++ S))) = some (P ++ (Z ++ S)) := by
    intro hn
    unfold m_slices_symMergeCmpFunc_impl_Version_j9
    rw [cond_false, ← f3]
    congr 1
    rcases hn with rfl | rfl <;> simp
  by_cases b1 : k < m
  · rw [dlt b1, cond_true]
    by_cases b2 : m < e
    · rw [dlt b2]
      unfold m_slices_symMergeCmpFunc_impl_Version_j9
      have := L_slices_rotateCmpFunc_impl_Version (p := p) (P ++ A1) A2 B1 (B2 ++ S) (by omega) (by omega) (by rw [List.length_append, List.length_append]; omega)
      rw [List.length_append, ha, hk, hkm, hme] at this
      rw [cond_true, show P ++ (A1 ++ A2 ++ (B1 ++ B2 ++ S)) = P ++ A1 ++ (A2 ++ (B1 ++ (B2 ++ S))) by simp, this, Option.bind_some, lenQ_ok (by simp; omega), Option.bind_some, ← f3]
      congr 1; simp
    · rw [decide_eq_false (by omega)]
      exact stay (.inr (List.length_eq_zero_iff.1 (by omega)))
  · rw [decide_eq_false (by omega), cond_false]
    exact stay (.inl (List.length_eq_zero_iff.1 (by omega)))
theorem L_s7_slices_symMergeCmpFunc_impl_Version {rc : List S_impl_Version → Int → Int → Int → (S_impl_Version → S_impl_Version → Option Int) → Option (List S_impl_Version)} {p : S_impl_Version → S_impl_Version → Option Int} {q : S_impl_Version → S_impl_Version → Int} {U : List S_impl_Version} (hp : ∀ x ∈ U, ∀ y ∈ U, p x y = some (q x y))
    {P X Y S : List S_impl_Version} {a h m b : Nat} (ha : P.length = a) (hm : a + X.length = m) (hb : m + Y.length = b) (hU : ∀ z ∈ X ++ Y, z ∈ U) (hl : b + S.length ≤ 3000000)
    (lo hi : Nat) (l1 : a ≤ lo) (l2 : lo ≤ hi) (l3 : hi ≤ a + h) (l4 : hi ≤ m) (l5 : (a + h) + m ≤ lo + b) (l6 : a + h ≤ b) :
    ∃ k, lo ≤ k ∧ k ≤ hi ∧ m_slices_symMergeCmpFunc_impl_Version_j7 rc p (a : Int) (m : Int) (b : Int) ((a + h : Nat) : Int) (((a + h : Nat) : Int) + (m : Int)) (lo : Int) (hi : Int) (P ++ (X ++ (Y ++ S))) = m_slices_symMergeCmpFunc_impl_Version_j8 rc p (a : Int) (m : Int) (b : Int) ((a + h : Nat) : Int) (((a + h : Nat) : Int) + (m : Int)) (k : Int) (P ++ (X ++ (Y ++ S))) ∧
      (k = lo ∨ ∀ z w, (P ++ (X ++ (Y ++ S)))[(a + h) + m - 1 - (k - 1)]? = some z → (P ++ (X ++ (Y ++ S)))[k - 1]? = some w → decide (q z w < 0) = false) ∧ (k = hi ∨ ∀ z w, (P ++ (X ++ (Y ++ S)))[(a + h) + m - 1 - k]? = some z → (P ++ (X ++ (Y ++ S)))[k]? = some w → q z w < 0) := by
  unfold m_slices_symMergeCmpFunc_impl_Version_j7
  rw [ckI_of (by omega) (by omega), Option.bind_some]
  let good : Nat → Bool := fun c => match (P ++ (X ++ (Y ++ S)))[(a + h) + m - 1 - c]?, (P ++ (X ++ (Y ++ S)))[c]? with | some z, some w => !decide (q z w < 0) | _, _ => false
  have gdef : ∀ c z w, (P ++ (X ++ (Y ++ S)))[(a + h) + m - 1 - c]? = some z → (P ++ (X ++ (Y ++ S)))[c]? = some w → good c = !decide (q z w < 0) := fun c z w hz hw => by
    show (match (P ++ (X ++ (Y ++ S)))[(a + h) + m - 1 - c]?, (P ++ (X ++ (Y ++ S)))[c]? with | some z, some w => !decide (q z w < 0) | _, _ => false) = _; rw [hz, hw]
  obtain ⟨k, k1, k2, k3, k4, k5⟩ := bsLoop (fun n i j => m_slices_symMergeCmpFunc_impl_Version_l5 rc p n (a : Int) (m : Int) (b : Int) ((a + h : Nat) : Int) (((a + h : Nat) : Int) + (m : Int)) i j ((((a + h : Nat) : Int) + (m : Int)) - 1) (P ++ (X ++ (Y ++ S))))
    (fun i => m_slices_symMergeCmpFunc_impl_Version_j8 rc p (a : Int) (m : Int) (b : Int) ((a + h : Nat) : Int) (((a + h : Nat) : Int) + (m : Int)) (i : Int) (P ++ (X ++ (Y ++ S)))) good lo hi
    (fun n i => by show m_slices_symMergeCmpFunc_impl_Version_l5 _ p (n + 1) _ _ _ _ _ _ _ _ _ = _; rw [m_slices_symMergeCmpFunc_impl_Version_l5, dnlt, cond_false])
    (fun n i j h1 h2 h3 => by
      show m_slices_symMergeCmpFunc_impl_Version_l5 _ p (n + 1) _ _ _ _ _ _ _ _ _ = _
      generalize hc : (i + j) / 2 = c at *
      obtain ⟨w, w1, w2, w3, w4⟩ := mid_get P X Y S (i := c) (by omega) (by omega)
      obtain ⟨z, z1, z2, z3, z4⟩ := mid_get P X Y S (i := (a + h) + m - 1 - c) (by omega) (by omega)
      rw [m_slices_symMergeCmpFunc_impl_Version_l5, dlt h2, cond_true, show ((i : Int) + (j : Int)) = ((i + j : Nat) : Int) by omega, ckI_of (by omega) (by omega), Option.bind_some, uI_of (by omega) (by omega), Option.bind_some, shr_half, Option.bind_some, uI_of (by omega) (by omega), Option.bind_some, hc, ckI_of (by omega) (by omega), Option.bind_some,
        show ((((a + h : Nat) : Int) + (m : Int)) - 1 - (c : Int)) = (((a + h) + m - 1 - c : Nat) : Int) by omega, at_of z1, Option.bind_some, Option.bind_some, at_of w1, Option.bind_some, Option.bind_some, hp z (hU z z2) w (hU w w2), Option.bind_some, gdef c z w z1 w1]
      by_cases hq : q z w < 0
      · rw [decide_eq_true hq, Bool.not_true, cond_false, if_neg (by simp)]
      · rw [decide_eq_false hq, Bool.not_false, cond_true, if_pos rfl, ck1 (by omega), Option.bind_some]
        rfl)
    (((hi : Int) - (lo : Int)).toNat + 1) (by omega) l2
  refine ⟨k, k1, k2, k3, ?_, ?_⟩
  · rcases k4 with hk | hk
    · exact .inl hk
    · refine .inr fun z w hz hw => ?_
      rw [gdef _ _ _ hz hw] at hk
      simpa using hk
  · rcases k5 with hk | hk
    · exact .inl hk
    · refine .inr fun z w hz hw => ?_
      rw [gdef _ _ _ hz hw] at hk
      simpa using hk
theorem L_m7_slices_symMergeCmpFunc_impl_Version {rc : List S_impl_Version → Int → Int → Int → (S_impl_Version → S_impl_Version → Option Int) → Option (List S_impl_Version)} {p : S_impl_Version → S_impl_Version → Option Int} {q : S_impl_Version → S_impl_Version → Int} {U : List S_impl_Version} {d : Nat} (hp : ∀ x ∈ U, ∀ y ∈ U, p x y = some (q x y)) (ht : ∀ x ∈ U, ∀ y ∈ U, ∀ z ∈ U, decide (q y x < 0) = false → decide (q z y < 0) = false → decide (q z x < 0) = false) (has : ∀ x ∈ U, ∀ y ∈ U, q y x < 0 → ¬ q x y < 0) (ih : ∀ (P X Y S : List S_impl_Version), X.length + Y.length ≤ d → 0 < X.length → 0 < Y.length → (∀ z ∈ X ++ Y, z ∈ U) → P.length + X.length + Y.length + S.length ≤ 3000000 → OrdB (fun x r => decide (q r x < 0)) X → OrdB (fun x r => decide (q r x < 0)) Y →
    ∃ Z, Z.Perm (X ++ Y) ∧ OrdB (fun x r => decide (q r x < 0)) Z ∧ rc (P ++ (X ++ (Y ++ S))) (P.length : Int) ((P.length + X.length : Nat) : Int) ((P.length + X.length + Y.length : Nat) : Int) p = some (P ++ (Z ++ S)))
    {P X Y S : List S_impl_Version} {a h : Nat} (ha : P.length = a) (hh : (X.length + Y.length) / 2 = h) (hmid : (a + (a + X.length + Y.length)) / 2 = a + h) (hX : 2 ≤ X.length) (hY : 2 ≤ Y.length) (hd : X.length + Y.length ≤ d + 1) (hU : ∀ z ∈ X ++ Y, z ∈ U) (hl : a + X.length + Y.length + S.length ≤ 3000000) (oX : OrdB (fun x r => decide (q r x < 0)) X) (oY : OrdB (fun x r => decide (q r x < 0)) Y)
    (lo hi : Nat) (l1 : a ≤ lo) (l2 : lo ≤ hi) (l3 : hi ≤ a + h) (l4 : hi ≤ a + X.length) (l5 : (a + h) + (a + X.length) ≤ lo + (a + X.length + Y.length)) (l6 : (lo = a ∨ (a + h) + (a + X.length) = lo + (a + X.length + Y.length))) (l7 : (hi = a + h ∨ hi = a + X.length)) :
    ∃ Z, Z.Perm (X ++ Y) ∧ OrdB (fun x r => decide (q r x < 0)) Z ∧ m_slices_symMergeCmpFunc_impl_Version_j7 rc p (a : Int) ((a + X.length : Nat) : Int) ((a + X.length + Y.length : Nat) : Int) ((a + h : Nat) : Int) (((a + h : Nat) : Int) + ((a + X.length : Nat) : Int)) (lo : Int) (hi : Int) (P ++ (X ++ (Y ++ S))) = some (P ++ (Z ++ S)) := by
  have hUX : ∀ z ∈ X, z ∈ U := fun z hz => hU z (by simp [hz])
  have hUY : ∀ z ∈ Y, z ∈ U := fun z hz => hU z (by simp [hz])
  have asy : ∀ x ∈ U, ∀ y ∈ U, q y x < 0 → decide (q x y < 0) = false := fun x hx y hy h => decide_eq_false (has x hx y hy h)
  obtain ⟨k, k1, k2, k3, k4, k5⟩ := L_s7_slices_symMergeCmpFunc_impl_Version (rc := rc) (S := S) (h := h) hp ha (m := a + X.length) (b := a + X.length + Y.length) rfl rfl hU (by omega) lo hi l1 l2 l3 l4 l5 (by omega)
  rw [k3]
  clear k3
  obtain ⟨e, he⟩ : ∃ e, (a + h) + (a + X.length) = k + e := ⟨(a + h) + (a + X.length) - k, by omega⟩
  obtain ⟨A1, A2, B1, B2, rfl, rfl, hA, hB, c1, c2⟩ := cut_mid P X Y S (k := k) (e := e) (by omega) (by omega) (by omega) (by omega)
  have lA : (A1 ++ A2).length = A1.length + A2.length := List.length_append
  have lB : (B1 ++ B2).length = B1.length + B2.length := List.length_append
  have d1 : ∀ x y, A1[A1.length - 1]? = some x → B2[0]? = some y → decide (q y x < 0) = false := by
    intro x y hx hy
    obtain ⟨g1, g2⟩ := c1 x y hx hy
    have p1 := lt_of_at hx
    have p2 := lt_of_at hy
    rcases k4 with hk | hk
    · omega
    · exact hk y x (by rw [show a + h + (a + (A1 ++ A2).length) - 1 - (k - 1) = e by omega]; exact g2) g1
  have d2 : ∀ x y, B1[B1.length - 1]? = some x → A2[0]? = some y → decide (q y x < 0) = false := by
    intro x y hx hy
    obtain ⟨g1, g2⟩ := c2 x y hx hy
    have p1 := lt_of_at hx
    have p2 := lt_of_at hy
    rcases k5 with hk | hk
    · omega
    · exact asy _ (hUX _ (List.mem_append_right _ (List.mem_of_getElem? hy))) _ (hUY _ (List.mem_append_left _ (List.mem_of_getElem? hx))) (hk x y (by rw [show a + h + (a + (A1 ++ A2).length) - 1 - k = e - 1 by omega]; exact g1) g2)
  exact L_m8_slices_symMergeCmpFunc_impl_Version ht ih ha (by omega) (by omega) (show a + (A1 ++ A2).length + B1.length = e by omega) (by omega) (by omega) (by omega) (by omega) hU (by omega) oX oY d1 d2
theorem L_slices_symMergeCmpFunc_impl_Version {p : S_impl_Version → S_impl_Version → Option Int} {q : S_impl_Version → S_impl_Version → Int} {U : List S_impl_Version} (hp : ∀ x ∈ U, ∀ y ∈ U, p x y = some (q x y)) (ht : ∀ x ∈ U, ∀ y ∈ U, ∀ z ∈ U, decide (q y x < 0) = false → decide (q z y < 0) = false → decide (q z x < 0) = false) (has : ∀ x ∈ U, ∀ y ∈ U, q y x < 0 → ¬ q x y < 0) :
    ∀ (d fu : Nat) (P X Y S : List S_impl_Version), X.length + Y.length ≤ d → d < fu → 0 < X.length → 0 < Y.length → (∀ z ∈ X ++ Y, z ∈ U) → P.length + X.length + Y.length + S.length ≤ 3000000 → OrdB (fun x r => decide (q r x < 0)) X → OrdB (fun x r => decide (q r x < 0)) Y →
    ∃ Z, Z.Perm (X ++ Y) ∧ OrdB (fun x r => decide (q r x < 0)) Z ∧ m_slices_symMergeCmpFunc_impl_Version fu (P ++ (X ++ (Y ++ S))) (P.length : Int) ((P.length + X.length : Nat) : Int) ((P.length + X.length + Y.length : Nat) : Int) p = some (P ++ (Z ++ S)) := by
  intro d
  induction d with
  | zero => intro fu P X Y S h1 h2 h3; omega
  | succ d ih =>
    intro fu P X Y S hd hfu hX hY hU hl oX oY
    obtain ⟨fu, rfl⟩ : ∃ g, fu = g + 1 := ⟨fu - 1, by omega⟩
    have hUX : ∀ z ∈ X, z ∈ U := fun z hz => hU z (by simp [hz])
    have hUY : ∀ z ∈ Y, z ∈ U := fun z hz => hU z (by simp [hz])
    have asy : ∀ x ∈ U, ∀ y ∈ U, q y x < 0 → decide (q x y < 0) = false := fun x hx y hy h => decide_eq_false (has x hx y hy h)
    rw [m_slices_symMergeCmpFunc_impl_Version]
    unfold m_slices_symMergeCmpFunc_impl_Version_b
    rw [ckI_of (by omega) (by omega), Option.bind_some]
    by_cases hx1 : X.length = 1
    · rw [show ((((P.length + X.length : Nat) : Int) - (P.length : Int)) == 1) = true by rw [beq_iff_eq]; omega, cond_true]
      obtain ⟨x, rfl⟩ := List.length_eq_one_iff.1 hx1
      obtain ⟨B1, B2, rfl, g1, g2, g3⟩ := L_b1_slices_symMergeCmpFunc_impl_Version (rc := m_slices_symMergeCmpFunc_impl_Version fu) hp x P Y S (by simpa using hU) (by simpa using hl)
      refine ⟨B1 ++ x :: B2, ?_, ?_, ?_⟩
      · rw [List.singleton_append]; exact List.perm_middle
      · obtain ⟨o1, o2, o3⟩ := ord_split oY
        have := (merge_mid (A1 := []) (A2 := [x]) (Z1 := B1) (Z2 := x :: B2) ht (by simpa using hU) (by simpa using oX) oY (fun a b ha => by simp at ha) (fun a b ha hb => by
          simp at hb; subst hb
          exact asy _ (hUX _ (by simp)) _ (hUY _ (List.mem_append_left _ (List.mem_of_getElem? ha))) (g2 a ha)) (.refl _) o1 (.refl _) (ord_app (X := [x]) (List.pairwise_singleton _ _) o2 (ord_cross ht hUX (fun z hz => hUY z (by simp [hz])) (List.pairwise_singleton _ _) o2 (fun a b ha hb => by
          simp at ha; subst ha
          exact decide_eq_false (g3 b hb))))).2
        exact this
      · refine Eq.trans ?_ g1; rfl
    · rw [show ((((P.length + X.length : Nat) : Int) - (P.length : Int)) == 1) = false by rw [beq_eq_false_iff_ne]; omega, cond_false]
      unfold m_slices_symMergeCmpFunc_impl_Version_j3
      rw [ckI_of (by omega) (by omega), Option.bind_some]
      by_cases hy1 : Y.length = 1
      · rw [show ((((P.length + X.length + Y.length : Nat) : Int) - ((P.length + X.length : Nat) : Int)) == 1) = true by rw [beq_iff_eq]; omega, cond_true]
        obtain ⟨y, rfl⟩ := List.length_eq_one_iff.1 hy1
        obtain ⟨A1, A2, rfl, g1, g2, g3⟩ := L_b3_slices_symMergeCmpFunc_impl_Version (rc := m_slices_symMergeCmpFunc_impl_Version fu) hp y P X S (fun z hz => by rcases List.mem_cons.1 hz with rfl | hz; exact hUY _ (by simp); exact hUX z hz) (by simp at hl ⊢; omega)
        refine ⟨A1 ++ y :: A2, ?_, ?_, ?_⟩
        · rw [List.append_assoc]
          refine List.Perm.append_left A1 ?_
          exact (List.perm_append_comm (l₁ := [y]) (l₂ := A2))
        · obtain ⟨o1, o2, o3⟩ := ord_split oX
          have := (merge_mid (A1 := A1) (A2 := A2) (B1 := [y]) (B2 := []) (Z1 := A1 ++ [y]) (Z2 := A2) ht (by simpa using hU) oX (by simpa using oY) (fun a b ha hb => by simp at hb) (fun a b ha hb => by
            simp at ha; subst ha
            exact asy _ (hUX _ (List.mem_append_right _ (List.mem_of_getElem? hb))) _ (hUY _ (by simp)) (g3 b hb)) (.refl _) (ord_app (Y := [y]) o1 (List.pairwise_singleton _ _) (ord_cross ht (fun z hz => hUX z (by simp [hz])) hUY o1 (List.pairwise_singleton _ _) (fun a b ha hb => by
            simp at hb; subst hb
            exact decide_eq_false (g2 a ha)))) (by simp) o2).2
          simpa using this
        · refine Eq.trans ?_ g1; rfl
      · rw [show ((((P.length + X.length + Y.length : Nat) : Int) - ((P.length + X.length : Nat) : Int)) == 1) = false by rw [beq_eq_false_iff_ne]; omega, cond_false]
        unfold m_slices_symMergeCmpFunc_impl_Version_j6
        generalize ha : P.length = a at *
        have hmid : (a + (a + X.length + Y.length)) / 2 = a + (X.length + Y.length) / 2 := by omega
        rw [show ((a : Int) + ((a + X.length + Y.length : Nat) : Int)) = ((a + (a + X.length + Y.length) : Nat) : Int) by omega, ckI_of (by omega) (by omega), Option.bind_some, uI_of (by omega) (by omega), Option.bind_some, shr_half, Option.bind_some, uI_of (by omega) (by omega), Option.bind_some, hmid]
        generalize hh : (X.length + Y.length) / 2 = h at *
        rw [ckI_of (by omega) (by omega), Option.bind_some]
        have go := fun lo hi => L_m7_slices_symMergeCmpFunc_impl_Version (rc := m_slices_symMergeCmpFunc_impl_Version fu) (d := d) hp ht has (fun P X Y S h1 h2 h3 h4 h5 h6 h7 => ih fu P X Y S h1 (by omega) h2 h3 h4 h5 h6 h7) (P := P) (X := X) (Y := Y) (S := S) ha hh hmid (by omega) (by omega) hd hU hl oX oY lo hi
        by_cases hm : a + X.length > a + h
        · rw [decide_eq_true (show (((a + X.length : Nat) : Int) > ((a + h : Nat) : Int)) by omega), cond_true, ckI_of (by omega) (by omega), Option.bind_some, show (((a + h : Nat) : Int) + ((a + X.length : Nat) : Int) - ((a + X.length + Y.length : Nat) : Int)) = (((a + h) + (a + X.length) - (a + X.length + Y.length) : Nat) : Int) by omega]
          exact go _ _ (by omega) (by omega) (by omega) (by omega) (by omega) (by omega) (by omega)
        · rw [decide_eq_false (show ¬ (((a + X.length : Nat) : Int) > ((a + h : Nat) : Int)) by omega), cond_false]
          exact go a (a + X.length) (by omega) (by omega) (by omega) (by omega) (by omega) (by omega) (by omega)
theorem L_seg_slices_insertionSortCmpFunc_impl_Version {p : S_impl_Version → S_impl_Version → Option Int} {q : S_impl_Version → S_impl_Version → Int} (P X S : List S_impl_Version) (hl : P.length + X.length + S.length ≤ 3000000) (hp : ∀ x ∈ X, ∀ y ∈ X, p x y = some (q x y)) : m_slices_insertionSortCmpFunc_impl_Version (P ++ (X ++ S)) (P.length : Int) ((P.length + X.length : Nat) : Int) p = some (P ++ (isort (fun x r => decide (q r x < 0)) X ++ S)) := by
  unfold m_slices_insertionSortCmpFunc_impl_Version
  rw [ck1 (by omega), Option.bind_some]
  have get : ∀ (o : List S_impl_Version) (j : Nat) (x : S_impl_Version), o.length = X.length → o[j]? = some x → (P ++ (o ++ S))[P.length + j]? = some x := by
    intro o j x ho hx
    have := lt_of_at hx
    rw [List.getElem?_append_right (by omega), List.getElem?_append_left (by omega), ← hx]; congr 1; omega
  have hset : ∀ (o : List S_impl_Version) (j : Nat) (x : S_impl_Version), j < o.length → (P ++ (o ++ S)).set (P.length + j) x = P ++ (o.set j x ++ S) := by
    intro o j x hj
    rw [List.set_append_right _ _ (by omega), List.set_append_left _ _ (by omega)]; congr 3; omega
  have := insSort (lt := fun r x => decide (q r x < 0)) (J := fun s => some (P ++ (s ++ S))) (N := X.length) (fun n i o => m_slices_insertionSortCmpFunc_impl_Version_l1 p n (P.length : Int) ((P.length + X.length : Nat) : Int) ((P.length : Int) + i) (P ++ (o ++ S))) (fun n m i j o => m_slices_insertionSortCmpFunc_impl_Version_l2 p (m_slices_insertionSortCmpFunc_impl_Version_l1 p n) m (P.length : Int) ((P.length + X.length : Nat) : Int) ((P.length : Int) + i) ((P.length : Int) + j) (P ++ (o ++ S))) (by omega)
    (fun o => ∀ x ∈ o, ∀ y ∈ o, p x y = some (q x y)) (fun a b h ha x hx y hy => ha x (h.mem_iff.2 hx) y (h.mem_iff.2 hy)) ?_ ?_ ?_ ?_ X rfl hp ((((P.length + X.length : Nat) : Int) - ((P.length : Int) + 1)).toNat + 1) (by omega) (by omega)
  · exact this
  · intro n i o hi
    show m_slices_insertionSortCmpFunc_impl_Version_l1 p (n + 1) _ _ _ _ = _
    rw [m_slices_insertionSortCmpFunc_impl_Version_l1, decide_eq_true (by omega), cond_true]
  · intro n i o hi
    show m_slices_insertionSortCmpFunc_impl_Version_l1 p (n + 1) _ _ _ _ = _
    rw [m_slices_insertionSortCmpFunc_impl_Version_l1, decide_eq_false (by omega), cond_false]
  · intro n m i o hi
    show m_slices_insertionSortCmpFunc_impl_Version_l2 p _ (m + 1) _ _ _ _ _ = _
    rw [m_slices_insertionSortCmpFunc_impl_Version_l2, decide_eq_false (by omega), cond_false]
    unfold m_slices_insertionSortCmpFunc_impl_Version_j1 m_slices_insertionSortCmpFunc_impl_Version_j2
    rw [cond_false, ckI_of (by omega) (by omega), Option.bind_some, show (P.length : Int) + (i : Int) + 1 = (P.length : Int) + ((i + 1 : Nat) : Int) by omega]
  · intro n m i j o x y hi hj ho hc hx hy
    have hxy := hc x (List.mem_of_getElem? hx) y (List.mem_of_getElem? hy)
    have gx := get o _ x ho hx
    have gy := get o _ y ho hy
    have b1 := lt_of_at hx
    show m_slices_insertionSortCmpFunc_impl_Version_l2 p _ (m + 1) _ _ _ _ _ = _
    rw [m_slices_insertionSortCmpFunc_impl_Version_l2, decide_eq_true (by omega), cond_true, show (P.length : Int) + ((j + 1 : Nat) : Int) = ((P.length + j + 1 : Nat) : Int) by omega]
    rw [show P.length + (j + 1) = P.length + j + 1 by omega] at gx
    have st1 := hset o (j + 1) y b1
    have st2 := hset (o.set (j + 1) y) j x (by simp; omega)
    rw [show P.length + (j + 1) = P.length + j + 1 by omega] at st1
    rw [at_of gx, Option.bind_some, Option.bind_some, ckdd (show P.length + j < 1000000000000 by omega), Option.bind_some, at_of gy, Option.bind_some, Option.bind_some, hxy, Option.bind_some]
    unfold m_slices_insertionSortCmpFunc_impl_Version_j1 m_slices_insertionSortCmpFunc_impl_Version_j2
    by_cases h : q x y < 0
    · rw [decide_eq_true h, cond_true, if_pos rfl, ckdd (show P.length + j < 1000000000000 by omega), Option.bind_some, Option.bind_some, at_of gy, Option.bind_some, Option.bind_some, at_of gx, Option.bind_some, Option.bind_some, Option.bind_some, Option.bind_some, ltE, Int.toNat_natCast, Int.toNat_natCast, at_set_ne gy (show P.length + j + 1 ≠ P.length + j by omega), Option.bind_some, Option.bind_some, ltE, Option.bind_some, st1, st2]
      rw [show ((P.length + j : Nat) : Int) = (P.length : Int) + (j : Int) by omega]
    · rw [decide_eq_false h, cond_false, ckI_of (by omega) (by omega), Option.bind_some, if_neg (by simp), show (P.length : Int) + (i : Int) + 1 = (P.length : Int) + ((i + 1 : Nat) : Int) by omega]
theorem L_any_slices_SortStableFunc_Limpl_Version_impl_Version {l : List S_impl_Version} {p : S_impl_Version → S_impl_Version → Option Int} {q : S_impl_Version → S_impl_Version → Int} (hl : l.length ≤ 100000) (hp : ∀ x ∈ l, ∀ y ∈ l, p x y = some (q x y)) (ht : ∀ x ∈ l, ∀ y ∈ l, ∀ z ∈ l, decide (q y x < 0) = false → decide (q z y < 0) = false → decide (q z x < 0) = false) (has : ∀ x ∈ l, ∀ y ∈ l, q y x < 0 → ¬ q x y < 0) :
    ∃ o, o.Perm l ∧ OrdB (fun x r => decide (q r x < 0)) o ∧ m_slices_SortStableFunc_Limpl_Version_impl_Version l p = some o := by
  have isO : ∀ X : List S_impl_Version, (∀ x ∈ X, x ∈ l) → OrdB (fun x r => decide (q r x < 0)) (isort (fun x r => decide (q r x < 0)) X) := fun X hX => isort_ord (fun x hx y hy z hz => ht x (hX x hx) y (hX y hy) z (hX z hz)) (fun x hx y hy h => decide_eq_false (has x (hX x hx) y (hX y hy) (of_decide_eq_true h)))
  have mrg : ∀ (P X Y S : List S_impl_Version), 0 < X.length → 0 < Y.length → P.length + X.length + Y.length + S.length = l.length → (∀ x ∈ X, x ∈ l) → (∀ x ∈ Y, x ∈ l) → OrdB (fun x r => decide (q r x < 0)) X → OrdB (fun x r => decide (q r x < 0)) Y → ∃ Z, Z.Perm (X ++ Y) ∧ OrdB (fun x r => decide (q r x < 0)) Z ∧ m_slices_symMergeCmpFunc_impl_Version 1000000000 (P ++ (X ++ (Y ++ S))) (P.length : Int) ((P.length + X.length : Nat) : Int) ((P.length + X.length + Y.length : Nat) : Int) p = some (P ++ (Z ++ S)) := by
    intro P X Y S hX hY hN hUX hUY oX oY
    exact L_slices_symMergeCmpFunc_impl_Version hp ht has (X.length + Y.length) 1000000000 P X Y S (Nat.le_refl _) (by omega) hX hY (fun z hz => by rcases List.mem_append.1 hz with h | h; exact hUX z h; exact hUY z h) (by omega) oX oY
  have r2 : ∀ n (bs : Nat) (o : List S_impl_Version), 0 < bs → bs < l.length → o.length = l.length → (∀ x ∈ o, x ∈ l) → Chk (fun x r => decide (q r x < 0)) bs o → ∃ o', o'.Perm o ∧ Chk (fun x r => decide (q r x < 0)) (2 * bs) o' ∧ m_slices_stableCmpFunc_impl_Version_l2 p (n + 1) (l.length : Int) (bs : Int) o = m_slices_stableCmpFunc_impl_Version_l2 p n (l.length : Int) ((2 * bs : Nat) : Int) o' := by
    intro n bs o hb hbl ho hU hC
    have c2 : ckI ((2 : Int) * (bs : Int)) = some ((2 * bs : Nat) : Int) := by rw [ckI_of (by omega) (by omega)]; congr 1
    have := stable2 (U := fun x => x ∈ l) (gt := fun x r => decide (q r x < 0)) (N := l.length) (bs := bs) (J := fun o' => m_slices_stableCmpFunc_impl_Version_l2 p n (l.length : Int) ((2 * bs : Nat) : Int) o') hb
      (fun n3 a b o => m_slices_stableCmpFunc_impl_Version_l3 p (m_slices_stableCmpFunc_impl_Version_l2 p n) n3 (l.length : Int) (bs : Int) (a : Int) (b : Int) o)
      (fun n3 P X Y S hX hY hN oX oY hUX hUY => by
        obtain ⟨Z, z1, z2, z3⟩ := mrg P X Y S (by omega) (by omega) hN hUX hUY oX oY
        have zl := z1.length_eq
        rw [List.length_append] at zl
        refine ⟨Z, z1, z2, ?_⟩
        show m_slices_stableCmpFunc_impl_Version_l3 p _ (n3 + 1) _ _ _ _ _ = _
        rw [show P.length + X.length + Y.length = P.length + 2 * bs by omega] at z3
        rw [m_slices_stableCmpFunc_impl_Version_l3, decide_eq_true (by omega), cond_true, ckI_of (by omega) (by omega), Option.bind_some, show ((P.length : Int) + (bs : Int)) = ((P.length + X.length : Nat) : Int) by omega, z3, Option.bind_some, lenQ_ok (by simp; omega), Option.bind_some, c2, Option.bind_some, ckI_of (by omega) (by omega), Option.bind_some]
        rfl)
      (fun n3 P X Y hX hY0 hY hN oX oY hUX hUY => by
        obtain ⟨Z, z1, z2, z3⟩ := mrg P X Y [] (by omega) (by omega) (by simpa using hN) hUX hUY oX oY
        have zl := z1.length_eq
        rw [List.length_append] at zl
        refine ⟨Z, z1, z2, ?_⟩
        show m_slices_stableCmpFunc_impl_Version_l3 p _ (n3 + 1) _ _ _ _ _ = _
        rw [List.append_nil, List.append_nil] at z3
        rw [m_slices_stableCmpFunc_impl_Version_l3, decide_eq_false (by omega), cond_false]
        unfold m_slices_stableCmpFunc_impl_Version_j2 m_slices_stableCmpFunc_impl_Version_j3
        rw [ckI_of (by omega) (by omega), Option.bind_some, decide_eq_true (by omega), cond_true, show ((P.length : Int) + (bs : Int)) = ((P.length + X.length : Nat) : Int) by omega, show (l.length : Int) = ((P.length + X.length + Y.length : Nat) : Int) by omega, z3, Option.bind_some, lenQ_ok (by simp; omega), Option.bind_some, show ((bs : Int) * 2) = 2 * (bs : Int) by omega, c2, Option.bind_some])
      (fun n3 P X hX hN => by
        show m_slices_stableCmpFunc_impl_Version_l3 p _ (n3 + 1) _ _ _ _ _ = _
        rw [m_slices_stableCmpFunc_impl_Version_l3, decide_eq_false (by omega), cond_false]
        unfold m_slices_stableCmpFunc_impl_Version_j2 m_slices_stableCmpFunc_impl_Version_j3
        rw [ckI_of (by omega) (by omega), Option.bind_some, decide_eq_false (by omega), cond_false, show ((bs : Int) * 2) = 2 * (bs : Int) by omega, c2, Option.bind_some])
      (((l.length : Int) - ((2 * bs : Nat) : Int)).toNat + 2) o [] (by
        rw [ho]
        generalize hw : ((l.length : Int) - ((2 * bs : Nat) : Int)).toNat = w
        rw [Nat.mul_add]
        have : w ≤ 2 * bs * w := Nat.le_mul_of_pos_left w (by omega)
        omega) (by simpa using ho) hU hC
    obtain ⟨o', g1, g2, g3⟩ := this
    refine ⟨o', g1, g2, ?_⟩
    rw [m_slices_stableCmpFunc_impl_Version_l2, decide_eq_true (by omega), cond_true, c2, Option.bind_some]
    simp only [List.nil_append, List.length_nil, Nat.zero_add] at g3
    exact g3
  have r1 := stable1 (U := fun x => x ∈ l) (gt := fun x r => decide (q r x < 0)) (N := l.length) (bs := 20) (J := fun o' => m_slices_stableCmpFunc_impl_Version_l2 p (((l.length : Int) - 20).toNat + 1) (l.length : Int) 20 o') (by omega)
    (fun n a b o => m_slices_stableCmpFunc_impl_Version_l1 p n (l.length : Int) 20 (a : Int) (b : Int) o) isO
    (fun n P X S hX hN hU => by
      show m_slices_stableCmpFunc_impl_Version_l1 p (n + 1) _ _ _ _ _ = _
      have := L_seg_slices_insertionSortCmpFunc_impl_Version (p := p) (q := q) P X S (by omega) (fun x hx y hy => hp x (hU x hx) y (hU y hy))
      rw [hX] at this
      rw [m_slices_stableCmpFunc_impl_Version_l1, decide_eq_true (by omega), cond_true, this, Option.bind_some, lenQ_ok (by simp [isort_len]), Option.bind_some, ckI_of (by omega) (by omega), Option.bind_some]
      rfl)
    (fun n P X hX hN hU => by
      show m_slices_stableCmpFunc_impl_Version_l1 p (n + 1) _ _ _ _ _ = _
      have := L_seg_slices_insertionSortCmpFunc_impl_Version (p := p) (q := q) P X [] (by simp; omega) (fun x hx y hy => hp x (hU x hx) y (hU y hy))
      rw [hN, List.append_nil, List.append_nil] at this
      rw [m_slices_stableCmpFunc_impl_Version_l1, decide_eq_false (by omega), cond_false]
      unfold m_slices_stableCmpFunc_impl_Version_j1
      rw [this, Option.bind_some, lenQ_ok (by simp [isort_len]), Option.bind_some])
    (((l.length : Int) - 20).toNat + 2) l [] (by omega) (by simp) (fun x h => h)
  obtain ⟨l1, g1, g2, g3⟩ := r1
  obtain ⟨o, k1, k2, k3⟩ := stable3 (U := fun x => x ∈ l) (gt := fun x r => decide (q r x < 0)) (N := l.length) (J := fun o => some o) (fun n bs o => m_slices_stableCmpFunc_impl_Version_l2 p n (l.length : Int) (bs : Int) o) r2
    (fun n bs o h ho => by
      show m_slices_stableCmpFunc_impl_Version_l2 p (n + 1) _ _ _ = _
      rw [m_slices_stableCmpFunc_impl_Version_l2, decide_eq_false (by omega), cond_false])
    (l.length - 20) (((l.length : Int) - 20).toNat + 1) 20 l1 (Nat.le_refl _) (by omega) (by omega) g1.length_eq (fun x hx => g1.mem_iff.1 hx) g2
  refine ⟨o, k1.trans g1, k2, ?_⟩
  unfold m_slices_SortStableFunc_Limpl_Version_impl_Version m_slices_stableCmpFunc_impl_Version
  simp only [List.nil_append, List.length_nil, Nat.zero_add] at g3
  have k3' : m_slices_stableCmpFunc_impl_Version_l2 p (((l.length : Int) - 20).toNat + 1) (l.length : Int) 20 l1 = some o := k3
  have g3' : m_slices_stableCmpFunc_impl_Version_l1 p (((l.length : Int) - 20).toNat + 2) (l.length : Int) 20 0 20 l = some o := g3.trans k3'
  rw [g3', Option.bind_some, lenQ_ok (k1.trans g1).length_eq, Option.bind_some]
theorem ltE {α β : Type} {x : α} {f : α → β} : lt x f = f x := rfl
theorem bneD {a b : Int} : (a != b) = !decide (a = b) := by by_cases h : a = b <;> simp [h]
theorem bneB {a b : Bool} : (a != b) = !decide (a = b) := by cases a <;> cases b <;> rfl
def wt_laws_Value (v : S_laws_Value) : Nat := v.S.size
theorem sz_laws_Value {a : S_laws_Value} {left : Int} (hB : B_laws_Value a) (h0 : 0 ≤ left) (h1 : left ≤ 1048576) : m_laws_szValue a left = some (szR left (wt_laws_Value a)) := by
  unfold m_laws_szValue wt_laws_Value
  unfold B_laws_Value at hB
  rw [ckSz' h0 h1 hB.2.2]
  exact szE h0
def wt_Llaws_Value (l : (List S_laws_Value)) : Nat := l.length + (l.map fun x => wt_laws_Value x).sum
theorem wt_Llaws_Value_len {l : (List S_laws_Value)} : l.length ≤ wt_Llaws_Value l := by unfold wt_Llaws_Value; omega
theorem wt_Llaws_Value_mem {l : (List S_laws_Value)} {x : S_laws_Value} (h : x ∈ l) : wt_laws_Value x ≤ wt_Llaws_Value l := by have := sum_mem (wt := fun x : S_laws_Value => wt_laws_Value x) h; unfold wt_Llaws_Value; omega
theorem sz_Llaws_Value {a : (List S_laws_Value)} {left : Int} (hB : (B_list B_laws_Value) a) (h0 : 0 ≤ left) (h1 : left ≤ 1048576) : m_laws_szValueS a left = some (szR left (wt_Llaws_Value a)) := by
  unfold m_laws_szValueS wt_Llaws_Value
  rw [ckSz' h0 h1 hB.1]
  refine szC (k := fun z => m_laws_szValueS_l1 (((a.length : Int) - (0 : Int)).toNat + 1) a z 0) h0 (fun e => ?_)
  refine szLoop0 (fun x => wt_laws_Value x) a (fun f z k => m_laws_szValueS_l1 f a z k) (fun f k z x hx hk h2 h3 => ?_) (fun f z => by rw [m_laws_szValueS_l1, dnlt]; rfl) (by omega) _ (szR_0 e) (szR_le h1)
  rw [m_laws_szValueS_l1, dlt (lt_of_at hx), cond_true, at_of hx, Option.bind_some, sz_laws_Value (hB.2 x (List.mem_of_getElem? hx)) h2 h3, Option.bind_some]
  rw [ck1 (by omega)]
  rfl
def wt_laws_Write (v : S_laws_Write) : Nat := wt_Llaws_Value v.Row
theorem sz_laws_Write {a : S_laws_Write} {left : Int} (hB : B_laws_Write a) (h0 : 0 ≤ left) (h1 : left ≤ 1048576) : m_laws_szWrite a left = some (szR left (wt_laws_Write a)) := by
  unfold m_laws_szWrite wt_laws_Write
  unfold B_laws_Write at hB
  rw [sz_Llaws_Value hB.2.1 h0 h1, Option.bind_some]
  exact szE h0
def wt_Llaws_Write (l : (List S_laws_Write)) : Nat := l.length + (l.map fun x => wt_laws_Write x).sum
theorem wt_Llaws_Write_len {l : (List S_laws_Write)} : l.length ≤ wt_Llaws_Write l := by unfold wt_Llaws_Write; omega
theorem wt_Llaws_Write_mem {l : (List S_laws_Write)} {x : S_laws_Write} (h : x ∈ l) : wt_laws_Write x ≤ wt_Llaws_Write l := by have := sum_mem (wt := fun x : S_laws_Write => wt_laws_Write x) h; unfold wt_Llaws_Write; omega
theorem sz_Llaws_Write {a : (List S_laws_Write)} {left : Int} (hB : (B_list B_laws_Write) a) (h0 : 0 ≤ left) (h1 : left ≤ 1048576) : m_laws_szWriteS a left = some (szR left (wt_Llaws_Write a)) := by
  unfold m_laws_szWriteS wt_Llaws_Write
  rw [ckSz' h0 h1 hB.1]
  refine szC (k := fun z => m_laws_szWriteS_l1 (((a.length : Int) - (0 : Int)).toNat + 1) a z 0) h0 (fun e => ?_)
  refine szLoop0 (fun x => wt_laws_Write x) a (fun f z k => m_laws_szWriteS_l1 f a z k) (fun f k z x hx hk h2 h3 => ?_) (fun f z => by rw [m_laws_szWriteS_l1, dnlt]; rfl) (by omega) _ (szR_0 e) (szR_le h1)
  rw [m_laws_szWriteS_l1, dlt (lt_of_at hx), cond_true, at_of hx, Option.bind_some, sz_laws_Write (hB.2 x (List.mem_of_getElem? hx)) h2 h3, Option.bind_some]
  rw [ck1 (by omega)]
  rfl
def wt_laws_Entry (v : S_laws_Entry) : Nat := wt_Llaws_Write v.Writes
theorem sz_laws_Entry {a : S_laws_Entry} {left : Int} (hB : B_laws_Entry a) (h0 : 0 ≤ left) (h1 : left ≤ 1048576) : m_laws_szEntry a left = some (szR left (wt_laws_Entry a)) := by
  unfold m_laws_szEntry wt_laws_Entry
  unfold B_laws_Entry at hB
  rw [sz_Llaws_Write hB.2 h0 h1, Option.bind_some]
  exact szE h0
def wt_Llaws_Entry (l : (List S_laws_Entry)) : Nat := l.length + (l.map fun x => wt_laws_Entry x).sum
theorem wt_Llaws_Entry_len {l : (List S_laws_Entry)} : l.length ≤ wt_Llaws_Entry l := by unfold wt_Llaws_Entry; omega
theorem wt_Llaws_Entry_mem {l : (List S_laws_Entry)} {x : S_laws_Entry} (h : x ∈ l) : wt_laws_Entry x ≤ wt_Llaws_Entry l := by have := sum_mem (wt := fun x : S_laws_Entry => wt_laws_Entry x) h; unfold wt_Llaws_Entry; omega
theorem sz_Llaws_Entry {a : (List S_laws_Entry)} {left : Int} (hB : (B_list B_laws_Entry) a) (h0 : 0 ≤ left) (h1 : left ≤ 1048576) : m_laws_szEntryS a left = some (szR left (wt_Llaws_Entry a)) := by
  unfold m_laws_szEntryS wt_Llaws_Entry
  rw [ckSz' h0 h1 hB.1]
  refine szC (k := fun z => m_laws_szEntryS_l1 (((a.length : Int) - (0 : Int)).toNat + 1) a z 0) h0 (fun e => ?_)
  refine szLoop0 (fun x => wt_laws_Entry x) a (fun f z k => m_laws_szEntryS_l1 f a z k) (fun f k z x hx hk h2 h3 => ?_) (fun f z => by rw [m_laws_szEntryS_l1, dnlt]; rfl) (by omega) _ (szR_0 e) (szR_le h1)
  rw [m_laws_szEntryS_l1, dlt (lt_of_at hx), cond_true, at_of hx, Option.bind_some, sz_laws_Entry (hB.2 x (List.mem_of_getElem? hx)) h2 h3, Option.bind_some]
  rw [ck1 (by omega)]
  rfl
def cv_laws_Value (v : S_laws_Value) : S_impl_Value := ⟨v.Kind, v.N, v.S⟩
theorem to_laws_Value {a : S_laws_Value} (h : wt_laws_Value a ≤ 100000000) : m_laws_toValue a = some (cv_laws_Value a) := by
  unfold wt_laws_Value at h
  unfold m_laws_toValue cv_laws_Value
  all_goals rfl
def wt_impl_Value (v : S_impl_Value) : Nat := v.S.size
theorem wc_laws_Value {v : S_laws_Value} : wt_impl_Value (cv_laws_Value v) = wt_laws_Value v := rfl
def cv_Llaws_Value (l : (List S_laws_Value)) : (List S_impl_Value) := l.map cv_laws_Value
theorem to_Llaws_Value {a : (List S_laws_Value)} (h : wt_Llaws_Value a ≤ 100000000) : m_laws_toValueS a = some (cv_Llaws_Value a) := by
  have hl : a.length ≤ 100000000 := by have := wt_Llaws_Value_len (l := a); omega
  unfold m_laws_toValueS cv_Llaws_Value
  refine toLoop0 cv_laws_Value a _ (fun f k o => m_laws_toValueS_l1 f a k o) (fun f k o x hx hk ho => ?_) (fun f o => by rw [m_laws_toValueS_l1, dnlt]; rfl) (by omega)
  have hy := at_some (l := o) (k := k) (by have := lt_of_at hx; omega)
  rw [m_laws_toValueS_l1, dlt (lt_of_at hx), cond_true, at_of hx, Option.bind_some, to_laws_Value (by have := wt_Llaws_Value_mem (List.mem_of_getElem? hx); omega), Option.bind_some, hy, Option.bind_some, Option.bind_some]
  try rw [ltE]
  rw [ck1 (by omega), Option.bind_some, Int.toNat_natCast]
  rfl
def wt_Limpl_Value (l : (List S_impl_Value)) : Nat := l.length + (l.map fun x => wt_impl_Value x).sum
theorem wt_Limpl_Value_len {l : (List S_impl_Value)} : l.length ≤ wt_Limpl_Value l := by unfold wt_Limpl_Value; omega
theorem wt_Limpl_Value_mem {l : (List S_impl_Value)} {x : S_impl_Value} (h : x ∈ l) : wt_impl_Value x ≤ wt_Limpl_Value l := by have := sum_mem (wt := fun x : S_impl_Value => wt_impl_Value x) h; unfold wt_Limpl_Value; omega
theorem wc_Llaws_Value {l : (List S_laws_Value)} : wt_Limpl_Value (cv_Llaws_Value l) = wt_Llaws_Value l := by
  unfold wt_Limpl_Value cv_Llaws_Value wt_Llaws_Value
  rw [List.length_map, List.map_map]
  first | done | (congr 2; exact List.map_congr_left fun x _ => wc_laws_Value) | rfl
def cv_laws_Write (v : S_laws_Write) : S_impl_Write := ⟨v.Key, cv_Llaws_Value v.Row, v.Gone⟩
theorem to_laws_Write {a : S_laws_Write} (h : wt_laws_Write a ≤ 100000000) : m_laws_toWrite a = some (cv_laws_Write a) := by
  unfold wt_laws_Write at h
  unfold m_laws_toWrite cv_laws_Write
  try simp only [ltE]
  rw [to_Llaws_Value (by omega), Option.bind_some]
  all_goals rfl
def wt_impl_Write (v : S_impl_Write) : Nat := wt_Limpl_Value v.Row
theorem wc_laws_Write {v : S_laws_Write} : wt_impl_Write (cv_laws_Write v) = wt_laws_Write v := by
  unfold wt_impl_Write cv_laws_Write wt_laws_Write
  simp only [wc_Llaws_Value]
def cv_Llaws_Write (l : (List S_laws_Write)) : (List S_impl_Write) := l.map cv_laws_Write
theorem to_Llaws_Write {a : (List S_laws_Write)} (h : wt_Llaws_Write a ≤ 100000000) : m_laws_toWriteS a = some (cv_Llaws_Write a) := by
  have hl : a.length ≤ 100000000 := by have := wt_Llaws_Write_len (l := a); omega
  unfold m_laws_toWriteS cv_Llaws_Write
  refine toLoop0 cv_laws_Write a _ (fun f k o => m_laws_toWriteS_l1 f a k o) (fun f k o x hx hk ho => ?_) (fun f o => by rw [m_laws_toWriteS_l1, dnlt]; rfl) (by omega)
  have hy := at_some (l := o) (k := k) (by have := lt_of_at hx; omega)
  rw [m_laws_toWriteS_l1, dlt (lt_of_at hx), cond_true, at_of hx, Option.bind_some, to_laws_Write (by have := wt_Llaws_Write_mem (List.mem_of_getElem? hx); omega), Option.bind_some, hy, Option.bind_some, Option.bind_some]
  try rw [ltE]
  rw [ck1 (by omega), Option.bind_some, Int.toNat_natCast]
  rfl
def wt_Limpl_Write (l : (List S_impl_Write)) : Nat := l.length + (l.map fun x => wt_impl_Write x).sum
theorem wt_Limpl_Write_len {l : (List S_impl_Write)} : l.length ≤ wt_Limpl_Write l := by unfold wt_Limpl_Write; omega
theorem wt_Limpl_Write_mem {l : (List S_impl_Write)} {x : S_impl_Write} (h : x ∈ l) : wt_impl_Write x ≤ wt_Limpl_Write l := by have := sum_mem (wt := fun x : S_impl_Write => wt_impl_Write x) h; unfold wt_Limpl_Write; omega
theorem wc_Llaws_Write {l : (List S_laws_Write)} : wt_Limpl_Write (cv_Llaws_Write l) = wt_Llaws_Write l := by
  unfold wt_Limpl_Write cv_Llaws_Write wt_Llaws_Write
  rw [List.length_map, List.map_map]
  first | done | (congr 2; exact List.map_congr_left fun x _ => wc_laws_Write) | rfl
def cv_laws_Entry (v : S_laws_Entry) : S_impl_Entry := ⟨v.Time, cv_Llaws_Write v.Writes⟩
theorem to_laws_Entry {a : S_laws_Entry} (h : wt_laws_Entry a ≤ 100000000) : m_laws_toEntry a = some (cv_laws_Entry a) := by
  unfold wt_laws_Entry at h
  unfold m_laws_toEntry cv_laws_Entry
  try simp only [ltE]
  rw [to_Llaws_Write (by omega), Option.bind_some]
  all_goals rfl
def wt_impl_Entry (v : S_impl_Entry) : Nat := wt_Limpl_Write v.Writes
theorem wc_laws_Entry {v : S_laws_Entry} : wt_impl_Entry (cv_laws_Entry v) = wt_laws_Entry v := by
  unfold wt_impl_Entry cv_laws_Entry wt_laws_Entry
  simp only [wc_Llaws_Write]
def cv_Llaws_Entry (l : (List S_laws_Entry)) : (List S_impl_Entry) := l.map cv_laws_Entry
theorem to_Llaws_Entry {a : (List S_laws_Entry)} (h : wt_Llaws_Entry a ≤ 100000000) : m_laws_toEntryS a = some (cv_Llaws_Entry a) := by
  have hl : a.length ≤ 100000000 := by have := wt_Llaws_Entry_len (l := a); omega
  unfold m_laws_toEntryS cv_Llaws_Entry
  refine toLoop0 cv_laws_Entry a _ (fun f k o => m_laws_toEntryS_l1 f a k o) (fun f k o x hx hk ho => ?_) (fun f o => by rw [m_laws_toEntryS_l1, dnlt]; rfl) (by omega)
  have hy := at_some (l := o) (k := k) (by have := lt_of_at hx; omega)
  rw [m_laws_toEntryS_l1, dlt (lt_of_at hx), cond_true, at_of hx, Option.bind_some, to_laws_Entry (by have := wt_Llaws_Entry_mem (List.mem_of_getElem? hx); omega), Option.bind_some, hy, Option.bind_some, Option.bind_some]
  try rw [ltE]
  rw [ck1 (by omega), Option.bind_some, Int.toNat_natCast]
  rfl
def wt_Limpl_Entry (l : (List S_impl_Entry)) : Nat := l.length + (l.map fun x => wt_impl_Entry x).sum
theorem wt_Limpl_Entry_len {l : (List S_impl_Entry)} : l.length ≤ wt_Limpl_Entry l := by unfold wt_Limpl_Entry; omega
theorem wt_Limpl_Entry_mem {l : (List S_impl_Entry)} {x : S_impl_Entry} (h : x ∈ l) : wt_impl_Entry x ≤ wt_Limpl_Entry l := by have := sum_mem (wt := fun x : S_impl_Entry => wt_impl_Entry x) h; unfold wt_Limpl_Entry; omega
theorem wc_Llaws_Entry {l : (List S_laws_Entry)} : wt_Limpl_Entry (cv_Llaws_Entry l) = wt_Llaws_Entry l := by
  unfold wt_Limpl_Entry cv_Llaws_Entry wt_Llaws_Entry
  rw [List.length_map, List.map_map]
  first | done | (congr 2; exact List.map_congr_left fun x _ => wc_laws_Entry) | rfl
theorem eq_impl_Value {a b : S_impl_Value} (h : wt_impl_Value a ≤ 100000000) : m_laws_eqValue a b = some (decide (a = b)) := by
  unfold wt_impl_Value at h
  unfold m_laws_eqValue
  rw [bneD]
  by_cases g0 : a.Kind = b.Kind
  case neg => rw [decide_eq_false g0, Bool.not_false, cond_true, decide_eq_false (fun e => g0 (by rw [e]))]
  rw [decide_eq_true g0, Bool.not_true, cond_false]
  rw [bneD]
  by_cases g1 : a.N = b.N
  case neg => rw [decide_eq_false g1, Bool.not_false, cond_true, decide_eq_false (fun e => g1 (by rw [e]))]
  rw [decide_eq_true g1, Bool.not_true, cond_false]
  rw [sEq_eq]
  by_cases g2 : a.S = b.S
  case neg => rw [decide_eq_false g2, Bool.not_false, cond_true, decide_eq_false (fun e => g2 (by rw [e]))]
  rw [decide_eq_true g2, Bool.not_true, cond_false]
  rw [decide_eq_true (show a = b by cases a; cases b; simp only at g0 g1 g2; subst g0 g1 g2; rfl)]
theorem eq_Limpl_Value {a b : (List S_impl_Value)} (h : wt_Limpl_Value a ≤ 100000000) : m_laws_eqValueS a b = some (decide (a = b)) := by
  have hl : a.length ≤ 100000000 := by have := wt_Limpl_Value_len (l := a); omega
  unfold m_laws_eqValueS
  refine eqLoop a b (fun f k => m_laws_eqValueS_l1 f a b k) (fun f k x y hx hy hk => ?_) (fun f => by rw [m_laws_eqValueS_l1, dnlt]; rfl) (by omega)
  rw [m_laws_eqValueS_l1, dlt (lt_of_at hx), cond_true, at_of hx, Option.bind_some, at_of hy, Option.bind_some, eq_impl_Value (by have := wt_Limpl_Value_mem (List.mem_of_getElem? hx); omega), Option.bind_some, ck1 (by omega), Option.bind_some]
  rfl
def wt_impl_Version (v : S_impl_Version) : Nat := wt_Limpl_Value v.Row
theorem eq_impl_Version {a b : S_impl_Version} (h : wt_impl_Version a ≤ 100000000) : m_laws_eqVersion a b = some (decide (a = b)) := by
  unfold wt_impl_Version at h
  unfold m_laws_eqVersion
  rw [bneD]
  by_cases g0 : a.Key = b.Key
  case neg => rw [decide_eq_false g0, Bool.not_false, cond_true, decide_eq_false (fun e => g0 (by rw [e]))]
  rw [decide_eq_true g0, Bool.not_true, cond_false]
  rw [bneD]
  by_cases g1 : a.Born = b.Born
  case neg => rw [decide_eq_false g1, Bool.not_false, cond_true, decide_eq_false (fun e => g1 (by rw [e]))]
  rw [decide_eq_true g1, Bool.not_true, cond_false]
  rw [bneD]
  by_cases g2 : a.Died = b.Died
  case neg => rw [decide_eq_false g2, Bool.not_false, cond_true, decide_eq_false (fun e => g2 (by rw [e]))]
  rw [decide_eq_true g2, Bool.not_true, cond_false]
  rw [eq_Limpl_Value (by omega), Option.bind_some]
  by_cases g3 : a.Row = b.Row
  case neg => rw [decide_eq_false g3, Bool.not_false, cond_true, decide_eq_false (fun e => g3 (by rw [e]))]
  rw [decide_eq_true g3, Bool.not_true, cond_false]
  rw [decide_eq_true (show a = b by cases a; cases b; simp only at g0 g1 g2 g3; subst g0 g1 g2 g3; rfl)]
def wt_Limpl_Version (l : (List S_impl_Version)) : Nat := l.length + (l.map fun x => wt_impl_Version x).sum
theorem wt_Limpl_Version_len {l : (List S_impl_Version)} : l.length ≤ wt_Limpl_Version l := by unfold wt_Limpl_Version; omega
theorem wt_Limpl_Version_mem {l : (List S_impl_Version)} {x : S_impl_Version} (h : x ∈ l) : wt_impl_Version x ≤ wt_Limpl_Version l := by have := sum_mem (wt := fun x : S_impl_Version => wt_impl_Version x) h; unfold wt_Limpl_Version; omega
theorem eq_Limpl_Version {a b : (List S_impl_Version)} (h : wt_Limpl_Version a ≤ 100000000) : m_laws_eqVersionS a b = some (decide (a = b)) := by
  have hl : a.length ≤ 100000000 := by have := wt_Limpl_Version_len (l := a); omega
  unfold m_laws_eqVersionS
  refine eqLoop a b (fun f k => m_laws_eqVersionS_l1 f a b k) (fun f k x y hx hy hk => ?_) (fun f => by rw [m_laws_eqVersionS_l1, dnlt]; rfl) (by omega)
  rw [m_laws_eqVersionS_l1, dlt (lt_of_at hx), cond_true, at_of hx, Option.bind_some, at_of hy, Option.bind_some, eq_impl_Version (by have := wt_Limpl_Version_mem (List.mem_of_getElem? hx); omega), Option.bind_some, ck1 (by omega), Option.bind_some]
  rfl
theorem eq_impl_Write {a b : S_impl_Write} (h : wt_impl_Write a ≤ 100000000) : m_laws_eqWrite a b = some (decide (a = b)) := by
  unfold wt_impl_Write at h
  unfold m_laws_eqWrite
  rw [bneD]
  by_cases g0 : a.Key = b.Key
  case neg => rw [decide_eq_false g0, Bool.not_false, cond_true, decide_eq_false (fun e => g0 (by rw [e]))]
  rw [decide_eq_true g0, Bool.not_true, cond_false]
  rw [eq_Limpl_Value (by omega), Option.bind_some]
  by_cases g1 : a.Row = b.Row
  case neg => rw [decide_eq_false g1, Bool.not_false, cond_true, decide_eq_false (fun e => g1 (by rw [e]))]
  rw [decide_eq_true g1, Bool.not_true, cond_false]
  rw [bneB]
  by_cases g2 : a.Gone = b.Gone
  case neg => rw [decide_eq_false g2, Bool.not_false, cond_true, decide_eq_false (fun e => g2 (by rw [e]))]
  rw [decide_eq_true g2, Bool.not_true, cond_false]
  rw [decide_eq_true (show a = b by cases a; cases b; simp only at g0 g1 g2; subst g0 g1 g2; rfl)]
theorem eq_Limpl_Write {a b : (List S_impl_Write)} (h : wt_Limpl_Write a ≤ 100000000) : m_laws_eqWriteS a b = some (decide (a = b)) := by
  have hl : a.length ≤ 100000000 := by have := wt_Limpl_Write_len (l := a); omega
  unfold m_laws_eqWriteS
  refine eqLoop a b (fun f k => m_laws_eqWriteS_l1 f a b k) (fun f k x y hx hy hk => ?_) (fun f => by rw [m_laws_eqWriteS_l1, dnlt]; rfl) (by omega)
  rw [m_laws_eqWriteS_l1, dlt (lt_of_at hx), cond_true, at_of hx, Option.bind_some, at_of hy, Option.bind_some, eq_impl_Write (by have := wt_Limpl_Write_mem (List.mem_of_getElem? hx); omega), Option.bind_some, ck1 (by omega), Option.bind_some]
  rfl
theorem eq_impl_Entry {a b : S_impl_Entry} (h : wt_impl_Entry a ≤ 100000000) : m_laws_eqEntry a b = some (decide (a = b)) := by
  unfold wt_impl_Entry at h
  unfold m_laws_eqEntry
  rw [bneD]
  by_cases g0 : a.Time = b.Time
  case neg => rw [decide_eq_false g0, Bool.not_false, cond_true, decide_eq_false (fun e => g0 (by rw [e]))]
  rw [decide_eq_true g0, Bool.not_true, cond_false]
  rw [eq_Limpl_Write (by omega), Option.bind_some]
  by_cases g1 : a.Writes = b.Writes
  case neg => rw [decide_eq_false g1, Bool.not_false, cond_true, decide_eq_false (fun e => g1 (by rw [e]))]
  rw [decide_eq_true g1, Bool.not_true, cond_false]
  rw [decide_eq_true (show a = b by cases a; cases b; simp only at g0 g1; subst g0 g1; rfl)]
theorem eq_Limpl_Entry {a b : (List S_impl_Entry)} (h : wt_Limpl_Entry a ≤ 100000000) : m_laws_eqEntryS a b = some (decide (a = b)) := by
  have hl : a.length ≤ 100000000 := by have := wt_Limpl_Entry_len (l := a); omega
  unfold m_laws_eqEntryS
  refine eqLoop a b (fun f k => m_laws_eqEntryS_l1 f a b k) (fun f k x y hx hy hk => ?_) (fun f => by rw [m_laws_eqEntryS_l1, dnlt]; rfl) (by omega)
  rw [m_laws_eqEntryS_l1, dlt (lt_of_at hx), cond_true, at_of hx, Option.bind_some, at_of hy, Option.bind_some, eq_impl_Entry (by have := wt_Limpl_Entry_mem (List.mem_of_getElem? hx); omega), Option.bind_some, ck1 (by omega), Option.bind_some]
  rfl
abbrev Ver := S_impl_Version
abbrev Wr := S_impl_Write
def keyB (n : Int) : Bool := decide (0 ≤ n) && decide (n ≤ 4)
def vb (v : Ver) : Bool := keyB v.Key && ((decide (1 ≤ v.Born) && decide (v.Born ≤ 40)) && ((decide (v.Died = 0) || (decide (v.Born + 1 ≤ v.Died) && decide (v.Died ≤ 40))) && rowOk v.Row))
def vbad (w v : Ver) : Bool := decide (w.Key > v.Key) || (decide (w.Key = v.Key) && (decide (w.Died = 0) || decide (w.Died > v.Born)))
def verOk (l : List Ver) : Bool := l.all vb && adjB vbad l && decide ((l.length : Int) ≤ 60)
theorem E_keyOk (n : Int) : m_impl_keyOk n = some (keyB n) := by unfold m_impl_keyOk; rw [E_between, Option.bind_some]; rfl
theorem nat01 : ((0 : Nat) : Int) + 1 = 1 := rfl
theorem natS {k : Nat} : ((k : Nat) : Int) + 1 = ((k + 1 : Nat) : Int) := by omega
theorem vb_nums {v : Ver} (h : vb v = true) : 0 ≤ v.Key ∧ v.Key ≤ 4 ∧ 1 ≤ v.Born ∧ v.Born ≤ 40 ∧ (v.Died = 0 ∨ (v.Born + 1 ≤ v.Died ∧ v.Died ≤ 40)) ∧ rowOk v.Row = true := by
  unfold vb keyB at h
  simp only [Bool.and_eq_true, Bool.or_eq_true, decide_eq_true_eq] at h
  exact ⟨h.1.1, h.1.2, h.2.1.1, h.2.1.2, h.2.2.1, h.2.2.2⟩
theorem E_l13Version {x : Ver} (hr : rSm x.Row) : m_spec_l13Version x = some (vb x) := by
  unfold m_spec_l13Version m_spec_l13Version_j1 vb
  rw [E_l1In, Option.bind_some]
  show (bif keyB x.Key then _ else _) = _
  cases hA : keyB x.Key with
  | false => simp only [cond_true, cond_false, Bool.not_true, Bool.not_false, Bool.not_not, Bool.true_and, Bool.false_and, Bool.and_true, Bool.and_false, Bool.true_or, Bool.false_or, Bool.or_true, Bool.or_false]
  | true =>
    rw [cond_true, E_l1In, Option.bind_some, Bool.true_and]
    cases hB : (decide (1 ≤ x.Born) && decide (x.Born ≤ 40)) with
    | false => simp only [cond_true, cond_false, Bool.not_true, Bool.not_false, Bool.not_not, Bool.true_and, Bool.false_and, Bool.and_true, Bool.and_false, Bool.true_or, Bool.false_or, Bool.or_true, Bool.or_false]
    | true =>
      rw [cond_true, Bool.true_and]
      by_cases hd : x.Died = 0
      · rw [show (x.Died == 0) = true by simp [hd], cond_true, E_spec_RowOk hr, Option.bind_some, decide_eq_true hd, Bool.true_or, Bool.true_and]
      · have hb := hB
        simp only [Bool.and_eq_true, decide_eq_true_eq] at hb
        rw [beqF hd, cond_false, ckI_of (by omega) (by omega), Option.bind_some, E_l1In, Option.bind_some, decide_eq_false hd, Bool.false_or]
        cases hC : (decide (x.Born + 1 ≤ x.Died) && decide (x.Died ≤ 40)) with
        | false => simp only [cond_true, cond_false, Bool.not_true, Bool.not_false, Bool.not_not, Bool.true_and, Bool.false_and, Bool.and_true, Bool.and_false, Bool.true_or, Bool.false_or, Bool.or_true, Bool.or_false]
        | true => rw [cond_true, E_spec_RowOk hr, Option.bind_some, Bool.true_and]
theorem E_spec_VersionsOk {l : List Ver} (hl : l.length ≤ 3000000) (hr : ∀ v ∈ l, rSm v.Row) : m_spec_VersionsOk l = some (verOk l) := by
  unfold m_spec_VersionsOk verOk
  refine scanPrev (p := vb) (bad := vbad) l (fun n k => m_spec_VersionsOk_l1 n l k) (fun n x hx => ?_) (fun n k x y hx hy hp => ?_) (fun n => ?_) _ fuel0
  · have hlt := lt_of_at hx
    have hx' : at? l 0 = some x := at_of hx
    show m_spec_VersionsOk_l1 (n + 1) l ((0 : Nat) : Int) = _
    rw [m_spec_VersionsOk_l1, dlt hlt, cond_true, at_of hx, Option.bind_some, E_l13Version (hr x (List.mem_of_getElem? hx)), Option.bind_some]
    cases vb x with
    | false => simp only [cond_true, cond_false, Bool.not_true, Bool.not_false, Bool.not_not, Bool.true_and, Bool.false_and, Bool.and_true, Bool.and_false, Bool.true_or, Bool.false_or, Bool.or_true, Bool.or_false]
    | true =>
      rw [Bool.not_true, cond_false, cond_true, dgt00, cond_false]
      unfold m_spec_VersionsOk_j1
      rw [cond_false, ck1 (by omega), Option.bind_some, nat01]
  · have hlt := lt_of_at hx
    have stop : m_spec_VersionsOk_j1 (m_spec_VersionsOk_l1 n) l ((k + 1 : Nat) : Int) true = some false := by unfold m_spec_VersionsOk_j1; rw [cond_true]
    have next : m_spec_VersionsOk_j1 (m_spec_VersionsOk_l1 n) l ((k + 1 : Nat) : Int) false = m_spec_VersionsOk_l1 n l ((k + 1 + 1 : Nat) : Int) := by
      unfold m_spec_VersionsOk_j1
      rw [cond_false, ck1 (by omega), Option.bind_some, show ((k + 1 : Nat) : Int) + 1 = ((k + 1 + 1 : Nat) : Int) by omega]
    rw [m_spec_VersionsOk_l1, dlt hlt, cond_true, at_of hx, Option.bind_some, E_l13Version (hr x (List.mem_of_getElem? hx)), Option.bind_some]
    cases vb x with
    | false => simp only [cond_true, cond_false, Bool.not_true, Bool.not_false, Bool.not_not, Bool.true_and, Bool.false_and, Bool.and_true, Bool.and_false, Bool.true_or, Bool.false_or, Bool.or_true, Bool.or_false]
    | true =>
      rw [Bool.not_true, cond_false, Bool.true_and, dgt0, cond_true, ckdd (by omega), Option.bind_some, at_of hy, Option.bind_some, Option.bind_some]
      unfold vbad
      by_cases h0 : y.Key ≥ x.Key
      · rw [decide_eq_true h0, cond_true, Option.bind_some, at_of hy, Option.bind_some, Option.bind_some]
        by_cases h1 : y.Key > x.Key
        · rw [decide_eq_true h1, cond_true, stop]; simp only [cond_true, cond_false, Bool.not_true, Bool.not_false, Bool.not_not, Bool.true_and, Bool.false_and, Bool.and_true, Bool.and_false, Bool.true_or, Bool.false_or, Bool.or_true, Bool.or_false]
        · have h2 : y.Key = x.Key := by omega
          rw [decide_eq_false h1, cond_false, Option.bind_some, at_of hy, Option.bind_some, Bool.false_or, decide_eq_true h2, Bool.true_and]
          by_cases h4 : y.Died = 0
          · rw [show (y.Died == 0) = true by simp [h4], cond_true, decide_eq_true h4, stop]; simp only [cond_true, cond_false, Bool.not_true, Bool.not_false, Bool.not_not, Bool.true_and, Bool.false_and, Bool.and_true, Bool.and_false, Bool.true_or, Bool.false_or, Bool.or_true, Bool.or_false]
          · rw [beqF h4, cond_false, Option.bind_some, at_of hy, Option.bind_some, Option.bind_some, decide_eq_false h4, Bool.false_or]
            by_cases h5 : y.Died > x.Born
            · rw [decide_eq_true h5, stop]; simp only [cond_true, cond_false, Bool.not_true, Bool.not_false, Bool.not_not, Bool.true_and, Bool.false_and, Bool.and_true, Bool.and_false, Bool.true_or, Bool.false_or, Bool.or_true, Bool.or_false]
            · rw [decide_eq_false h5, next]; simp only [cond_true, cond_false, Bool.not_true, Bool.not_false, Bool.not_not, Bool.true_and, Bool.false_and, Bool.and_true, Bool.and_false, Bool.true_or, Bool.false_or, Bool.or_true, Bool.or_false]
      · rw [decide_eq_false h0, cond_false, decide_eq_false (show ¬ y.Key > x.Key by omega), Bool.false_or, decide_eq_false (show ¬ y.Key = x.Key by omega), Bool.false_and, next]; simp only [cond_true, cond_false, Bool.not_true, Bool.not_false, Bool.not_not, Bool.true_and, Bool.false_and, Bool.and_true, Bool.and_false, Bool.true_or, Bool.false_or, Bool.or_true, Bool.or_false]
  · rw [m_spec_VersionsOk_l1, dnlt, cond_false]; rfl
def wb (w : Wr) : Bool := keyB w.Key && (rowOk w.Row && !(w.Gone && decide ((w.Row.length : Int) > 0)))
def wbad (x w : Wr) : Bool := decide (x.Key ≥ w.Key)
def wOk (l : List Wr) : Bool := l.all wb && adjB wbad l
theorem adj_len {l : List Wr} (h : wOk l = true) : l.length ≤ 5 := by
  unfold wOk at h
  rw [Bool.and_eq_true, adjB_iff] at h
  obtain ⟨h1, h2⟩ := h
  have key : ∀ (k : Nat) (x : Wr), l[k]? = some x → (k : Int) ≤ x.Key := by
    intro k
    induction k with
    | zero =>
      intro x hx
      have := List.all_eq_true.1 h1 x (List.mem_of_getElem? hx)
      unfold wb keyB at this
      simp only [Bool.and_eq_true, decide_eq_true_eq] at this
      omega
    | succ k ih =>
      intro x hx
      have hlt := lt_of_at hx
      have hy : l[k]? = some l[k] := List.getElem?_eq_getElem (by omega)
      have := h2 k _ _ hy hx
      unfold wbad at this
      rw [decide_eq_false_iff_not] at this
      have := ih _ hy
      omega
  rcases Nat.lt_or_ge 5 l.length with h5 | h5
  · have hx : l[5]? = some l[5] := List.getElem?_eq_getElem h5
    have a := key 5 _ hx
    have := List.all_eq_true.1 h1 _ (List.mem_of_getElem? hx)
    unfold wb keyB at this
    simp only [Bool.and_eq_true, decide_eq_true_eq] at this
    omega
  · exact h5
theorem E_impl_WritesOk {l : List Wr} (hl : l.length ≤ 3000000) (hr : ∀ v ∈ l, rSm v.Row) : m_impl_WritesOk l = some (wOk l) := by
  have main : m_impl_WritesOk l = some (l.all wb && adjB wbad l && decide ((l.length : Int) ≤ 5)) := by
    unfold m_impl_WritesOk
    have head : ∀ n (k : Nat) x (c : Bool) (hc : (bif decide ((k : Int) > 0) then ((ckI ((k : Int) - 1)).bind fun x21 => (at? l x21).bind fun x22 => m_impl_WritesOk_j1 (m_impl_WritesOk_l1 n) l l (l.length : Int) (k : Int) (decide (x22.Key ≥ x.Key))) else (m_impl_WritesOk_j1 (m_impl_WritesOk_l1 n) l l (l.length : Int) (k : Int) false)) = m_impl_WritesOk_j1 (m_impl_WritesOk_l1 n) l l (l.length : Int) (k : Int) c), l[k]? = some x → m_impl_WritesOk_l1 (n + 1) l l (l.length : Int) (k : Int) = m_impl_WritesOk_j1 (m_impl_WritesOk_l1 n) l l (l.length : Int) (k : Int) (!(wb x) || c) := by
      intro n k x c hc hx
      have hlt := lt_of_at hx
      rw [m_impl_WritesOk_l1, dlt hlt, cond_true, at_of hx, Option.bind_some, ltE, E_keyOk, Option.bind_some]
      unfold wb
      cases keyB x.Key with
      | false => rw [Bool.not_false, cond_true, Bool.false_and, Bool.not_false, Bool.true_or]
      | true =>
        rw [Bool.not_true, cond_false, E_impl_RowOk (hr x (List.mem_of_getElem? hx)), Option.bind_some, Bool.true_and]
        cases rowOk x.Row with
        | false => rw [Bool.not_false, cond_true, Bool.false_and, Bool.not_false, Bool.true_or]
        | true =>
          rw [Bool.not_true, cond_false, Bool.true_and, Bool.not_not]
          cases x.Gone with
          | true =>
            rw [cond_true, Bool.true_and]
            by_cases h : (x.Row.length : Int) > 0
            · rw [decide_eq_true h, cond_true, Bool.true_or]
            · rw [decide_eq_false h, cond_false, Bool.false_or]; exact hc
          | false => rw [cond_false, Bool.false_and, Bool.false_or]; exact hc
    refine scanPrev (p := wb) (bad := wbad) l (fun n k => m_impl_WritesOk_l1 n l l (l.length : Int) k) (fun n x hx => ?_) (fun n k x y hx hy hp => ?_) (fun n => ?_) _ fuel0
    · show m_impl_WritesOk_l1 (n + 1) l l (l.length : Int) ((0 : Nat) : Int) = _
      rw [head n 0 x false (by rw [dgt00, cond_false]) hx]
      unfold m_impl_WritesOk_j1
      cases wb x with
      | false => simp only [cond_true, cond_false, Bool.not_true, Bool.not_false, Bool.not_not, Bool.true_and, Bool.false_and, Bool.and_true, Bool.and_false, Bool.true_or, Bool.false_or, Bool.or_true, Bool.or_false]
      | true => simp only [cond_true, cond_false, Bool.not_true, Bool.not_false, Bool.not_not, Bool.true_and, Bool.false_and, Bool.and_true, Bool.and_false, Bool.true_or, Bool.false_or, Bool.or_true, Bool.or_false]; rw [ck1 (by omega), Option.bind_some, nat01]
    · have hlt := lt_of_at hx
      rw [head n (k + 1) x (wbad y x) (by rw [dgt0, cond_true, ckdd (by omega), Option.bind_some, at_of hy, Option.bind_some, wbad]) hx]
      unfold m_impl_WritesOk_j1
      cases wb x with
      | false => simp only [cond_true, cond_false, Bool.not_true, Bool.not_false, Bool.not_not, Bool.true_and, Bool.false_and, Bool.and_true, Bool.and_false, Bool.true_or, Bool.false_or, Bool.or_true, Bool.or_false]
      | true =>
        rw [Bool.not_true, Bool.false_or, Bool.true_and]
        cases wbad y x with
        | true => simp only [cond_true, cond_false, Bool.not_true, Bool.not_false, Bool.not_not, Bool.true_and, Bool.false_and, Bool.and_true, Bool.and_false, Bool.true_or, Bool.false_or, Bool.or_true, Bool.or_false]
        | false => rw [cond_false, ck1 (by omega), Option.bind_some, natS]; simp only [cond_true, cond_false, Bool.not_true, Bool.not_false, Bool.not_not, Bool.true_and, Bool.false_and, Bool.and_true, Bool.and_false, Bool.true_or, Bool.false_or, Bool.or_true, Bool.or_false]
    · rw [m_impl_WritesOk_l1, dnlt, cond_false, m_impl_WritesOk_j2]
  rw [main]
  congr 1
  cases h : wOk l with
  | false => unfold wOk at h; rw [h]; rfl
  | true =>
    have := adj_len h
    unfold wOk at h
    rw [h, decide_eq_true (by omega)]; rfl
theorem E_spec_WritesOk {l : List Wr} (hl : l.length ≤ 3000000) (hr : ∀ v ∈ l, rSm v.Row) : m_spec_WritesOk l = some (wOk l) := by
  have main : m_spec_WritesOk l = some (l.all wb && adjB wbad l && true) := by
    unfold m_spec_WritesOk
    have head : ∀ n (k : Nat) x (c : Bool) (hc : (bif decide ((k : Int) > 0) then ((ckI ((k : Int) - 1)).bind fun x21 => (at? l x21).bind fun x22 => m_spec_WritesOk_j1 (m_spec_WritesOk_l1 n) l (k : Int) (decide (x22.Key ≥ x.Key))) else (m_spec_WritesOk_j1 (m_spec_WritesOk_l1 n) l (k : Int) false)) = m_spec_WritesOk_j1 (m_spec_WritesOk_l1 n) l (k : Int) c), l[k]? = some x → m_spec_WritesOk_l1 (n + 1) l (k : Int) = m_spec_WritesOk_j1 (m_spec_WritesOk_l1 n) l (k : Int) (!(wb x) || c) := by
      intro n k x c hc hx
      have hlt := lt_of_at hx
      rw [m_spec_WritesOk_l1, dlt hlt, cond_true, at_of hx, Option.bind_some, ltE, E_l1In, Option.bind_some]
      show (bif !(keyB x.Key) then _ else _) = _
      unfold wb
      cases keyB x.Key with
      | false => rw [Bool.not_false, cond_true, Bool.false_and, Bool.not_false, Bool.true_or]
      | true =>
        rw [Bool.not_true, cond_false, E_spec_RowOk (hr x (List.mem_of_getElem? hx)), Option.bind_some, Bool.true_and]
        cases rowOk x.Row with
        | false => rw [Bool.not_false, cond_true, Bool.false_and, Bool.not_false, Bool.true_or]
        | true =>
          rw [Bool.not_true, cond_false, Bool.true_and, Bool.not_not]
          cases x.Gone with
          | true =>
            rw [cond_true, Bool.true_and]
            by_cases h : (x.Row.length : Int) > 0
            · rw [decide_eq_true h, cond_true, Bool.true_or]
            · rw [decide_eq_false h, cond_false, Bool.false_or]; exact hc
          | false => rw [cond_false, Bool.false_and, Bool.false_or]; exact hc
    refine scanPrev (p := wb) (bad := wbad) l (fun n k => m_spec_WritesOk_l1 n l k) (fun n x hx => ?_) (fun n k x y hx hy hp => ?_) (fun n => ?_) _ fuel0
    · show m_spec_WritesOk_l1 (n + 1) l ((0 : Nat) : Int) = _
      rw [head n 0 x false (by rw [dgt00, cond_false]) hx]
      unfold m_spec_WritesOk_j1
      cases wb x with
      | false => simp only [cond_true, cond_false, Bool.not_true, Bool.not_false, Bool.not_not, Bool.true_and, Bool.false_and, Bool.and_true, Bool.and_false, Bool.true_or, Bool.false_or, Bool.or_true, Bool.or_false]
      | true => simp only [cond_true, cond_false, Bool.not_true, Bool.not_false, Bool.not_not, Bool.true_and, Bool.false_and, Bool.and_true, Bool.and_false, Bool.true_or, Bool.false_or, Bool.or_true, Bool.or_false]; rw [ck1 (by omega), Option.bind_some, nat01]
    · have hlt := lt_of_at hx
      rw [head n (k + 1) x (wbad y x) (by rw [dgt0, cond_true, ckdd (by omega), Option.bind_some, at_of hy, Option.bind_some, wbad]) hx]
      unfold m_spec_WritesOk_j1
      cases wb x with
      | false => simp only [cond_true, cond_false, Bool.not_true, Bool.not_false, Bool.not_not, Bool.true_and, Bool.false_and, Bool.and_true, Bool.and_false, Bool.true_or, Bool.false_or, Bool.or_true, Bool.or_false]
      | true =>
        rw [Bool.not_true, Bool.false_or, Bool.true_and]
        cases wbad y x with
        | true => simp only [cond_true, cond_false, Bool.not_true, Bool.not_false, Bool.not_not, Bool.true_and, Bool.false_and, Bool.and_true, Bool.and_false, Bool.true_or, Bool.false_or, Bool.or_true, Bool.or_false]
        | false => rw [cond_false, ck1 (by omega), Option.bind_some, natS]; simp only [cond_true, cond_false, Bool.not_true, Bool.not_false, Bool.not_not, Bool.true_and, Bool.false_and, Bool.and_true, Bool.and_false, Bool.true_or, Bool.false_or, Bool.or_true, Bool.or_false]
    · rw [m_spec_WritesOk_l1, dnlt, cond_false, m_spec_WritesOk_j2]
  rw [main, Bool.and_true]; rfl
def turn1 (key m : Int) (v : Ver) : Int := if v.Key = key then maxI (maxI m v.Born) v.Died else m
def lastT (l : List Ver) (key : Int) : Int := l.foldl (fun m v => turn1 key m v) 0
def keys5 : List Int := [0, 1, 2, 3, 4]
theorem keys5_at {k : Nat} {x : Int} (h : keys5[k]? = some x) : x = (k : Int) ∧ k < 5 := by
  have hlt := lt_of_at h
  have : k < 5 := hlt
  refine ⟨?_, this⟩
  unfold keys5 at h
  match k, this with
  | 0, _ => simp at h; omega
  | 1, _ => simp at h; omega
  | 2, _ => simp at h; omega
  | 3, _ => simp at h; omega
  | 4, _ => simp at h; omega
theorem E_spec_LastTurn {l : List Ver} (hl : l.length ≤ 3000000) (hr : ∀ v ∈ l, rSm v.Row) (key : Int) : m_spec_LastTurn l key = some (if verOk l then lastT l key else 0) := by
  unfold m_spec_LastTurn
  have hv := E_spec_VersionsOk hl hr
  by_cases hok : verOk l = true
  · rw [if_pos hok]
    rw [hok] at hv
    have := scanF (f := fun m v => turn1 key m v) (J := fun s => some s) (fun _ _ => True) l (fun n k s => m_spec_LastTurn_l1 n l key s k) (fun n k x s hx _ => ⟨by
      have hlt := lt_of_at hx
      rw [m_spec_LastTurn_l1, dlt hlt, cond_true, hv, Option.bind_some]
      unfold m_spec_LastTurn_j1 m_spec_LastTurn_j2 turn1
      rw [cond_true, at_of hx, Option.bind_some]
      by_cases h : x.Key = key
      · rw [show (x.Key == key) = true by simp [h], cond_true, Option.bind_some, Option.bind_some, ck1 (by omega), Option.bind_some, if_pos h]
      · rw [beqF h, cond_false, ck1 (by omega), Option.bind_some, if_neg h], trivial⟩) (fun n s _ => by rw [m_spec_LastTurn_l1, dnlt, cond_false]; unfold m_spec_LastTurn_j1; rw [cond_false, m_spec_LastTurn_j3]) 1000000000 (by omega) 0 trivial
    exact this.1
  · rw [if_neg hok]
    have hok' : verOk l = false := by simpa using hok
    rw [hok'] at hv
    rw [show (1000000000 : Nat) = 999999999 + 1 from rfl, m_spec_LastTurn_l1]
    unfold m_spec_LastTurn_j1
    cases hc : decide ((0 : Int) < (l.length : Int)) with
    | true => rw [cond_true, hv, Option.bind_some, cond_false, m_spec_LastTurn_j3]
    | false => rw [cond_false, cond_false, m_spec_LastTurn_j3]
theorem maxI_le {a b c : Int} : maxI a b ≤ c ↔ a ≤ c ∧ b ≤ c := by unfold maxI; split <;> omega
theorem lastT_fold (key : Int) : ∀ (l : List Ver) (m c : Int), l.foldl (fun m v => turn1 key m v) m ≤ c ↔ m ≤ c ∧ ∀ v ∈ l, v.Key = key → v.Born ≤ c ∧ v.Died ≤ c
  | [], m, c => by simp
  | v :: l, m, c => by
    rw [List.foldl_cons, lastT_fold key l]
    unfold turn1
    by_cases h : v.Key = key
    · rw [if_pos h, maxI_le, maxI_le]
      constructor
      · rintro ⟨⟨⟨a, b⟩, d⟩, e⟩
        refine ⟨a, fun u hu hk => ?_⟩
        rcases List.mem_cons.1 hu with rfl | hu
        · exact ⟨b, d⟩
        · exact e u hu hk
      · rintro ⟨a, b⟩
        obtain ⟨b1, b2⟩ := b v (by simp) h
        exact ⟨⟨⟨a, b1⟩, b2⟩, fun u hu => b u (by simp [hu])⟩
    · rw [if_neg h]
      constructor
      · rintro ⟨a, e⟩
        refine ⟨a, fun u hu hk => ?_⟩
        rcases List.mem_cons.1 hu with rfl | hu
        · exact absurd hk h
        · exact e u hu hk
      · rintro ⟨a, b⟩
        exact ⟨a, fun u hu => b u (by simp [hu])⟩
theorem lastT_le {l : List Ver} {key c : Int} : lastT l key ≤ c ↔ 0 ≤ c ∧ ∀ v ∈ l, v.Key = key → v.Born ≤ c ∧ v.Died ≤ c := lastT_fold key l 0 c
theorem E_versionsCopy {l : List Ver} (hl : l.length ≤ 3000000) (hr : ∀ v ∈ l, v.Row.length ≤ 3000000) : m_impl_versionsCopy l = some l := by
  unfold m_impl_versionsCopy
  have := scanM (f := fun v : Ver => v) (J := fun o => m_impl_versionsCopy_j1 o) l (fun n k o => m_impl_versionsCopy_l1 n l (l.length : Int) k o) (fun n k x o hx ho => by
    have hlt := lt_of_at hx
    rw [m_impl_versionsCopy_l1, dlt hlt, cond_true, at_of hx, Option.bind_some, ltE, E_clone (hr x (List.mem_of_getElem? hx)), Option.bind_some]
    try rw [ltE]
    rw [app_of (by simp; omega), Option.bind_some, ck1 (by omega), Option.bind_some]) (fun n o ho => by
    rw [m_impl_versionsCopy_l1, dnlt, cond_false]) _ fuel0
  rw [this, List.map_id']
  unfold m_impl_versionsCopy_j1
  first | rfl | rw [L_slices_Clip_Limpl_Version_impl_Version_o, Option.bind_some]
theorem E_l13Copy {l : List Ver} (hl : l.length ≤ 3000000) (hr : ∀ v ∈ l, v.Row.length ≤ 3000000) : m_spec_l13Copy l = some l := by
  unfold m_spec_l13Copy
  have := scanM (f := fun v : Ver => v) (J := fun o => m_spec_l13Copy_j1 o) l (fun n k o => m_spec_l13Copy_l1 n l k o) (fun n k x o hx ho => by
    have hlt := lt_of_at hx
    rw [m_spec_l13Copy_l1, dlt hlt, cond_true, at_of hx, Option.bind_some, ltE, E_l3Own (hr x (List.mem_of_getElem? hx)), Option.bind_some, ltE, app_of (by simp; omega), Option.bind_some, ck1 (by omega), Option.bind_some]) (fun n o ho => by
    rw [m_spec_l13Copy_l1, dnlt, cond_false]) _ fuel0
  rw [this, List.map_id']
  rfl
def endV (k t : Int) (v : Ver) : Ver := if v.Key = k ∧ v.Died = 0 then { v with Died := t } else v
def newV (w : Wr) (t : Int) : Ver := ⟨w.Key, t, 0, w.Row⟩
def insW (w : Wr) (t : Int) : List Ver → List Ver
  | [] => [newV w t]
  | v :: l => if v.Key > w.Key then newV w t :: endV w.Key t v :: l.map (endV w.Key t) else endV w.Key t v :: insW w t l
def put1 (l : List Ver) (w : Wr) (t : Int) : List Ver := if w.Gone then l.map (endV w.Key t) else insW w t l
def putAll (l : List Ver) (ws : List Wr) (t : Int) : List Ver := ws.foldl (fun o w => put1 o w t) l
def step1 (o : List Ver) (w : Wr) (t : Int) : List Ver := if w.Gone then o.map (endV w.Key t) else o.map (endV w.Key t) ++ [newV w t]
def stepAll (l : List Ver) (ws : List Wr) (t : Int) : List Ver := ws.foldl (fun o w => step1 o w t) l
theorem endV_row (k t : Int) (v : Ver) : (endV k t v).Row = v.Row ∧ (endV k t v).Key = v.Key ∧ (endV k t v).Born = v.Born := by unfold endV; split <;> exact ⟨rfl, rfl, rfl⟩
theorem insW_perm (w : Wr) (t : Int) : ∀ l : List Ver, (insW w t l).Perm (l.map (endV w.Key t) ++ [newV w t])
  | [] => .refl _
  | v :: l => by
    rw [insW]
    split
    · exact (List.perm_append_comm (l₁ := [newV w t]) (l₂ := endV w.Key t v :: l.map (endV w.Key t)))
    · exact (insW_perm w t l).cons _
theorem put1_perm (l : List Ver) (w : Wr) (t : Int) : (put1 l w t).Perm (step1 l w t) := by
  unfold put1 step1; split
  · exact .refl _
  · exact insW_perm w t l
theorem step1_perm {a b : List Ver} (h : a.Perm b) (w : Wr) (t : Int) : (step1 a w t).Perm (step1 b w t) := by
  unfold step1; split
  · exact h.map _
  · exact (h.map _).append_right _
theorem putAll_perm (t : Int) : ∀ (ws : List Wr) (a b : List Ver), a.Perm b → (putAll a ws t).Perm (stepAll b ws t)
  | [], _, _, h => h
  | w :: ws, a, b, h => putAll_perm t ws _ _ ((put1_perm a w t).trans (step1_perm h w t))
theorem step1_len (l : List Ver) (w : Wr) (t : Int) : (step1 l w t).length ≤ l.length + 1 := by unfold step1; split <;> simp
theorem put1_len (l : List Ver) (w : Wr) (t : Int) : (put1 l w t).length ≤ l.length + 1 := by rw [(put1_perm l w t).length_eq]; exact step1_len l w t
theorem putAll_len (t : Int) : ∀ (ws : List Wr) (l : List Ver), (putAll l ws t).length ≤ l.length + ws.length
  | [], l => by simp [putAll]
  | w :: ws, l => by
    have := putAll_len t ws (put1 l w t)
    have h1 := put1_len l w t
    have e : putAll l (w :: ws) t = putAll (put1 l w t) ws t := rfl
    rw [e, List.length_cons]; omega
theorem step1_rows {l : List Ver} {w : Wr} {t : Int} {P : Row → Prop} (hl : ∀ v ∈ l, P v.Row) (hw : P w.Row) : ∀ v ∈ step1 l w t, P v.Row := by
  intro v hv
  unfold step1 at hv
  have key : ∀ v ∈ l.map (endV w.Key t), P v.Row := by
    intro v hv
    obtain ⟨u, hu, rfl⟩ := List.mem_map.1 hv
    rw [(endV_row _ _ _).1]; exact hl u hu
  split at hv
  · exact key v hv
  · rcases List.mem_append.1 hv with h | h
    · exact key v h
    · rw [List.mem_singleton.1 h]; exact hw
theorem put1_rows {l : List Ver} {w : Wr} {t : Int} {P : Row → Prop} (hl : ∀ v ∈ l, P v.Row) (hw : P w.Row) : ∀ v ∈ put1 l w t, P v.Row := fun v hv => step1_rows hl hw v ((put1_perm l w t).mem_iff.1 hv)
theorem putAll_rows {t : Int} {P : Row → Prop} : ∀ {ws : List Wr} {l : List Ver}, (∀ v ∈ l, P v.Row) → (∀ w ∈ ws, P w.Row) → ∀ v ∈ putAll l ws t, P v.Row
  | [], _, hl, _ => hl
  | w :: ws, l, hl, hw => putAll_rows (ws := ws) (l := put1 l w t) (put1_rows hl (hw w (by simp))) (fun u hu => hw u (by simp [hu]))
theorem l13_done {t : Int} {w : Wr} {l : List Ver} (hl : l.length ≤ 100000) : ∀ (rest pre out : List Ver) (n : Nat), l = pre ++ rest → rest.length < n → out.length ≤ pre.length + 1 → m_spec_l13Written_l1 n l t w true (pre.length : Int) out = some (out ++ rest.map (endV w.Key t)) := by
  intro rest
  induction rest with
  | nil =>
    intro pre out n hp hn ho
    obtain ⟨n, rfl⟩ : ∃ q, n = q + 1 := ⟨n - 1, by omega⟩
    have : pre.length = l.length := by rw [hp]; simp
    rw [this, m_spec_l13Written_l1, dnlt, cond_false]
    unfold m_spec_l13Written_j5 m_spec_l13Written_j6
    rw [Bool.not_true, cond_false]; simp
  | cons v rest ih =>
    intro pre out n hp hn ho
    obtain ⟨n, rfl⟩ : ∃ q, n = q + 1 := ⟨n - 1, by omega⟩
    have hx : l[pre.length]? = some v := by rw [hp]; simp
    have hlt := lt_of_at hx
    have tail : ∀ u : Ver, u = endV w.Key t v → m_spec_l13Written_j4 (m_spec_l13Written_l1 n) l t w true (pre.length : Int) u out = some (out ++ (v :: rest).map (endV w.Key t)) := by
      rintro u rfl
      unfold m_spec_l13Written_j4
      rw [app_of (by simp; omega), Option.bind_some, ck1 (by omega), Option.bind_some]
      have := ih (pre ++ [v]) (out ++ [endV w.Key t v]) n (by rw [hp]; simp) (by simp at hn; omega) (by simp; omega)
      rw [List.length_append, List.length_singleton] at this
      rw [natS, this]; simp
    rw [m_spec_l13Written_l1, dlt hlt, cond_true, at_of hx, Option.bind_some, ltE]
    have go : m_spec_l13Written_j2 (m_spec_l13Written_l1 n) l t w true (pre.length : Int) v out = some (out ++ (v :: rest).map (endV w.Key t)) := by
      unfold m_spec_l13Written_j2 m_spec_l13Written_j3
      by_cases h1 : v.Key = w.Key
      · rw [show (v.Key == w.Key) = true by simp [h1], cond_true]
        by_cases h2 : v.Died = 0
        · rw [show (v.Died == 0) = true by simp [h2], cond_true, ltE]
          exact tail _ (by unfold endV; rw [if_pos ⟨h1, h2⟩])
        · rw [beqF h2, cond_false]
          exact tail _ (by unfold endV; rw [if_neg (fun h => h2 h.2)])
      · rw [beqF h1, cond_false, cond_false]
        exact tail _ (by unfold endV; rw [if_neg (fun h => h1 h.1)])
    unfold m_spec_l13Written_j1
    cases decide (v.Key > w.Key) with
    | true => rw [cond_true, Bool.not_true, cond_false]; exact go
    | false => rw [cond_false, cond_false]; exact go
theorem l13_open {t : Int} {w : Wr} {l : List Ver} (hl : l.length ≤ 100000) (hw : w.Row.length ≤ 3000000) : ∀ (rest pre out : List Ver) (n : Nat), l = pre ++ rest → rest.length < n → out.length ≤ pre.length → m_spec_l13Written_l1 n l t w false (pre.length : Int) out = some (out ++ insW w t rest) := by
  intro rest
  induction rest with
  | nil =>
    intro pre out n hp hn ho
    obtain ⟨n, rfl⟩ : ∃ q, n = q + 1 := ⟨n - 1, by omega⟩
    have : pre.length = l.length := by rw [hp]; simp
    rw [this, m_spec_l13Written_l1, dnlt, cond_false]
    unfold m_spec_l13Written_j5 m_spec_l13Written_j6
    rw [Bool.not_false, cond_true, E_l3Own hw, Option.bind_some, app_of (by simp; omega), Option.bind_some]; rfl
  | cons v rest ih =>
    intro pre out n hp hn ho
    obtain ⟨n, rfl⟩ : ∃ q, n = q + 1 := ⟨n - 1, by omega⟩
    have hx : l[pre.length]? = some v := by rw [hp]; simp
    have hlt := lt_of_at hx
    have body : ∀ (d : Bool) (out' r : List Ver), (∀ u : Ver, u = endV w.Key t v → m_spec_l13Written_j4 (m_spec_l13Written_l1 n) l t w d (pre.length : Int) u out' = some r) → m_spec_l13Written_j2 (m_spec_l13Written_l1 n) l t w d (pre.length : Int) v out' = some r := by
      intro d out' r tail
      unfold m_spec_l13Written_j2 m_spec_l13Written_j3
      by_cases h1 : v.Key = w.Key
      · rw [show (v.Key == w.Key) = true by simp [h1], cond_true]
        by_cases h2 : v.Died = 0
        · rw [show (v.Died == 0) = true by simp [h2], cond_true, ltE]
          exact tail _ (by unfold endV; rw [if_pos ⟨h1, h2⟩])
        · rw [beqF h2, cond_false]
          exact tail _ (by unfold endV; rw [if_neg (fun h => h2 h.2)])
      · rw [beqF h1, cond_false, cond_false]
        exact tail _ (by unfold endV; rw [if_neg (fun h => h1 h.1)])
    rw [m_spec_l13Written_l1, dlt hlt, cond_true, at_of hx, Option.bind_some, ltE, insW]
    unfold m_spec_l13Written_j1
    by_cases hk : v.Key > w.Key
    · rw [decide_eq_true hk, cond_true, Bool.not_false, cond_true, E_l3Own hw, Option.bind_some, app_of (by simp; omega), Option.bind_some, if_pos hk]
      refine body _ _ _ ?_
      rintro u rfl
      unfold m_spec_l13Written_j4
      rw [app_of (by simp; omega), Option.bind_some, ck1 (by omega), Option.bind_some]
      have := l13_done (t := t) (w := w) hl rest (pre ++ [v]) (out ++ [newV w t] ++ [endV w.Key t v]) n (by rw [hp]; simp) (by simp at hn; omega) (by simp; omega)
      rw [List.length_append, List.length_singleton] at this
      rw [natS]
      refine Eq.trans this ?_
      simp
    · rw [decide_eq_false hk, cond_false, cond_false, if_neg hk]
      refine body _ _ _ ?_
      rintro u rfl
      unfold m_spec_l13Written_j4
      rw [app_of (by simp; omega), Option.bind_some, ck1 (by omega), Option.bind_some]
      have := ih (pre ++ [v]) (out ++ [endV w.Key t v]) n (by rw [hp]; simp) (by simp at hn; omega) (by simp; omega)
      rw [List.length_append, List.length_singleton] at this
      rw [natS, this]; simp
theorem E_l13Written {l : List Ver} {w : Wr} {t : Int} (hl : l.length ≤ 100000) (hw : w.Row.length ≤ 3000000) : m_spec_l13Written l w t = some (put1 l w t) := by
  unfold m_spec_l13Written put1
  cases w.Gone with
  | true =>
    have := l13_done (t := t) (w := w) hl l [] [] (((l.length : Int) - 0).toNat + 1) rfl fuel0 (by simp)
    rw [if_pos rfl]
    exact this
  | false =>
    have := l13_open (t := t) (w := w) hl hw l [] [] (((l.length : Int) - 0).toNat + 1) rfl fuel0 (by simp)
    rw [if_neg (by simp)]
    exact this
def turnsB (l : List Ver) (t : Int) : Bool := keys5.all fun k => decide (lastT l k < t)
def wrOk (l : List Ver) (ws : List Wr) (t : Int) : Bool := verOk l && (wOk ws && ((decide (1 ≤ t) && decide (t ≤ 40)) && turnsB l t))
def wrAt (l : List Ver) (ws : List Wr) (t : Int) : List Ver × Bool := if wrOk l ws t then (if (putAll l ws t).length > 60 then ([], false) else (putAll l ws t, true)) else ([], false)
theorem E_spec_WrittenAt {l : List Ver} {ws : List Wr} {t : Int} (hl : l.length ≤ 10000) (hr : ∀ v ∈ l, rSm v.Row) (hw : ws.length ≤ 10000) (hrw : ∀ w ∈ ws, rSm w.Row) : m_spec_WrittenAt l ws t = some (wrAt l ws t) := by
  have last : verOk l = true → m_spec_WrittenAt_j2 l ws t = some (if (putAll l ws t).length > 60 then ([], false) else (putAll l ws t, true)) := by
    intro hv
    unfold m_spec_WrittenAt_j2
    rw [E_l13Copy (by omega) (fun v h => by have := (hr v h).1; omega), Option.bind_some]
    have := scanF (f := fun o w => put1 o w t) (J := fun o => m_spec_WrittenAt_j3 o) (fun k o => o.length ≤ l.length + k) ws (fun n k o => m_spec_WrittenAt_l2 n ws t k o) (fun n k x o hx ho => ⟨by
      have hlt := lt_of_at hx
      rw [m_spec_WrittenAt_l2, dlt hlt, cond_true, at_of hx, Option.bind_some, E_l13Written (by omega) (by have := (hrw x (List.mem_of_getElem? hx)).1; omega), Option.bind_some, ck1 (by omega), Option.bind_some], by have := put1_len o x t; omega⟩) (fun n o _ => by rw [m_spec_WrittenAt_l2, dnlt, cond_false]) _ fuel0 l (by omega)
    rw [this.1]
    unfold m_spec_WrittenAt_j3
    show (bif decide (((putAll l ws t).length : Int) > 60) then _ else _) = _
    by_cases h : (putAll l ws t).length > 60
    · rw [decide_eq_true (by omega), cond_true, if_pos h]
    · rw [decide_eq_false (by omega), cond_false, if_neg h]; rfl
  have turns : verOk l = true → m_spec_WrittenAt_l1 (((5 : Int) - (0 : Int)).toNat + 1) l ws t 0 = some (if turnsB l t then (if (putAll l ws t).length > 60 then ([], false) else (putAll l ws t, true)) else ([], false)) := by
    intro hv
    have hc := scanC (S := Unit) keys5 (fun n k (_ : Unit) => m_spec_WrittenAt_l1 n l ws t k) (fun x s k => bif decide (lastT l x ≥ t) then some ([], false) else k s) (fun _ => m_spec_WrittenAt_j2 l ws t) (fun n k x s hx => by
      obtain ⟨rfl, hk⟩ := keys5_at hx
      show m_spec_WrittenAt_l1 (n + 1) l ws t (k : Int) = _
      rw [m_spec_WrittenAt_l1, decide_eq_true (by omega), cond_true, E_spec_LastTurn (by omega) hr, Option.bind_some, if_pos hv, ck1 (by omega), Option.bind_some]) (fun n s => by
      show m_spec_WrittenAt_l1 (n + 1) l ws t 5 = _
      rw [m_spec_WrittenAt_l1, decide_eq_false (by omega), cond_false]) (((5 : Int) - (0 : Int)).toNat + 1) (by decide) ()
    refine Eq.trans hc ?_
    rw [last hv]
    generalize (if (putAll l ws t).length > 60 then (([] : List Ver), false) else (putAll l ws t, true)) = r
    unfold turnsB
    have key : ∀ ks : List Int, foldC (S := Unit) (fun x s k => bif decide (lastT l x ≥ t) then some (([] : List Ver), false) else k s) (fun _ => some r) ks () = some (if (ks.all fun k => decide (lastT l k < t)) = true then r else ([], false)) := by
      intro ks
      induction ks with
      | nil => rfl
      | cons k ks ih =>
        rw [foldC, List.all_cons, ih]
        by_cases h : lastT l k ≥ t
        · rw [decide_eq_true h, cond_true, decide_eq_false (by omega), Bool.false_and, if_neg (by simp)]
        · rw [decide_eq_false h, cond_false, decide_eq_true (by omega), Bool.true_and]
    exact key keys5
  unfold m_spec_WrittenAt wrAt wrOk
  rw [E_spec_VersionsOk (by omega) hr, Option.bind_some]
  have stop : m_spec_WrittenAt_j1 l ws t true = some ([], false) := by unfold m_spec_WrittenAt_j1; rw [cond_true]
  cases hv : verOk l with
  | false => rw [Bool.not_false, cond_true, stop, Bool.false_and, if_neg (by simp)]
  | true =>
    rw [Bool.not_true, cond_false, E_spec_WritesOk (by omega) hrw, Option.bind_some, Bool.true_and]
    cases wOk ws with
    | false => rw [Bool.not_false, cond_true, stop, Bool.false_and, if_neg (by simp)]
    | true =>
      rw [Bool.not_true, cond_false, E_l1In, Option.bind_some, Bool.true_and]
      cases (decide (1 ≤ t) && decide (t ≤ 40)) with
      | false => rw [Bool.not_false, stop, Bool.false_and, if_neg (by simp)]
      | true =>
        rw [Bool.not_true, Bool.true_and]
        unfold m_spec_WrittenAt_j1
        rw [cond_false, turns hv]
theorem imp_inner {k1 : Int → List Wr → Int → Int → List Ver → Option (List Ver)} {t len i : Int} {ws : List Wr} {w : Wr} {N : Nat} (hN : N ≤ 3000000) : ∀ (rest pre : List Ver) (n : Nat), pre.length + rest.length = N → rest.length < n → m_impl_written_l2 k1 n t ws len i (N : Int) (pre.length : Int) w (pre ++ rest) = m_impl_written_j3 k1 t ws len i w (pre ++ rest.map (endV w.Key t)) := by
  intro rest
  induction rest with
  | nil =>
    intro pre n hp hn
    obtain ⟨n, rfl⟩ : ∃ q, n = q + 1 := ⟨n - 1, by omega⟩
    have : pre.length = N := by simpa using hp
    rw [this, m_impl_written_l2, dnlt, cond_false]; rfl
  | cons v rest ih =>
    intro pre n hp hn
    obtain ⟨n, rfl⟩ : ∃ q, n = q + 1 := ⟨n - 1, by omega⟩
    have hx : (pre ++ v :: rest)[pre.length]? = some v := by simp
    have hlt : pre.length < N := by rw [← hp]; simp
    have go : ∀ u, u = endV w.Key t v → m_impl_written_j2 k1 (m_impl_written_l2 k1 n) t ws len i (N : Int) (pre.length : Int) w (pre ++ u :: rest) = m_impl_written_j3 k1 t ws len i w (pre ++ (v :: rest).map (endV w.Key t)) := by
      rintro u rfl
      unfold m_impl_written_j2
      rw [ck1 (by omega), Option.bind_some]
      have := ih (pre ++ [endV w.Key t v]) n (by simp at hp ⊢; omega) (by simp at hn; omega)
      rw [List.length_append, List.length_singleton] at this
      rw [natS, show pre ++ endV w.Key t v :: rest = pre ++ [endV w.Key t v] ++ rest by simp, this]; simp
    rw [m_impl_written_l2, dlt hlt, cond_true, at_of hx, Option.bind_some, Option.bind_some]
    unfold m_impl_written_j1
    by_cases h1 : v.Key = w.Key
    · rw [show (v.Key == w.Key) = true by simp [h1], cond_true, Option.bind_some, Option.bind_some]
      by_cases h2 : v.Died = 0
      · rw [show (v.Died == 0) = true by simp [h2], cond_true, at_of hx, Option.bind_some, Option.bind_some, ltE, Int.toNat_natCast]
        rw [show (pre ++ v :: rest).set pre.length { v with Died := t } = pre ++ { v with Died := t } :: rest by simp]
        exact go _ (by unfold endV; rw [if_pos ⟨h1, h2⟩])
      · rw [beqF h2, cond_false]
        exact go _ (by unfold endV; rw [if_neg (fun h => h2 h.2)])
    · rw [beqF h1, cond_false, cond_false]
      exact go _ (by unfold endV; rw [if_neg (fun h => h1 h.1)])
def qv (a b : Ver) : Int := orI [cmpI a.Key b.Key, cmpI a.Born b.Born]
theorem qv_lt {a b : Ver} : qv a b < 0 ↔ a.Key < b.Key ∨ (a.Key = b.Key ∧ a.Born < b.Born) := by
  unfold qv
  rw [orI_2]
  unfold lx cmpI
  split <;> split <;> (try split) <;> (try split) <;> omega
theorem E_written_1 (a b : Ver) : m_impl_written_1 a b = some (qv a b) := by
  unfold m_impl_written_1 qv
  rw [E_CompareI, Option.bind_some, E_CompareI, Option.bind_some, E_Or (by simp), Option.bind_some]
theorem E_impl_written {l : List Ver} {ws : List Wr} {t : Int} (hl : l.length ≤ 10000) (hr : ∀ v ∈ l, v.Row.length ≤ 3000000) (hw : ws.length ≤ 10000) (hrw : ∀ w ∈ ws, w.Row.length ≤ 3000000) :
    ∃ o, o.Perm (stepAll l ws t) ∧ OrdB (fun x r => decide (qv r x < 0)) o ∧ m_impl_written l ws t = some o := by
  have := scanF (f := fun o w => step1 o w t) (J := fun o => m_impl_written_j5 o) (fun k o => o.length ≤ l.length + k) ws (fun n k o => m_impl_written_l1 n t ws (ws.length : Int) k o) (fun n k x o hx ho => ⟨by
    have hlt := lt_of_at hx
    have hin := imp_inner (k1 := m_impl_written_l1 n) (t := t) (len := (ws.length : Int)) (i := (k : Int)) (ws := ws) (w := x) (N := o.length) (by omega) o [] (((o.length : Int) - 0).toNat + 1) (by simp) fuel0
    rw [m_impl_written_l1, dlt hlt, cond_true, at_of hx, Option.bind_some, ltE]
    refine Eq.trans hin ?_
    unfold m_impl_written_j3 m_impl_written_j4 step1
    rw [List.nil_append]
    cases x.Gone with
    | true => rw [Bool.not_true, cond_false, ck1 (by omega), Option.bind_some, if_pos rfl]
    | false => rw [Bool.not_false, cond_true, E_clone (hrw x (List.mem_of_getElem? hx)), Option.bind_some, app_of (by simp; omega), Option.bind_some, ck1 (by omega), Option.bind_some, if_neg (by simp)]; rfl, by have := step1_len o x t; omega⟩) (fun n o _ => by rw [m_impl_written_l1, dnlt, cond_false]) _ fuel0 l (by omega)
  have hlen : (stepAll l ws t).length ≤ l.length + ws.length := this.2
  obtain ⟨o, p1, p2, p3⟩ := L_any_slices_SortStableFunc_Limpl_Version_impl_Version (l := stepAll l ws t) (p := fun b0_ b1_ => m_impl_written_1 b0_ b1_) (q := qv) (by omega) (fun x _ y _ => E_written_1 x y)
    (fun x _ y _ z _ h1 h2 => by
      simp only [decide_eq_false_iff_not, qv_lt] at *
      omega)
    (fun x _ y _ h1 => by
      rw [qv_lt] at *
      omega)
  refine ⟨o, p1, p2, ?_⟩
  unfold m_impl_written
  rw [E_versionsCopy (by omega) hr, Option.bind_some, this.1]
  show m_impl_written_j5 (stepAll l ws t) = _
  unfold m_impl_written_j5
  rw [p3, Option.bind_some, lenQ_ok p1.length_eq, Option.bind_some, L_slices_Clip_Limpl_Version_impl_Version_o, Option.bind_some]
theorem vbad_iff {x y : Ver} : vbad x y = false ↔ x.Key < y.Key ∨ (x.Key = y.Key ∧ x.Died ≠ 0 ∧ x.Died ≤ y.Born) := by
  unfold vbad
  simp only [Bool.or_eq_false_iff, Bool.and_eq_false_iff, decide_eq_false_iff_not]
  omega
theorem adj_ordP {α : Type} {bad : α → α → Bool} {p : α → Prop} (ht : ∀ x y z, p x → p y → p z → bad x y = false → bad y z = false → bad x z = false) : ∀ {l : List α}, (∀ x ∈ l, p x) → Adj bad l → OrdB bad l
  | [], _, _ => List.Pairwise.nil
  | [x], _, _ => List.pairwise_singleton _ _
  | x :: y :: l, hp, h => by
    have h1 : OrdB bad (y :: l) := adj_ordP ht (fun z hz => hp z (by simp [hz])) fun i a b ha hb => h (i + 1) a b (by simpa using ha) (by simpa using hb)
    refine List.pairwise_cons.2 ⟨?_, h1⟩
    intro z hz
    have hxy := h 0 x y rfl rfl
    rcases List.mem_cons.1 hz with rfl | hz
    · exact hxy
    · exact ht x y z (hp _ (by simp)) (hp _ (by simp)) (hp _ (by simp [hz])) hxy ((List.pairwise_cons.1 h1).1 z hz)
structure VInv (o : List Ver) : Prop where
  vb : ∀ v ∈ o, vb v = true
  ord : OrdB vbad o
theorem verOk_inv {l : List Ver} : verOk l = true ↔ VInv l ∧ l.length ≤ 60 := by
  unfold verOk
  rw [Bool.and_eq_true, Bool.and_eq_true, adjB_iff, List.all_eq_true, decide_eq_true_eq]
  constructor
  · rintro ⟨⟨h1, h2⟩, h3⟩
    refine ⟨⟨h1, adj_ordP (p := fun v => Go.Proofs.Ytkgmomocjkmipaa.vb v = true) (fun x y z hx hy hz h4 h5 => ?_) h1 h2⟩, by omega⟩
    have n1 := vb_nums hx
    have n2 := vb_nums hy
    have n3 := vb_nums hz
    rw [vbad_iff] at *
    omega
  · rintro ⟨⟨h1, h2⟩, h3⟩
    exact ⟨⟨h1, h2.adj⟩, by omega⟩
def turnsB4 (o : List Ver) (w : Wr) (t : Int) : Prop := ∀ v ∈ o, v.Key = w.Key → v.Born < t ∧ v.Died ≤ t
theorem endV_bad {k t : Int} {x y : Ver} (h : vbad x y = false) : vbad (endV k t x) (endV k t y) = false := by
  obtain ⟨_, a1, a2⟩ := endV_row k t x
  obtain ⟨_, b1, b2⟩ := endV_row k t y
  rw [vbad_iff] at *
  rw [a1, b1, b2]
  rcases h with h | ⟨h1, h2, h3⟩
  · exact .inl h
  · refine .inr ⟨h1, ?_⟩
    have : endV k t x = x := by unfold endV; rw [if_neg (fun h => h2 h.2)]
    rw [this]; exact ⟨h2, h3⟩
theorem map_end_ord {k t : Int} {o : List Ver} (h : OrdB vbad o) : OrdB vbad (o.map (endV k t)) := by
  unfold OrdB at *
  rw [List.pairwise_map]
  exact h.imp fun h => endV_bad h
theorem insW_mem {w : Wr} {t : Int} {l : List Ver} {u : Ver} : u ∈ insW w t l ↔ (∃ v ∈ l, u = endV w.Key t v) ∨ u = newV w t := by
  rw [(insW_perm w t l).mem_iff, List.mem_append, List.mem_map, List.mem_singleton]
  constructor
  · rintro (⟨v, h1, h2⟩ | h)
    · exact .inl ⟨v, h1, h2.symm⟩
    · exact .inr h
  · rintro (⟨v, h1, h2⟩ | h)
    · exact .inl ⟨v, h1, h2.symm⟩
    · exact .inr h
theorem insW_ord {w : Wr} {t : Int} (ht : 1 ≤ t) : ∀ {o : List Ver}, OrdB vbad o → turnsB4 o w t → OrdB vbad (insW w t o)
  | [], _, _ => List.pairwise_singleton _ _
  | v :: l, h, hb => by
    obtain ⟨h1, h2⟩ := List.pairwise_cons.1 h
    have hm := map_end_ord (k := w.Key) (t := t) h
    rw [insW]
    by_cases hk : v.Key > w.Key
    · rw [if_pos hk]
      refine List.pairwise_cons.2 ⟨?_, hm⟩
      intro u hu
      have hu' : u ∈ (v :: l).map (endV w.Key t) := hu
      obtain ⟨x, hx, rfl⟩ := List.mem_map.1 hu'
      rw [vbad_iff, (endV_row w.Key t x).2.1]
      left
      show w.Key < x.Key
      rcases List.mem_cons.1 hx with rfl | hx
      · omega
      · have := vbad_iff.1 (h1 x hx); omega
    · rw [if_neg hk]
      refine List.pairwise_cons.2 ⟨?_, insW_ord ht h2 (fun u hu hk => hb u (by simp [hu]) hk)⟩
      intro u hu
      rcases insW_mem.1 hu with ⟨x, hx, rfl⟩ | rfl
      · exact endV_bad (h1 x hx)
      · rw [vbad_iff, (endV_row w.Key t v).2.1]
        rcases Int.lt_or_eq_of_le (show v.Key ≤ w.Key by omega) with h3 | h3
        · exact .inl h3
        · obtain ⟨b1, b2⟩ := hb v (by simp) h3
          refine .inr ⟨h3, ?_⟩
          unfold endV newV
          by_cases hd : v.Died = 0
          · rw [if_pos ⟨h3, hd⟩]; exact ⟨show t ≠ 0 by omega, show t ≤ t by omega⟩
          · rw [if_neg (fun h => hd h.2)]; exact ⟨hd, b2⟩
theorem endV_vb {k t : Int} {v : Ver} (h : vb v = true) (hb : v.Key = k → v.Born < t ∧ v.Died ≤ t) (ht : 1 ≤ t ∧ t ≤ 40) : vb (endV k t v) = true := by
  unfold endV
  split
  · rename_i hc
    have hn := vb_nums h
    have := hb hc.1
    unfold vb keyB
    simp only [Bool.and_eq_true, Bool.or_eq_true, decide_eq_true_eq]
    exact ⟨⟨hn.1, hn.2.1⟩, ⟨hn.2.2.1, hn.2.2.2.1⟩, .inr ⟨by omega, ht.2⟩, hn.2.2.2.2.2⟩
  · exact h
theorem wb_nums {w : Wr} (h : wb w = true) : 0 ≤ w.Key ∧ w.Key ≤ 4 ∧ rowOk w.Row = true ∧ (w.Gone = true → w.Row = []) := by
  unfold wb keyB at h
  simp only [Bool.and_eq_true, decide_eq_true_eq, Bool.not_eq_true', Bool.and_eq_false_iff, decide_eq_false_iff_not] at h
  refine ⟨h.1.1, h.1.2, h.2.1, fun hg => ?_⟩
  rcases h.2.2 with h3 | h3
  · rw [hg] at h3; cases h3
  · exact List.length_eq_zero_iff.1 (by omega)
theorem put1_inv {o : List Ver} {w : Wr} {t : Int} (h : VInv o) (hw : wb w = true) (ht : 1 ≤ t ∧ t ≤ 40) (hb : turnsB4 o w t) : VInv (put1 o w t) := by
  have hwn := wb_nums hw
  constructor
  · intro u hu
    have hu := (put1_perm o w t).mem_iff.1 hu
    unfold step1 at hu
    have key : ∀ u ∈ o.map (endV w.Key t), vb u = true := by
      intro u hu
      obtain ⟨v, hv, rfl⟩ := List.mem_map.1 hu
      exact endV_vb (h.vb v hv) (hb v hv) ht
    split at hu
    · exact key u hu
    · rcases List.mem_append.1 hu with hu | hu
      · exact key u hu
      · rw [List.mem_singleton.1 hu]
        unfold vb keyB newV
        simp only [Bool.and_eq_true, Bool.or_eq_true, decide_eq_true_eq]
        exact ⟨⟨hwn.1, hwn.2.1⟩, ht, .inl trivial, hwn.2.2.1⟩
  · unfold put1
    split
    · exact map_end_ord h.ord
    · exact insW_ord ht.1 h.ord hb
theorem put1_turns {o : List Ver} {w w' : Wr} {t : Int} (hk : w.Key ≠ w'.Key) (hb : turnsB4 o w' t) : turnsB4 (put1 o w t) w' t := by
  intro u hu hk'
  have hu := (put1_perm o w t).mem_iff.1 hu
  unfold step1 at hu
  have key : ∀ u ∈ o.map (endV w.Key t), u.Key = w'.Key → u.Born < t ∧ u.Died ≤ t := by
    intro u hu hk'
    obtain ⟨v, hv, rfl⟩ := List.mem_map.1 hu
    have hvk : v.Key = w'.Key := by rw [← hk', (endV_row _ _ _).2.1]
    have : endV w.Key t v = v := by unfold endV; rw [if_neg (fun h => hk (by rw [← hvk, h.1]))]
    rw [this]; exact hb v hv hvk
  split at hu
  · exact key u hu hk'
  · rcases List.mem_append.1 hu with hu | hu
    · exact key u hu hk'
    · rw [List.mem_singleton.1 hu] at hk'; exact absurd hk' hk
/-- What writes ask for. -/
structure WInv (o : List Ver) (ws : List Wr) (t : Int) : Prop where
  inv : VInv o
  wb : ∀ w ∈ ws, wb w = true
  keys : ws.Pairwise fun x y => x.Key < y.Key
  time : 1 ≤ t ∧ t ≤ 40
  turns : ∀ w ∈ ws, turnsB4 o w t
theorem WInv.next {o : List Ver} {w : Wr} {ws : List Wr} {t : Int} (h : WInv o (w :: ws) t) : WInv (put1 o w t) ws t where
  inv := put1_inv h.inv (h.wb w (by simp)) h.time (h.turns w (by simp))
  wb := fun u hu => h.wb u (by simp [hu])
  keys := (List.pairwise_cons.1 h.keys).2
  time := h.time
  turns := fun u hu => put1_turns (by have := (List.pairwise_cons.1 h.keys).1 u hu; omega) (h.turns u (by simp [hu]))
theorem putAll_inv {t : Int} : ∀ {ws : List Wr} {o : List Ver}, WInv o ws t → VInv (putAll o ws t)
  | [], _, h => h.inv
  | w :: ws, o, h => putAll_inv (ws := ws) h.next
theorem wOk_inv {ws : List Wr} : wOk ws = true ↔ (∀ w ∈ ws, wb w = true) ∧ ws.Pairwise fun x y => x.Key < y.Key := by
  unfold wOk
  rw [Bool.and_eq_true, adjB_iff, List.all_eq_true]
  have e : OrdB wbad ws ↔ ws.Pairwise fun x y => x.Key < y.Key := by
    unfold OrdB wbad
    constructor
    · intro h; exact h.imp fun h => by rw [decide_eq_false_iff_not] at h; omega
    · intro h; exact h.imp fun h => by rw [decide_eq_false_iff_not]; omega
  constructor
  · rintro ⟨h1, h2⟩
    exact ⟨h1, e.1 (h2.ord fun x y z h3 h4 => by unfold wbad at *; rw [decide_eq_false_iff_not] at *; omega)⟩
  · rintro ⟨h1, h2⟩
    exact ⟨h1, (e.2 h2).adj⟩
theorem keys5_mem {k : Int} : k ∈ keys5 ↔ 0 ≤ k ∧ k ≤ 4 := by unfold keys5; simp; omega
theorem turnsB_iff {l : List Ver} {t : Int} (ht : 1 ≤ t) (hv : ∀ v ∈ l, vb v = true) : turnsB l t = true ↔ ∀ v ∈ l, v.Born < t ∧ v.Died < t := by
  unfold turnsB
  rw [List.all_eq_true]
  constructor
  · intro h v hm
    have hn := vb_nums (hv v hm)
    have := h v.Key (keys5_mem.2 ⟨hn.1, hn.2.1⟩)
    rw [decide_eq_true_eq] at this
    have := (lastT_le (c := t - 1)).1 (show lastT l v.Key ≤ t - 1 by omega)
    have := this.2 v hm rfl
    omega
  · intro h k _
    rw [decide_eq_true_eq]
    have := (lastT_le (l := l) (key := k) (c := t - 1)).2 ⟨by omega, fun v hv _ => by have := h v hv; omega⟩
    omega
theorem VInv.qv {o : List Ver} (h : VInv o) : OrdB (fun x r => decide (qv r x < 0)) o ∧ ∀ x ∈ o, ∀ y ∈ o, decide (Go.Proofs.Ytkgmomocjkmipaa.qv y x < 0) = false → decide (Go.Proofs.Ytkgmomocjkmipaa.qv x y < 0) = false → x = y := by
  have hs : o.Pairwise fun x y => x.Key < y.Key ∨ (x.Key = y.Key ∧ x.Born < y.Born) := by
    have key : ∀ l : List Ver, (∀ v ∈ l, Go.Proofs.Ytkgmomocjkmipaa.vb v = true) → OrdB vbad l → l.Pairwise fun x y => x.Key < y.Key ∨ (x.Key = y.Key ∧ x.Born < y.Born) := by
      intro l
      induction l with
      | nil => intro _ _; exact List.Pairwise.nil
      | cons v l ih =>
        intro hv ho
        obtain ⟨h1, h2⟩ := List.pairwise_cons.1 ho
        refine List.pairwise_cons.2 ⟨fun u hu => ?_, ih (fun u hu => hv u (by simp [hu])) h2⟩
        have := vbad_iff.1 (h1 u hu)
        have hn := vb_nums (hv v (by simp))
        omega
    exact key o h.vb h.ord
  refine ⟨hs.imp fun h => by rw [decide_eq_false_iff_not, qv_lt]; omega, ?_⟩
  intro x hx y hy h1 h2
  rw [decide_eq_false_iff_not, qv_lt] at h1 h2
  obtain ⟨i, hi, rfl⟩ := List.getElem_of_mem hx
  obtain ⟨j, hj, rfl⟩ := List.getElem_of_mem hy
  rcases Nat.lt_trichotomy i j with h3 | h3 | h3
  · have := List.pairwise_iff_getElem.1 hs i j hi hj h3; omega
  · subst h3; rfl
  · have := List.pairwise_iff_getElem.1 hs j i hj hi h3; omega
theorem E_written_inv {l : List Ver} {ws : List Wr} {t : Int} (h : WInv l ws t) (hl : l.length ≤ 10000) (hr : ∀ v ∈ l, v.Row.length ≤ 3000000) (hw : ws.length ≤ 10000) (hrw : ∀ w ∈ ws, w.Row.length ≤ 3000000) : m_impl_written l ws t = some (putAll l ws t) := by
  obtain ⟨o, p1, p2, p3⟩ := E_impl_written (t := t) hl hr hw hrw
  obtain ⟨q1, q2⟩ := (putAll_inv h).qv
  have := ord_unique ((putAll_perm t ws l l (.refl _)).trans p1.symm) q1 p2 q2
  rw [p3, this]
abbrev En := S_impl_Entry
def eb (e : En) : Bool := (decide (1 ≤ e.Time) && decide (e.Time ≤ 40)) && wOk e.Writes
def ebad (x y : En) : Bool := decide (x.Time ≥ y.Time)
def logOk (l : List En) : Bool := l.all eb && adjB ebad l && decide ((l.length : Int) ≤ 12)
def wsSm (ws : List Wr) : Prop := ws.length ≤ 1100000 ∧ ∀ w ∈ ws, rSm w.Row
def enSm (l : List En) : Prop := l.length ≤ 1100000 ∧ ∀ e ∈ l, wsSm e.Writes
theorem E_impl_LogOk {l : List En} (h : enSm l) : m_impl_LogOk l = some (logOk l) := by
  unfold m_impl_LogOk logOk
  obtain ⟨hl, hr⟩ := h
  have stop : ∀ n (k : Int), m_impl_LogOk_j1 (m_impl_LogOk_l1 n) l l (l.length : Int) k true = some false := fun n k => by unfold m_impl_LogOk_j1; rw [cond_true]
  have next : ∀ n (k : Nat), k < l.length → m_impl_LogOk_j1 (m_impl_LogOk_l1 n) l l (l.length : Int) (k : Int) false = m_impl_LogOk_l1 n l l (l.length : Int) ((k + 1 : Nat) : Int) := fun n k hk => by unfold m_impl_LogOk_j1; rw [cond_false, ck1 (by omega), Option.bind_some, natS]
  refine scanPrev (p := eb) (bad := ebad) l (fun n k => m_impl_LogOk_l1 n l l (l.length : Int) k) (fun n x hx => ?_) (fun n k x y hx hy hp => ?_) (fun n => ?_) _ fuel0
  · have hlt := lt_of_at hx
    have hw := hr x (List.mem_of_getElem? hx)
    show m_impl_LogOk_l1 (n + 1) l l (l.length : Int) ((0 : Nat) : Int) = _
    rw [m_impl_LogOk_l1, dlt hlt, cond_true, at_of hx, Option.bind_some, ltE, E_between, Option.bind_some]
    unfold eb
    cases (decide (1 ≤ x.Time) && decide (x.Time ≤ 40)) with
    | false => rw [Bool.not_false, cond_true, stop, Bool.false_and, cond_false]
    | true =>
      rw [Bool.not_true, cond_false, dgt00, cond_false, E_impl_WritesOk (by have := hw.1; omega) hw.2, Option.bind_some, Bool.true_and]
      cases wOk x.Writes with
      | false => rw [Bool.not_false, stop, cond_false]
      | true => rw [Bool.not_true, next n 0 hlt, cond_true]; rfl
  · have hlt := lt_of_at hx
    have hw := hr x (List.mem_of_getElem? hx)
    rw [m_impl_LogOk_l1, dlt hlt, cond_true, at_of hx, Option.bind_some, ltE, E_between, Option.bind_some]
    unfold eb ebad
    cases (decide (1 ≤ x.Time) && decide (x.Time ≤ 40)) with
    | false => rw [Bool.not_false, cond_true, stop, Bool.false_and, Bool.false_and, cond_false]
    | true =>
      rw [Bool.not_true, cond_false, dgt0, cond_true, ckdd (by omega), Option.bind_some, at_of hy, Option.bind_some, Bool.true_and]
      by_cases hb : y.Time ≥ x.Time
      · rw [decide_eq_true hb, cond_true, stop, Bool.not_true, Bool.and_false, cond_false]
      · rw [decide_eq_false hb, cond_false, E_impl_WritesOk (by have := hw.1; omega) hw.2, Option.bind_some, Bool.not_false, Bool.and_true]
        cases wOk x.Writes with
        | false => rw [Bool.not_false, stop, cond_false]
        | true => rw [Bool.not_true, next n (k + 1) hlt, cond_true]
  · rw [m_impl_LogOk_l1, dnlt, cond_false, m_impl_LogOk_j2]
theorem E_spec_LogOk {l : List En} (h : enSm l) : m_spec_LogOk l = some (logOk l) := by
  unfold m_spec_LogOk logOk
  obtain ⟨hl, hr⟩ := h
  have stop : ∀ n (k : Int), m_spec_LogOk_j1 (m_spec_LogOk_l1 n) l k true = some false := fun n k => by unfold m_spec_LogOk_j1; rw [cond_true]
  have next : ∀ n (k : Nat), k < l.length → m_spec_LogOk_j1 (m_spec_LogOk_l1 n) l (k : Int) false = m_spec_LogOk_l1 n l ((k + 1 : Nat) : Int) := fun n k hk => by unfold m_spec_LogOk_j1; rw [cond_false, ck1 (by omega), Option.bind_some, natS]
  refine scanPrev (p := eb) (bad := ebad) l (fun n k => m_spec_LogOk_l1 n l k) (fun n x hx => ?_) (fun n k x y hx hy hp => ?_) (fun n => ?_) _ fuel0
  · have hlt := lt_of_at hx
    have hw := hr x (List.mem_of_getElem? hx)
    show m_spec_LogOk_l1 (n + 1) l ((0 : Nat) : Int) = _
    rw [m_spec_LogOk_l1, dlt hlt, cond_true, at_of hx, Option.bind_some, E_l1In, Option.bind_some]
    unfold eb
    cases (decide (1 ≤ x.Time) && decide (x.Time ≤ 40)) with
    | false => rw [Bool.not_false, cond_true, stop, Bool.false_and, cond_false]
    | true =>
      rw [Bool.not_true, cond_false, Option.bind_some, E_spec_WritesOk (by have := hw.1; omega) hw.2, Option.bind_some, Bool.true_and]
      cases wOk x.Writes with
      | false => rw [Bool.not_false, cond_true, stop, cond_false]
      | true => rw [Bool.not_true, cond_false, dgt00, cond_false, next n 0 hlt, cond_true]; rfl
  · have hlt := lt_of_at hx
    have hw := hr x (List.mem_of_getElem? hx)
    rw [m_spec_LogOk_l1, dlt hlt, cond_true, at_of hx, Option.bind_some, E_l1In, Option.bind_some]
    unfold eb ebad
    cases (decide (1 ≤ x.Time) && decide (x.Time ≤ 40)) with
    | false => rw [Bool.not_false, cond_true, stop, Bool.false_and, Bool.false_and, cond_false]
    | true =>
      rw [Bool.not_true, cond_false, Option.bind_some, E_spec_WritesOk (by have := hw.1; omega) hw.2, Option.bind_some, Bool.true_and]
      cases wOk x.Writes with
      | false => rw [Bool.not_false, cond_true, stop, Bool.false_and, cond_false]
      | true =>
        rw [Bool.not_true, cond_false, dgt0, cond_true, ckdd (by omega), Option.bind_some, at_of hy, Option.bind_some, Option.bind_some, Bool.true_and]
        by_cases hb : y.Time ≥ x.Time
        · rw [decide_eq_true hb, stop, Bool.not_true, cond_false]
        · rw [decide_eq_false hb, next n (k + 1) hlt, Bool.not_false, cond_true]
  · rw [m_spec_LogOk_l1, dnlt, cond_false, m_spec_LogOk_j2]
def runL (o : List Ver) (l : List En) : List Ver := l.foldl (fun o e => putAll o e.Writes e.Time) o
theorem putAll_times {T : Int} (hT : 0 ≤ T) : ∀ (ws : List Wr) (l : List Ver), (∀ v ∈ l, v.Born ≤ T ∧ v.Died ≤ T) → ∀ v ∈ putAll l ws T, v.Born ≤ T ∧ v.Died ≤ T := by
  intro ws
  induction ws with
  | nil => intro l h; exact h
  | cons u ws ihw =>
    intro l h
    refine ihw (put1 l u T) fun v hv => ?_
    have hv := (put1_perm l u T).mem_iff.1 hv
    unfold step1 at hv
    have k2 : ∀ v ∈ l.map (endV u.Key T), v.Born ≤ T ∧ v.Died ≤ T := by
      intro v hv
      obtain ⟨z, hz, rfl⟩ := List.mem_map.1 hv
      unfold endV
      split
      · exact ⟨(h z hz).1, show T ≤ T by omega⟩
      · exact h z hz
    split at hv
    · exact k2 v hv
    · rcases List.mem_append.1 hv with hv | hv
      · exact k2 v hv
      · rw [List.mem_singleton.1 hv]; exact ⟨show T ≤ T by omega, hT⟩
structure RI (o : List Ver) (T : Int) : Prop where
  inv : VInv o
  times : ∀ v ∈ o, v.Born ≤ T ∧ v.Died ≤ T
  rows : ∀ v ∈ o, rSm v.Row
theorem RI.w {o : List Ver} {T : Int} {e : En} (h : RI o T) (he : eb e = true) (ht : T < e.Time) : WInv o e.Writes e.Time := by
  unfold eb at he
  simp only [Bool.and_eq_true, decide_eq_true_eq] at he
  obtain ⟨w1, w2⟩ := wOk_inv.1 he.2
  exact ⟨h.inv, w1, w2, he.1, fun w _ v hv _ => by have := h.times v hv; omega⟩
theorem RI.step {o : List Ver} {T : Int} {e : En} (h : RI o T) (he : eb e = true) (ht : T < e.Time) (hw : wsSm e.Writes) : RI (putAll o e.Writes e.Time) e.Time :=
  ⟨putAll_inv (h.w he ht), putAll_times (by have := (h.w he ht).time; omega) _ _ fun v hv => by have := h.times v hv; omega, putAll_rows h.rows hw.2⟩
/-- Entries that follow a time, and each other. -/
structure Seq (T : Int) (l : List En) : Prop where
  ok : ∀ e ∈ l, eb e = true ∧ wsSm e.Writes ∧ T < e.Time
  asc : l.Pairwise fun x y => x.Time < y.Time
theorem Seq.tail {T : Int} {e : En} {l : List En} (h : Seq T (e :: l)) : Seq e.Time l := ⟨fun x hx => ⟨(h.ok x (by simp [hx])).1, (h.ok x (by simp [hx])).2.1, (List.pairwise_cons.1 h.asc).1 x hx⟩, (List.pairwise_cons.1 h.asc).2⟩
theorem eb_len {e : En} (h : eb e = true) : e.Writes.length ≤ 5 := by
  unfold eb at h
  simp only [Bool.and_eq_true] at h
  exact adj_len h.2
theorem run_inv : ∀ {l : List En} {o : List Ver} {T : Int}, RI o T → Seq T l → (∃ T', RI (runL o l) T') ∧ (runL o l).length ≤ o.length + 5 * l.length
  | [], o, T, h, _ => ⟨⟨T, h⟩, by simp [runL]⟩
  | e :: l, o, T, h, hs => by
    obtain ⟨h1, h2, h3⟩ := hs.ok e (by simp)
    obtain ⟨g1, g2⟩ := run_inv (h.step h1 h3 h2) hs.tail
    have := putAll_len e.Time e.Writes o
    have := eb_len h1
    refine ⟨g1, ?_⟩
    have e1 : runL o (e :: l) = runL (putAll o e.Writes e.Time) l := rfl
    rw [e1, List.length_cons]; omega
theorem RI.nil : RI [] 0 := ⟨⟨by simp, List.Pairwise.nil⟩, by simp, by simp⟩
theorem logOk_seq {l : List En} (h : logOk l = true) (hs : enSm l) : Seq 0 l ∧ l.length ≤ 12 := by
  unfold logOk at h
  rw [Bool.and_eq_true, Bool.and_eq_true, adjB_iff, List.all_eq_true, decide_eq_true_eq] at h
  obtain ⟨⟨h1, h2⟩, h3⟩ := h
  refine ⟨⟨fun e he => ⟨h1 e he, hs.2 e he, ?_⟩, ?_⟩, by omega⟩
  · have := h1 e he
    unfold eb at this
    simp only [Bool.and_eq_true, decide_eq_true_eq] at this
    omega
  · have := h2.ord (fun x y z a b => by unfold ebad at *; rw [decide_eq_false_iff_not] at *; omega)
    exact this.imp fun h => by unfold ebad at h; rw [decide_eq_false_iff_not] at h; omega
theorem Seq.take {T : Int} {l : List En} (h : Seq T l) (n : Nat) : Seq T (l.take n) := ⟨fun e he => h.ok e (List.mem_of_mem_take he), List.Pairwise.sublist (List.take_sublist _ _) h.asc⟩
def logRun (l : List En) : List Ver := if logOk l then runL [] l else []
theorem E_impl_LogRun {l : List En} (h : enSm l) : m_impl_LogRun l = some (logRun l) := by
  unfold m_impl_LogRun logRun
  rw [E_impl_LogOk h, Option.bind_some]
  cases hok : logOk l with
  | false => rfl
  | true =>
    rw [Bool.not_true, cond_false, if_pos rfl]
    obtain ⟨hs, hl⟩ := logOk_seq hok h
    unfold m_impl_logRun
    have key : ∀ (rest pre : List En) (o : List Ver) (T : Int) (n : Nat), l = pre ++ rest → rest.length < n → RI o T → Seq T rest → o.length ≤ 5 * pre.length → m_impl_logRun_l1 n o l (l.length : Int) (pre.length : Int) = some (runL o rest) := by
      intro rest
      induction rest with
      | nil =>
        intro pre o T n hp hn hI _ ho
        obtain ⟨n, rfl⟩ : ∃ q, n = q + 1 := ⟨n - 1, by omega⟩
        have : pre.length = l.length := by rw [hp]; simp
        rw [this] at ho ⊢
        rw [m_impl_logRun_l1, dnlt, cond_false]
        unfold m_impl_logRun_j1
        rw [E_versionsCopy (by omega) (fun v hv => by have := (hI.rows v hv).1; omega), Option.bind_some]; rfl
      | cons e rest ih =>
        intro pre o T n hp hn hI hq ho
        obtain ⟨n, rfl⟩ : ∃ q, n = q + 1 := ⟨n - 1, by omega⟩
        obtain ⟨h1, h2, h3⟩ := hq.ok e (by simp)
        have hx : l[pre.length]? = some e := by rw [hp]; simp
        have hlt := lt_of_at hx
        have h5 := eb_len h1
        have hpl := putAll_len e.Time e.Writes o
        rw [m_impl_logRun_l1, dlt hlt, cond_true, at_of hx, Option.bind_some, ltE, E_written_inv (hI.w h1 h3) (by omega) (fun v hv => by have := (hI.rows v hv).1; omega) (by omega) (fun v hv => by have := (h2.2 v hv).1; omega), Option.bind_some, ck1 (by omega), Option.bind_some]
        have := ih (pre ++ [e]) (putAll o e.Writes e.Time) e.Time n (by rw [hp]; simp) (by simp at hn; omega) (hI.step h1 h3 h2) hq.tail (by simp; omega)
        rw [List.length_append, List.length_singleton] at this
        rw [natS, this]; rfl
    have := key l [] [] 0 (((l.length : Int) - 0).toNat + 1) rfl fuel0 RI.nil hs (by simp)
    have e0 : (([] : List En).length : Int) = 0 := rfl
    rw [e0] at this
    rw [this, Option.bind_some]
theorem E_spec_LogRun {l : List En} (h : enSm l) : m_spec_LogRun l = some (logRun l) := by
  unfold m_spec_LogRun logRun
  have hv := E_spec_LogOk h
  cases hok : logOk l with
  | false =>
    rw [hok] at hv
    rw [if_neg (by simp), show (1000000000 : Nat) = 999999999 + 1 from rfl, m_spec_LogRun_l1]
    unfold m_spec_LogRun_j1
    cases hc : decide ((0 : Int) < (l.length : Int)) with
    | true => rw [cond_true, hv, Option.bind_some, cond_false, m_spec_LogRun_j2]
    | false => rw [cond_false, cond_false, m_spec_LogRun_j2]
  | true =>
    rw [hok] at hv
    rw [if_pos rfl]
    obtain ⟨hs, hl⟩ := logOk_seq hok h
    have key : ∀ (rest pre : List En) (o : List Ver) (T : Int) (n : Nat), l = pre ++ rest → rest.length < n → RI o T → Seq T rest → o.length ≤ 5 * pre.length → m_spec_LogRun_l1 n l o (pre.length : Int) = some (runL o rest) := by
      intro rest
      induction rest with
      | nil =>
        intro pre o T n hp hn hI _ ho
        obtain ⟨n, rfl⟩ : ∃ q, n = q + 1 := ⟨n - 1, by omega⟩
        have : pre.length = l.length := by rw [hp]; simp
        rw [this, m_spec_LogRun_l1, dnlt, cond_false]
        unfold m_spec_LogRun_j1
        rw [cond_false, m_spec_LogRun_j2]; rfl
      | cons e rest ih =>
        intro pre o T n hp hn hI hq ho
        obtain ⟨n, rfl⟩ : ∃ q, n = q + 1 := ⟨n - 1, by omega⟩
        obtain ⟨h1, h2, h3⟩ := hq.ok e (by simp)
        have hx : l[pre.length]? = some e := by rw [hp]; simp
        have hlt := lt_of_at hx
        have h5 := eb_len h1
        have hpl := putAll_len e.Time e.Writes o
        have hW := hI.w h1 h3
        have hwr : wrAt o e.Writes e.Time = (putAll o e.Writes e.Time, true) := by
          unfold wrAt
          have : wrOk o e.Writes e.Time = true := by
            unfold wrOk
            rw [verOk_inv.2 ⟨hI.inv, by omega⟩, wOk_inv.2 ⟨hW.wb, hW.keys⟩, (turnsB_iff hW.time.1 hI.inv.vb).2 (fun v hv => by have := hI.times v hv; omega), decide_eq_true hW.time.1, decide_eq_true hW.time.2]; rfl
          rw [if_pos this, if_neg (by omega)]
        rw [m_spec_LogRun_l1, dlt hlt, cond_true, hv, Option.bind_some]
        unfold m_spec_LogRun_j1
        rw [cond_true, at_of hx, Option.bind_some, Option.bind_some, E_spec_WrittenAt (by omega) hI.rows (by omega) h2.2, Option.bind_some, ck1 (by omega), Option.bind_some, hwr]
        have := ih (pre ++ [e]) (putAll o e.Writes e.Time) e.Time n (by rw [hp]; simp) (by simp at hn; omega) (hI.step h1 h3 h2) hq.tail (by simp; omega)
        rw [List.length_append, List.length_singleton] at this
        rw [natS]
        refine Eq.trans this ?_
        rfl
    exact key l [] [] 0 1000000000 rfl (by omega) RI.nil hs (by simp)
def markM {α : Type} (mk : Int → α → α) (w : α → Int) : Int → List α → List α
  | _, [] => []
  | c, x :: r => mk c x :: markM mk w (c + w x) r
def endM {α : Type} (w : α → Int) : Int → List α → Int
  | c, [] => c
  | c, x :: r => endM w (c + w x) r
theorem markM_len {α : Type} {mk : Int → α → α} {w : α → Int} : ∀ (c : Int) (l : List α), (markM mk w c l).length = l.length
  | _, [] => rfl
  | c, x :: l => by rw [markM, List.length_cons, List.length_cons, markM_len]
theorem endM_ge {α : Type} {w : α → Int} (hw : ∀ x, 0 ≤ w x) : ∀ (c : Int) (l : List α), c ≤ endM w c l
  | c, [] => Int.le_refl _
  | c, x :: l => by
    have := endM_ge hw (c + w x) l
    have := hw x
    rw [endM]; omega
theorem endM_sum {α : Type} {w : α → Int} {m : α → Nat} (hm : ∀ x, w x ≤ 3 * (m x : Int)) : ∀ (c : Int) (l : List α), endM w c l ≤ c + 3 * ((l.map m).sum : Int)
  | c, [] => by simp [endM]
  | c, x :: l => by
    have h1 := endM_sum hm (c + w x) l
    have h2 := hm x
    rw [endM, List.map_cons, List.sum_cons]
    push_cast
    omega
theorem markLoop {α : Type} {mk : Int → α → α} {w : α → Int} {B : Int} {ok : α → Prop} (hw : ∀ x, 0 ≤ w x) (L : Nat → Int → Int → List α → Option (Int × List α))
    (hs : ∀ (f : Nat) (d : List α) (x : α) (r : List α) (c : Int), d.length < 1000000000 → 0 ≤ c → c + w x ≤ B → ok x → L (f + 1) c (d.length : Int) (d ++ x :: r) = L f (c + w x) ((d.length + 1 : Nat) : Int) (d ++ mk c x :: r))
    (he : ∀ (f : Nat) (c : Int) (o : List α), L (f + 1) c (o.length : Int) o = some (c, o)) :
    ∀ (r d : List α) (c : Int) (f : Nat), r.length < f → (∀ x ∈ r, ok x) → 0 ≤ c → endM w c r ≤ B → d.length + r.length ≤ 900000000 → L f c (d.length : Int) (d ++ r) = some (endM w c r, d ++ markM mk w c r)
  | [], d, c, f, hf, _, _, _, _ => by
    obtain ⟨f, rfl⟩ : ∃ q, f = q + 1 := ⟨f - 1, by omega⟩
    rw [List.append_nil, he]; simp [markM, endM]
  | x :: r, d, c, f, hf, hok, hc, hB, hl => by
    obtain ⟨f, rfl⟩ : ∃ q, f = q + 1 := ⟨f - 1, by omega⟩
    rw [endM] at hB ⊢
    have h1 := endM_ge hw (c + w x) r
    have h2 := hw x
    rw [List.length_cons] at hf hl
    rw [hs f d x r c (by omega) hc (by omega) (hok x (by simp))]
    have ih := markLoop hw L hs he r (d ++ [mk c x]) (c + w x) f (by omega) (fun y hy => hok y (by simp [hy])) (by omega) hB (by rw [List.length_append, List.length_singleton]; omega)
    rw [List.append_assoc, List.singleton_append, List.length_append, List.length_singleton] at ih
    rw [ih, markM, List.append_assoc, List.singleton_append]
theorem heldLoop {α : Type} {mk : Int → α → α} {w : α → Int} {B : Int} {ok : α → Prop} (hw : ∀ x, 0 ≤ w x) (t0 : List α) (L : Nat → Int → Int → Option Int)
    (hs : ∀ (f k : Nat) (c : Int) (x : α), t0[k]? = some (mk c x) → k < 1000000000 → 0 ≤ c → c + w x ≤ B → ok x → L (f + 1) c (k : Int) = L f (c + w x) ((k + 1 : Nat) : Int))
    (he : ∀ (f : Nat) (c : Int), L (f + 1) c (t0.length : Int) = some c) :
    ∀ (r d : List α) (c : Int) (f : Nat), t0 = d ++ markM mk w c r → r.length < f → (∀ x ∈ r, ok x) → 0 ≤ c → endM w c r ≤ B → d.length + r.length ≤ 900000000 → L f c (d.length : Int) = some (endM w c r)
  | [], d, c, f, ht, hf, _, _, _, _ => by
    obtain ⟨f, rfl⟩ : ∃ q, f = q + 1 := ⟨f - 1, by omega⟩
    rw [markM, List.append_nil] at ht
    rw [← ht, he]; rfl
  | x :: r, d, c, f, ht, hf, hok, hc, hB, hl => by
    obtain ⟨f, rfl⟩ : ∃ q, f = q + 1 := ⟨f - 1, by omega⟩
    rw [endM] at hB ⊢
    have h1 := endM_ge hw (c + w x) r
    have h2 := hw x
    rw [List.length_cons] at hf hl
    rw [markM] at ht
    have hx : t0[d.length]? = some (mk c x) := by rw [ht]; simp
    rw [hs f d.length c x hx (by omega) hc (by omega) (hok x (by simp))]
    have ih := heldLoop hw t0 L hs he r (d ++ [mk c x]) (c + w x) f (by rw [ht, List.append_assoc, List.singleton_append]) (by omega) (fun y hy => hok y (by simp [hy])) (by omega) hB (by rw [List.length_append, List.length_singleton]; omega)
    rw [List.length_append, List.length_singleton] at ih
    exact ih
theorem T_markText {k : Int} (hk : k ≤ 1000000000) : Tot (m_laws_markText k) fun _ => True := by
  unfold m_laws_markText
  refine Tot.bif (fun _ => Tot.ret trivial) (fun h0 => ?_)
  have hk0 : 0 < k := by simpa using h0
  have key : ∀ (n : Nat) (t : Int) (a : ByteArray) (f : Nat), t ≤ n → 0 ≤ t → n < f → (a.size : Int) + t ≤ 2000000000 → Tot (m_laws_markText_l1 f t a) fun _ => True := by
    intro n
    induction n with
    | zero =>
      intro t a f h1 h2 h3 h4
      obtain ⟨f, rfl⟩ : ∃ q, f = q + 1 := ⟨f - 1, by omega⟩
      rw [m_laws_markText_l1, decide_eq_false (by omega), cond_false]
      unfold m_laws_markText_j1
      exact Tot.cat (by rw [show ByteArray.size ⟨#[109]⟩ = 1 from rfl]; omega) (Tot.ret trivial)
    | succ n ih =>
      intro t a f h1 h2 h3 h4
      obtain ⟨f, rfl⟩ : ∃ q, f = q + 1 := ⟨f - 1, by omega⟩
      rw [m_laws_markText_l1]
      refine Tot.bif (fun ht => ?_) (fun _ => ?_)
      · have ht' : 0 < t := by simpa using ht
        have e1 : t.tmod 10 = t % 10 := Int.tmod_eq_emod_of_nonneg (by omega)
        have e2 : t.tdiv 10 = t / 10 := Int.tdiv_eq_ediv_of_nonneg (by omega)
        refine Tot.rem (by omega) (Tot.ck (by omega) (by omega) (Tot.cat ?_ (Tot.quo (by omega) (by omega) (by omega) ?_)))
        · have : ∀ b : UInt8, (bStr [b]).size = 1 := fun b => rfl
          rw [this]; omega
        · refine ih _ _ f (by omega) (by omega) (by omega) ?_
          have : ∀ b : UInt8, (bStr [b]).size = 1 := fun b => rfl
          rw [ByteArray.size_append, this]
          push_cast
          omega
      · unfold m_laws_markText_j1
        exact Tot.cat (by rw [show ByteArray.size ⟨#[109]⟩ = 1 from rfl]; omega) (Tot.ret trivial)
  exact key k.toNat k ⟨#[]⟩ _ (by omega) (by omega) (by omega) (by rw [show ByteArray.size ⟨#[]⟩ = 0 from rfl]; omega)
def mtx (k : Int) : ByteArray := (m_laws_markText k).getD ⟨#[]⟩
theorem E_markText {k : Int} (hk : k ≤ 1000000000) : m_laws_markText k = some (mtx k) := by
  obtain ⟨t, ht, _⟩ := T_markText hk
  unfold mtx; rw [ht]; rfl
def mkV (c : Int) (_ : V) : V := ⟨c, c + 1, mtx (c + 2)⟩
abbrev markV (c : Int) (l : Row) : Row := markM mkV (fun _ => 3) c l
theorem endVl (c : Int) : ∀ l : Row, endM (fun _ : V => 3) c l = c + 3 * l.length
  | [] => by simp [endM]
  | x :: l => by rw [endM, endVl (c + 3) l, List.length_cons]; push_cast; omega
theorem set_at {α : Type} {d r : List α} {x y : α} : (d ++ x :: r).set d.length y = d ++ y :: r := by rw [List.set_append_right _ _ (Nat.le_refl _)]; simp
theorem at_at {α : Type} {d r : List α} {x : α} : at? (d ++ x :: r) (d.length : Int) = some x := at_of (by simp)
theorem lt_at {α : Type} {d r : List α} {x : α} : decide ((d.length : Int) < ((d ++ x :: r).length : Int)) = true := decide_eq_true (by rw [List.length_append, List.length_cons]; omega)
theorem E_markV {l : Row} {k : Int} (hk : 0 ≤ k) (hB : k + 3 * l.length ≤ 1000000000) : m_laws_markValueS l k = some (k + 3 * l.length, markV k l) := by
  unfold m_laws_markValueS
  have := markLoop (mk := mkV) (w := fun _ => 3) (B := 1000000000) (ok := fun _ => True) (fun _ => by decide) (fun f c i o => m_laws_markValueS_l1 f c i o) (fun f d x r c hd hc hB _ => by
    rw [m_laws_markValueS_l1, lt_at, cond_true, at_at, Option.bind_some, Option.bind_some, ltE, ckI_of (by omega) (by omega), Option.bind_some, Int.toNat_natCast, set_at, at_at, Option.bind_some, Option.bind_some, ltE, ckI_of (by omega) (by omega), Option.bind_some, E_markText (by omega), Option.bind_some, set_at, at_at, Option.bind_some, Option.bind_some, ltE, ckI_of (by omega) (by omega), Option.bind_some, ckI_of (by omega) (by omega), Option.bind_some, set_at]
    unfold mkV
    rw [show c + 1 + 1 + 1 = c + 3 by omega, show c + 1 + 1 = c + 2 by omega, show ((d.length : Int) + 1) = ((d.length + 1 : Nat) : Int) by omega]) (fun f c o => by rw [m_laws_markValueS_l1, dnlt]; rfl) l [] k _ fuel0 (fun _ _ => trivial) hk (by rw [endVl]; exact hB) (by simp only [List.length_nil]; omega)
  rw [endVl] at this
  exact this
theorem E_heldV {l : Row} {k : Int} (hk : 0 ≤ k) (hB : k + 3 * l.length ≤ 1000000000) : m_laws_heldValueS (markV k l) k = some (k + 3 * l.length) := by
  unfold m_laws_heldValueS
  have := heldLoop (mk := mkV) (w := fun _ => 3) (B := 1000000000) (ok := fun _ => True) (fun _ => by decide) (markV k l) (fun f c i => m_laws_heldValueS_l1 f (markV k l) c i) (fun f i c x hx hi hc hB _ => by
    rw [m_laws_heldValueS_l1, dlt (lt_of_at hx), cond_true, at_of hx, Option.bind_some]
    unfold mkV
    simp only [bne_self_eq_false, cond_false, Option.bind_some]
    rw [ckI_of (by omega) (by omega), Option.bind_some]
    simp only [bne_self_eq_false, cond_false, Option.bind_some]
    rw [ckI_of (by omega) (by omega), Option.bind_some, E_markText (by omega), Option.bind_some, show c + 1 + 1 = c + 2 by omega]
    rw [show sEq (mtx (c + 2)) (mtx (c + 2)) = true by rw [sEq_eq]; exact decide_eq_true rfl, Bool.not_true, cond_false, ckI_of (by omega) (by omega), Option.bind_some, ck1 (by omega), Option.bind_some, show c + 2 + 1 = c + 3 by omega]
    rfl) (fun f c => by rw [m_laws_heldValueS_l1, dnlt]; rfl) l [] k (((markV k l).length : Int) - 0).toNat.succ rfl (by rw [markM_len]; omega) (fun _ _ => trivial) hk (by rw [endVl]; exact hB) (by simp only [List.length_nil]; omega)
  rw [endVl] at this
  exact this
theorem vokE_b {v : V} (h : vOk v = true) : v.S.size ≤ 6 ∧ -9999 ≤ v.N ∧ v.N ≤ 9999 := by
  have e0 : (⟨#[]⟩ : ByteArray).size = 0 := rfl
  unfold vOk at h
  by_cases h0 : v.Kind = 0
  · rw [if_pos h0, decide_eq_true_eq] at h
    rw [h]
    exact ⟨by show (0 : Nat) ≤ 6; omega, by show (-9999 : Int) ≤ 0; omega, by show (0 : Int) ≤ 9999; omega⟩
  rw [if_neg h0] at h
  by_cases h1 : v.Kind = 1
  · rw [if_pos h1, Bool.and_eq_true, Bool.and_eq_true, decide_eq_true_eq, decide_eq_true_eq, decide_eq_true_eq] at h
    refine ⟨by rw [h.1, e0]; omega, h.2.1, h.2.2⟩
  rw [if_neg h1] at h
  by_cases h2 : v.Kind = 2
  · rw [if_pos h2, Bool.and_eq_true, Bool.and_eq_true, decide_eq_true_eq, decide_eq_true_eq] at h
    exact ⟨h.1.2, by omega, by omega⟩
  rw [if_neg h2] at h
  by_cases h3 : v.Kind = 3
  · rw [if_pos h3, Bool.and_eq_true, Bool.and_eq_true, decide_eq_true_eq, decide_eq_true_eq, decide_eq_true_eq] at h
    exact ⟨by rw [h.1, e0]; omega, by omega, by omega⟩
  rw [if_neg h3] at h
  cases h
theorem rowOkE_b {r : Row} (h : rowOk r = true) : r.length ≤ 4 ∧ ∀ v ∈ r, vOk v = true := by
  unfold rowOk at h
  rw [Bool.and_eq_true, decide_eq_true_eq, List.all_eq_true] at h
  exact h
theorem smE_Value {v : S_laws_Value} (h : wt_laws_Value v ≤ 1048576) : vSm (cv_laws_Value v) := by unfold wt_laws_Value at h; unfold vSm cv_laws_Value; simp only; omega
theorem smE_row {l : List S_laws_Value} (h : wt_Llaws_Value l ≤ 1048576) : rSm (cv_Llaws_Value l) := by
  refine ⟨?_, ?_⟩
  · have := wt_Llaws_Value_len (l := l); unfold cv_Llaws_Value; rw [List.length_map]; omega
  · intro v hv
    obtain ⟨x, hx, rfl⟩ := List.mem_map.1 hv
    exact smE_Value (by have := wt_Llaws_Value_mem hx; omega)
theorem endM_add {α : Type} {w : α → Int} (c : Int) : ∀ (k : Int) (l : List α), endM w (c + k) l = c + endM w k l
  | k, [] => rfl
  | k, x :: l => by rw [endM, endM, Int.add_assoc, endM_add c (k + w x) l]
def wW (w : Wr) : Int := 3 * w.Row.length + 2
def mkW (c : Int) (w : Wr) : Wr := ⟨c, markV (c + 1) w.Row, (c + 1 + 3 * (w.Row.length : Int)).tmod 3 == 0⟩
theorem E_markW {l : List Wr} {k : Int} (hk : 0 ≤ k) (hB : endM wW k l ≤ 1000000000) (hl : l.length ≤ 900000000) : m_laws_markWriteS l k = some (endM wW k l, markM mkW wW k l) := by
  unfold m_laws_markWriteS
  exact markLoop (mk := mkW) (w := wW) (B := 1000000000) (ok := fun _ => True) (fun x => by unfold wW; omega) (fun f c i o => m_laws_markWriteS_l1 f c i o) (fun f d x r c hd hc hB _ => by
    have hB' : c + (3 * (x.Row.length : Int) + 2) ≤ 1000000000 := hB
    rw [m_laws_markWriteS_l1, lt_at, cond_true, at_at, Option.bind_some, Option.bind_some, ckI_of (by omega) (by omega), Option.bind_some, Int.toNat_natCast, set_at, at_at, Option.bind_some, Option.bind_some, E_markV (by omega) (by show c + 1 + 3 * (x.Row.length : Int) ≤ _; omega), Option.bind_some, lenQ_ok (markM_len _ _), Option.bind_some, ltE]
    simp only []
    rw [show remI (c + 1 + 3 * (x.Row.length : Int)) 3 = some ((c + 1 + 3 * (x.Row.length : Int)).tmod 3) from rfl, Option.bind_some, set_at, at_at, Option.bind_some, Option.bind_some, ckI_of (by omega) (by omega), Option.bind_some, ckI_of (by omega) (by omega), Option.bind_some, set_at]
    unfold mkW wW
    rw [show c + 1 + 3 * (x.Row.length : Int) + 1 = c + (3 * (x.Row.length : Int) + 2) by omega, show ((d.length : Int) + 1) = ((d.length + 1 : Nat) : Int) by omega]) (fun f c o => by rw [m_laws_markWriteS_l1, dnlt]; rfl) l [] k _ fuel0 (fun _ _ => trivial) hk hB (by simp only [List.length_nil]; omega)
def wE (e : En) : Int := endM wW 1 e.Writes
def mkE (c : Int) (e : En) : En := ⟨c, markM mkW wW (c + 1) e.Writes⟩
theorem wE_ge (e : En) : 0 ≤ wE e := by have := endM_ge (w := wW) (fun x => by unfold wW; omega) 1 e.Writes; unfold wE; omega
theorem E_markE {l : List En} {k : Int} (hk : 0 ≤ k) (hB : endM wE k l ≤ 1000000000) (hl : l.length ≤ 900000000) (hw : ∀ e ∈ l, e.Writes.length ≤ 900000000) : m_laws_markEntryS l k = some (endM wE k l, markM mkE wE k l) := by
  unfold m_laws_markEntryS
  exact markLoop (mk := mkE) (w := wE) (B := 1000000000) (ok := fun e => e.Writes.length ≤ 900000000) wE_ge (fun f c i o => m_laws_markEntryS_l1 f c i o) (fun f d x r c hd hc hB hx => by
    have h0 := wE_ge x
    have e1 : endM wW (c + 1) x.Writes = c + wE x := endM_add c 1 x.Writes
    rw [m_laws_markEntryS_l1, lt_at, cond_true, at_at, Option.bind_some, Option.bind_some, ckI_of (by omega) (by omega), Option.bind_some, Int.toNat_natCast, set_at, at_at, Option.bind_some, Option.bind_some, E_markW (by omega) (by omega) hx, Option.bind_some, lenQ_ok (markM_len _ _), Option.bind_some, ltE, ckI_of (by omega) (by omega), Option.bind_some, set_at, e1, show ((d.length : Int) + 1) = ((d.length + 1 : Nat) : Int) by omega]
    rfl) (fun f c o => by rw [m_laws_markEntryS_l1, dnlt]; rfl) l [] k _ fuel0 hw hk hB (by simp only [List.length_nil]; omega)
def wVe (v : Ver) : Int := 3 * v.Row.length + 3
def mkVe (c : Int) (v : Ver) : Ver := ⟨c, c + 1, c + 2, markV (c + 3) v.Row⟩
theorem E_markVe {l : List Ver} {k : Int} (hk : 0 ≤ k) (hB : endM wVe k l ≤ 1000000000) (hl : l.length ≤ 900000000) : m_laws_markVersionS l k = some (endM wVe k l, markM mkVe wVe k l) := by
  unfold m_laws_markVersionS
  exact markLoop (mk := mkVe) (w := wVe) (B := 1000000000) (ok := fun _ => True) (fun x => by unfold wVe; omega) (fun f c i o => m_laws_markVersionS_l1 f c i o) (fun f d x r c hd hc hB _ => by
    have hB' : c + (3 * (x.Row.length : Int) + 3) ≤ 1000000000 := hB
    rw [m_laws_markVersionS_l1, lt_at, cond_true, at_at, Option.bind_some, Option.bind_some, ckI_of (by omega) (by omega), Option.bind_some, Int.toNat_natCast, set_at, at_at, Option.bind_some, Option.bind_some, ckI_of (by omega) (by omega), Option.bind_some, set_at, at_at, Option.bind_some, Option.bind_some, ckI_of (by omega) (by omega), Option.bind_some, set_at, at_at, Option.bind_some, Option.bind_some, E_markV (by omega) (by show c + 1 + 1 + 1 + 3 * (x.Row.length : Int) ≤ _; omega), Option.bind_some, lenQ_ok (markM_len _ _), Option.bind_some, ltE, ckI_of (by omega) (by omega), Option.bind_some, set_at]
    unfold mkVe wVe
    simp only []
    rw [show c + 1 + 1 + 1 = c + 3 by omega, show c + 1 + 1 = c + 2 by omega, show c + 3 + 3 * (x.Row.length : Int) = c + (3 * (x.Row.length : Int) + 3) by omega, show ((d.length : Int) + 1) = ((d.length + 1 : Nat) : Int) by omega]) (fun f c o => by rw [m_laws_markVersionS_l1, dnlt]; rfl) l [] k _ fuel0 (fun _ _ => trivial) hk hB (by simp only [List.length_nil]; omega)
theorem E_heldVe {l : List Ver} {k : Int} (hk : 0 ≤ k) (hB : endM wVe k l ≤ 1000000000) (hl : l.length ≤ 900000000) : m_laws_heldVersionS (markM mkVe wVe k l) k = some (endM wVe k l) := by
  unfold m_laws_heldVersionS
  exact heldLoop (mk := mkVe) (w := wVe) (B := 1000000000) (ok := fun _ => True) (fun x => by unfold wVe; omega) (markM mkVe wVe k l) (fun f c i => m_laws_heldVersionS_l1 f (markM mkVe wVe k l) c i) (fun f i c x hx hi hc hB _ => by
    have hB' : c + (3 * (x.Row.length : Int) + 3) ≤ 1000000000 := hB
    rw [m_laws_heldVersionS_l1, dlt (lt_of_at hx), cond_true, at_of hx, Option.bind_some]
    unfold mkVe
    simp only [bne_self_eq_false, cond_false]
    rw [ckI_of (by omega) (by omega), Option.bind_some, Option.bind_some]
    simp only [bne_self_eq_false, cond_false]
    rw [ckI_of (by omega) (by omega), Option.bind_some, Option.bind_some, show c + 1 + 1 = c + 2 by omega]
    simp only [bne_self_eq_false, cond_false]
    rw [ckI_of (by omega) (by omega), Option.bind_some, Option.bind_some, show c + 2 + 1 = c + 3 by omega, E_heldV (by omega) (by omega), Option.bind_some, decide_eq_false (by omega), cond_false, ck1 (by omega), Option.bind_some]
    unfold wVe
    rw [show c + 3 + 3 * (x.Row.length : Int) = c + (3 * (x.Row.length : Int) + 3) by omega]
    rfl) (fun f c => by rw [m_laws_heldVersionS_l1, dnlt]; rfl) l [] k (((markM mkVe wVe k l).length : Int) - 0).toNat.succ rfl (by rw [markM_len]; omega) (fun _ _ => trivial) hk hB (by simp only [List.length_nil]; omega)
theorem sumL' {α : Type} {f g : α → Nat} : ∀ {l : List α}, (∀ x ∈ l, f x ≤ g x) → (l.map f).sum ≤ (l.map g).sum
  | [], _ => Nat.le_refl _
  | x :: l, h => by
    rw [List.map_cons, List.sum_cons, List.map_cons, List.sum_cons]
    have := sumL' (f := f) (g := g) (l := l) fun y hy => h y (by simp [hy])
    have := h x (by simp)
    omega
theorem sumB' {α : Type} {f : α → Nat} {B : Nat} : ∀ {l : List α}, (∀ x ∈ l, f x ≤ B) → (l.map f).sum ≤ l.length * B
  | [], _ => Nat.zero_le _
  | x :: l, h => by
    rw [List.map_cons, List.sum_cons, List.length_cons, Nat.succ_mul]
    have := sumB' (f := f) (B := B) (l := l) fun y hy => h y (by simp [hy])
    have := h x (by simp)
    omega
theorem sum_succ {α : Type} {f : α → Nat} : ∀ l : List α, (l.map fun x => f x + 1).sum = (l.map f).sum + l.length
  | [] => rfl
  | x :: l => by rw [List.map_cons, List.sum_cons, List.map_cons, List.sum_cons, sum_succ l, List.length_cons]; omega
theorem endW_b (c : Int) (ws : List Wr) : endM wW c ws ≤ c + 3 * (wt_Limpl_Write ws : Int) := by
  have h1 := endM_sum (w := wW) (m := fun w => w.Row.length + 1) (fun x => by unfold wW; push_cast; omega) c ws
  have h2 : (ws.map fun w : Wr => w.Row.length).sum ≤ (ws.map fun x => wt_impl_Write x).sum := sumL' fun x _ => wt_Limpl_Value_len
  have h3 := sum_succ (f := fun w : Wr => w.Row.length) ws
  unfold wt_Limpl_Write
  push_cast
  omega
theorem endE_b {l : List En} (h : wt_Limpl_Entry l ≤ 100000000) : endM wE 1 l ≤ 1000000000 := by
  have h1 := endM_sum (w := wE) (m := fun e => wt_impl_Entry e + 1) (fun x => by
    have := endW_b 1 x.Writes
    unfold wE wt_impl_Entry
    push_cast
    omega) 1 l
  have h3 := sum_succ (f := fun e : En => wt_impl_Entry e) l
  have h4 : l.length + (l.map fun e : En => wt_impl_Entry e).sum ≤ 100000000 := h
  omega
theorem wt_row' {r : Row} (h : rowOk r = true) : wt_Limpl_Value r ≤ 28 := by
  obtain ⟨h1, h2⟩ := rowOkE_b h
  have h3 : (r.map fun v => wt_impl_Value v).sum ≤ r.length * 6 := sumB' fun v hv => (vokE_b (h2 v hv)).1
  unfold wt_Limpl_Value
  omega
theorem logRun_b {R : List En} (h : enSm R) : (logRun R).length ≤ 1000 ∧ ∀ v ∈ logRun R, rowOk v.Row = true := by
  unfold logRun
  split
  · rename_i hok
    obtain ⟨hs, hl⟩ := logOk_seq hok h
    obtain ⟨⟨T, hI⟩, h2⟩ := run_inv RI.nil hs
    refine ⟨by rw [List.length_nil] at h2; omega, fun v hv => ?_⟩
    have := hI.inv.vb v hv
    unfold vb at this
    simp only [Bool.and_eq_true] at this
    exact this.2.2.2
  · exact ⟨by simp, by simp⟩
theorem wt_ver {l : List Ver} (hl : l.length ≤ 1000) (h : ∀ x ∈ l, rowOk x.Row = true) : wt_Limpl_Version l ≤ 100000000 := by
  have h3 : (l.map fun t => wt_impl_Version t).sum ≤ l.length * 28 := sumB' fun t ht => wt_row' (h t ht)
  unfold wt_Limpl_Version
  omega
theorem endVe_b {l : List Ver} (hl : l.length ≤ 1000) (h : ∀ x ∈ l, rowOk x.Row = true) : endM wVe 1 l ≤ 1000000000 := by
  have h1 := endM_sum (w := wVe) (m := fun t => t.Row.length + 1) (fun x => by unfold wVe; push_cast; omega) 1 l
  have h2 : (l.map fun t : Ver => t.Row.length + 1).sum ≤ l.length * 5 := sumB' fun t ht => by have := (rowOkE_b (h t ht)).1; omega
  omega
theorem smE_write {v : S_laws_Write} (h : wt_laws_Write v ≤ 1048576) : rSm (cv_laws_Write v).Row := smE_row (l := v.Row) h
theorem smE_writes {l : List S_laws_Write} (h : wt_Llaws_Write l ≤ 1048576) : wsSm (cv_Llaws_Write l) := by
  refine ⟨?_, fun w hw => ?_⟩
  · have := wt_Llaws_Write_len (l := l)
    unfold cv_Llaws_Write; rw [List.length_map]; omega
  · unfold cv_Llaws_Write at hw
    obtain ⟨x, hx, rfl⟩ := List.mem_map.1 hw
    exact smE_write (by have := wt_Llaws_Write_mem hx; omega)
theorem smE_entries {l : List S_laws_Entry} (h : wt_Llaws_Entry l ≤ 1048576) : enSm (cv_Llaws_Entry l) := by
  refine ⟨?_, fun w hw => ?_⟩
  · have := wt_Llaws_Entry_len (l := l)
    unfold cv_Llaws_Entry; rw [List.length_map]; omega
  · unfold cv_Llaws_Entry at hw
    obtain ⟨x, hx, rfl⟩ := List.mem_map.1 hw
    exact smE_writes (l := x.Writes) (by have := wt_Llaws_Entry_mem hx; unfold wt_laws_Entry at this; omega)
theorem pure_FnExactLogRun (a0 : List S_laws_Entry) (b0 : B_list B_laws_Entry a0) : m_laws_FnExactLogRun a0 = some true := by
  unfold m_laws_FnExactLogRun
  rw [sz_Llaws_Entry b0 (by decide) (by decide), Option.bind_some]
  by_cases h0 : (wt_Llaws_Entry a0 : Int) ≤ 1048576
  case neg => rw [szR_lt' h0, cond_true]
  have hsm := smE_entries (l := a0) (by omega)
  have hto := to_Llaws_Entry (a := a0) (by omega)
  have hwt : wt_Limpl_Entry (cv_Llaws_Entry a0) ≤ 100000000 := by rw [wc_Llaws_Entry]; omega
  rw [szR_lt h0, cond_false, hto, Option.bind_some]
  generalize cv_Llaws_Entry a0 = R at hsm hto hwt
  obtain ⟨hC, hCk⟩ := logRun_b hsm
  have eC := E_impl_LogRun (l := R) hsm
  have eS := E_spec_LogRun (l := R) hsm
  generalize logRun R = C at hC hCk eC eS
  have hw := wt_ver hC hCk
  have hB := endVe_b hC hCk
  have hB2 := endE_b hwt
  have hge := endM_ge (w := wVe) (fun x => by unfold wVe; omega) 1 C
  have hge2 := endM_ge (w := wE) wE_ge 1 R
  have hRl : R.length ≤ 900000000 := by have := hsm.1; omega
  have hRw : ∀ e ∈ R, e.Writes.length ≤ 900000000 := fun e he => by have := (hsm.2 e he).1; omega
  have eqC : m_laws_eqVersionS C C = some true := by rw [eq_Limpl_Version hw]; exact congrArg some (decide_eq_true rfl)
  have eqR : m_laws_eqEntryS R R = some true := by rw [eq_Limpl_Entry hwt]; exact congrArg some (decide_eq_true rfl)
  rw [eS, Option.bind_some, Option.bind_some, eC, Option.bind_some, eqC, Option.bind_some, Bool.not_true, cond_false, Option.bind_some, eqR, Option.bind_some, Bool.not_true, cond_false, E_markE (by omega) hB2 hRl hRw, Option.bind_some, lenQ_ok (markM_len _ _), Option.bind_some, decide_eq_false (by simp only; omega), cond_false, Option.bind_some, Bool.not_true]
  unfold m_laws_FnExactLogRun_j1
  rw [cond_false, E_markVe (by omega) hB (by omega), Option.bind_some, lenQ_ok (markM_len _ _), Option.bind_some, E_heldVe (by omega) hB (by omega), Option.bind_some, decide_eq_false (by omega), cond_false]
  simp only [bne_self_eq_false, cond_false]
  rw [hto, Option.bind_some, eC, Option.bind_some, eqC, Option.bind_some, Bool.not_true, cond_false, Option.bind_some, decide_eq_false (by omega), cond_false, bne_self_eq_false, cond_false]
end Go.Proofs.Ytkgmomocjkmipaa
