/- What the mirrors come to, in plain Lean: the law itself at the end. -/
import Derived.Test.YtgepipglchpabaaXW5
import Derived.Test.YtgepipglchpabaaLd
set_option linter.unusedVariables false
set_option linter.unusedSimpArgs false
set_option linter.unnecessarySimpa false
namespace Go.Proofs.Ytgepipglchpabaa
open Go.Proofs Go.Lift
abbrev V := S_impl_Value
abbrev Row := List V
abbrev Rows := List Row

def lower (l : List UInt8) : Bool := l.all fun b => decide (97 ≤ b.toNat) && decide (b.toNat ≤ 122)
/-- A value is one. -/
def vOk (v : V) : Bool :=
  if v.Kind = 0 then decide (v = ⟨0, 0, ⟨#[]⟩⟩)
  else if v.Kind = 1 then decide (v.S = ⟨#[]⟩) && (decide (-9999 ≤ v.N) && decide (v.N ≤ 9999))
  else if v.Kind = 2 then decide (v.N = 0) && decide (v.S.size ≤ 6) && lower v.S.data.toList
  else if v.Kind = 3 then decide (v.S = ⟨#[]⟩) && (decide (0 ≤ v.N) && decide (v.N ≤ 1))
  else false
def rowOk (l : Row) : Bool := decide (l.length ≤ 4) && l.all vOk
/-- As memory holds it with ease. -/
def vSm (v : V) : Prop := v.S.size ≤ 1100000
def rSm (l : Row) : Prop := l.length ≤ 1100000 ∧ ∀ v ∈ l, vSm v
def rsSm (l : Rows) : Prop := l.length ≤ 1100000 ∧ ∀ r ∈ l, rSm r
theorem E_IndexFunc_V {l : Row} {p : V → Option Bool} {q : V → Bool} (hl : l.length ≤ 3000000) (hp : ∀ v ∈ l, p v = some (q v)) : m_slices_ContainsFunc_Limpl_Value_impl_Value l p = some (l.any q) := by
  unfold m_slices_ContainsFunc_Limpl_Value_impl_Value m_slices_IndexFunc_Limpl_Value_impl_Value
  have key : ∀ (ys : Row) (k n : Nat), l.drop k = ys → k ≤ l.length → ys.length < n → ∃ i : Int, m_slices_IndexFunc_Limpl_Value_impl_Value_l1 p n l (l.length : Int) (k : Int) = some i ∧ decide (i ≥ 0) = ys.any q := by
    intro ys
    induction ys with
    | nil =>
      intro k n hd hk hn
      have : k = l.length := by
        have := congrArg List.length hd
        simp at this; omega
      subst this
      obtain ⟨m, rfl⟩ : ∃ m, n = m + 1 := ⟨n - 1, by simp at hn; omega⟩
      exact ⟨-1, by simp only [m_slices_IndexFunc_Limpl_Value_impl_Value_l1, dnlt]; rfl, rfl⟩
    | cons y ys ih =>
      intro k n hd hk hn
      have hlt : k < l.length := by
        have := congrArg List.length hd
        simp at this; omega
      have hc := List.drop_eq_getElem_cons hlt
      rw [hd] at hc
      simp only [List.cons.injEq] at hc
      have hx : l[k]? = some y := by rw [List.getElem?_eq_getElem hlt, hc.1]
      obtain ⟨m, rfl⟩ : ∃ m, n = m + 1 := ⟨n - 1, by simp at hn; omega⟩
      simp only [m_slices_IndexFunc_Limpl_Value_impl_Value_l1, dlt hlt, at_of hx, hp y (List.mem_of_getElem? hx), ck1 (show k < 1000000000000 by omega), Option.bind_some, cond_true]
      cases hq : q y
      · obtain ⟨i, h1, h2⟩ := ih (k + 1) m hc.2.symm (by omega) (by simp at hn; omega)
        exact ⟨i, by simpa using h1, by rw [h2]; simp [hq]⟩
      · exact ⟨(k : Int), rfl, by simp [hq]⟩
  obtain ⟨i, h1, h2⟩ := key l 0 _ rfl (by omega) (show l.length < (((l.length : Int) - 0).toNat + 1) by omega)
  rw [show ((0 : Nat) : Int) = 0 from rfl] at h1
  rw [h1]
  simp only [Option.bind_some, h2]
theorem E_between (a b c : Int) : m_impl_between a b c = some (decide (b ≤ a) && decide (a ≤ c)) := by
  unfold m_impl_between m_impl_between_j1
  by_cases h : a ≥ b <;> simp [h]
theorem E_l1In (a b c : Int) : m_spec_l1In a b c = some (decide (b ≤ a) && decide (a ≤ c)) := by
  unfold m_spec_l1In m_spec_l1In_j1
  by_cases h : a ≥ b <;> simp [h]
theorem lower_any (l : List UInt8) : lower l = !(l.any fun b => !(decide (97 ≤ (b.toNat : Int)) && decide ((b.toNat : Int) ≤ 122))) := by
  unfold lower
  rw [List.all_eq_not_any_not]
  congr 2
  funext b
  congr 1
  have h1 : decide (97 ≤ b.toNat) = decide (97 ≤ (b.toNat : Int)) := by rw [decide_eq_decide]; omega
  have h2 : decide (b.toNat ≤ 122) = decide ((b.toNat : Int) ≤ 122) := by rw [decide_eq_decide]; omega
  rw [h1, h2]
theorem E_letters {s : ByteArray} (h : s.size ≤ 3000000) : m_impl_letters s = some (lower s.data.toList) := by
  unfold m_impl_letters sBytes?
  rw [if_pos (by omega)]
  simp only [Option.bind_some]
  have hl : s.data.toList.length ≤ 3000000 := h
  have := scanA (p := fun b : UInt8 => !(decide (97 ≤ (b.toNat : Int)) && decide ((b.toNat : Int) ≤ 122))) (r0 := false) (r1 := true) s.data.toList (fun n k => m_impl_letters_l1 n s.data.toList (s.data.toList.length : Int) k) (fun n k x hx => by
    have := lt_of_at hx
    simp only [m_impl_letters_l1, dlt this, at_of hx, E_between, ck1 (show k < 1000000000000 by omega), Option.bind_some, cond_true]) (fun n => by simp only [m_impl_letters_l1, dnlt]; rfl) _ fuel0
  rw [this, lower_any]
  cases s.data.toList.any fun b => !(decide (97 ≤ (b.toNat : Int)) && decide ((b.toNat : Int) ≤ 122)) <;> rfl
theorem sAt_of {s : ByteArray} {k : Nat} {x : UInt8} (h : s.data.toList[k]? = some x) : sAt? s (k : Int) = some x := by
  unfold sAt?
  rw [if_pos (by omega)]
  obtain ⟨h1, h2⟩ := List.getElem?_eq_some_iff.1 h
  have hs : k < s.size := by have := h1; rwa [Array.length_toList] at this
  have : s[k]? = some (s[k]'hs) := by simp [hs]
  rw [Int.toNat_natCast, this]
  congr 1
theorem E_l1Text {s : ByteArray} (h : s.size ≤ 3000000) : m_spec_l1Text s = some (lower s.data.toList && decide (s.size ≤ 6)) := by
  unfold m_spec_l1Text
  have hl : s.data.toList.length = s.size := rfl
  rw [← hl]
  have := scanA (p := fun b : UInt8 => !(decide (97 ≤ (b.toNat : Int)) && decide ((b.toNat : Int) ≤ 122))) (r0 := false) (r1 := decide ((s.size : Int) ≤ 6)) s.data.toList (fun n k => m_spec_l1Text_l1 n s k) (fun n k x hx => by
    have := lt_of_at hx
    have hd : decide ((k : Int) < (s.size : Int)) = true := by rw [← hl]; exact dlt this
    simp only [m_spec_l1Text_l1, m_spec_l1Text_j1, hd, sAt_of hx, ck1 (show k < 1000000000000 by omega), Option.bind_some, cond_true]
    have e1 : ((97 : UInt8).toNat : Int) = 97 := rfl
    have e2 : ((122 : UInt8).toNat : Int) = 122 := rfl
    rw [e1, e2]
    by_cases h1 : (x.toNat : Int) < 97
    · have : ¬ (97 ≤ (x.toNat : Int)) := by omega
      simp [h1, this]
    · have h1' : 97 ≤ (x.toNat : Int) := by omega
      by_cases h2 : (x.toNat : Int) > 122
      · have : ¬ ((x.toNat : Int) ≤ 122) := by omega
        simp [h1, h2, this]
      · have : (x.toNat : Int) ≤ 122 := by omega
        simp [h1, h2, this, h1']) (fun n => by simp only [m_spec_l1Text_l1, hl, dnlt]; rfl) _ fuel0
  rw [this, lower_any]
  have e : decide ((s.size : Int) ≤ 6) = decide (s.size ≤ 6) := by rw [decide_eq_decide]; omega
  rw [e]
  cases s.data.toList.any fun b => !(decide (97 ≤ (b.toNat : Int)) && decide ((b.toNat : Int) ≤ 122)) <;> simp
theorem E_Value_ok {v : V} (h : v.S.size ≤ 3000000) : m_impl_Value_ok v = some (vOk v) := by
  unfold m_impl_Value_ok m_impl_Value_ok_j1 m_impl_Value_ok_j2 m_impl_Value_ok_j3 vOk
  simp only [E_between, E_letters h, Option.bind_some, sEq_eq]
  by_cases h0 : v.Kind = 0
  · simp [h0]
  · by_cases h1 : v.Kind = 1
    · by_cases hs : v.S = ⟨#[]⟩ <;> simp [beqF h0, h0, h1, hs]
    · by_cases h2 : v.Kind = 2
      · by_cases hn : v.N = 0
        · by_cases hs : v.S.size ≤ 6
          · have : (v.S.size : Int) ≤ 6 := by omega
            simp [beqF h0, beqF h1, h0, h1, h2, hn, hs, this]
          · have : ¬ (v.S.size : Int) ≤ 6 := by omega
            simp [beqF h0, beqF h1, h0, h1, h2, hn, hs, this]
        · simp [beqF h0, beqF h1, h0, h1, h2, beqF hn, hn]
      · by_cases h3 : v.Kind = 3
        · by_cases hs : v.S = ⟨#[]⟩ <;> simp [beqF h0, beqF h1, beqF h2, h0, h1, h2, h3, hs]
        · simp [beqF h0, beqF h1, beqF h2, beqF h3, h0, h1, h2, h3]
theorem E_spec_ValueOk {v : V} (h : v.S.size ≤ 3000000) : m_spec_ValueOk v = some (vOk v) := by
  unfold m_spec_ValueOk m_spec_ValueOk_j1 m_spec_ValueOk_j2 m_spec_ValueOk_j3 m_spec_ValueOk_j4 vOk
  simp only [E_l1In, E_l1Text h, Option.bind_some, sEq_eq]
  obtain ⟨k, n, s⟩ := v
  simp only [S_impl_Value.mk.injEq]
  by_cases h0 : k = 0
  · by_cases hn : n = 0
    · simp [h0, hn]
    · simp [h0, hn, beqF hn]
  · by_cases h1 : k = 1
    · by_cases hs : s = ⟨#[]⟩ <;> by_cases ha : -9999 ≤ n <;> by_cases hb : n ≤ 9999 <;> simp [beqF h0, h0, h1, hs, ha, hb]
    · by_cases h2 : k = 2
      · by_cases hn : n = 0
        · simp [beqF h0, beqF h1, h0, h1, h2, hn, Bool.and_comm]
        · simp [beqF h0, beqF h1, h0, h1, h2, beqF hn, hn]
      · by_cases h3 : k = 3
        · by_cases hs : s = ⟨#[]⟩ <;> by_cases ha : 0 ≤ n <;> by_cases hb : n ≤ 1 <;> simp [beqF h0, beqF h1, beqF h2, h0, h1, h2, h3, hs, ha, hb]
        · simp [beqF h0, beqF h1, beqF h2, beqF h3, h0, h1, h2, h3]
theorem E_impl_RowOk {l : Row} (h : rSm l) : m_impl_RowOk l = some (rowOk l) := by
  unfold m_impl_RowOk m_impl_RowOk_j1 rowOk
  obtain ⟨h1, h2⟩ := h
  rw [E_IndexFunc_V (q := fun v => !(vOk v)) (by omega) (fun v hv => by unfold m_impl_RowOk_1; rw [E_Value_ok (by have := h2 v hv; unfold vSm at this; omega)]; rfl)]
  simp only [Option.bind_some]
  rw [List.all_eq_not_any_not]
  by_cases h : l.length ≤ 4
  · have : (l.length : Int) ≤ 4 := by omega
    simp [h, this]
  · have : ¬ (l.length : Int) ≤ 4 := by omega
    simp [h, this]
theorem E_spec_RowOk {l : Row} (h : rSm l) : m_spec_RowOk l = some (rowOk l) := by
  unfold m_spec_RowOk rowOk
  obtain ⟨h1, h2⟩ := h
  have := scanA (p := fun v => !(vOk v)) (r0 := false) (r1 := decide ((l.length : Int) ≤ 4)) l (fun n k => m_spec_RowOk_l1 n l k) (fun n k x hx => by
    have := lt_of_at hx
    have hsm := h2 x (List.mem_of_getElem? hx)
    unfold vSm at hsm
    simp only [m_spec_RowOk_l1, dlt this, at_of hx, E_spec_ValueOk (show x.S.size ≤ 3000000 by omega), ck1 (show k < 1000000000000 by omega), Option.bind_some, cond_true]) (fun n => by simp only [m_spec_RowOk_l1, dnlt]; rfl) _ fuel0
  rw [this, List.all_eq_not_any_not]
  have e : decide ((l.length : Int) ≤ 4) = decide (l.length ≤ 4) := by rw [decide_eq_decide]; omega
  rw [e]
  cases l.any fun v => !(vOk v) <;> simp
abbrev Rd := S_spec_l20Rd
def Rd.ok (o : Rd) : Prop := 0 ≤ o.p ∧ o.p ≤ 1000000000
theorem L_slices_IndexFunc_Limpl_Table_impl_Table {l : List S_impl_Table} {p : S_impl_Table → Option Bool} {q : S_impl_Table → Bool} (hl : l.length ≤ 3000000) (hp : ∀ v ∈ l, p v = some (q v)) : m_slices_IndexFunc_Limpl_Table_impl_Table l p = some (idxI q l) := by
  unfold m_slices_IndexFunc_Limpl_Table_impl_Table
  exact scanI (q := q) (g := fun i => some i) l (fun n k => m_slices_IndexFunc_Limpl_Table_impl_Table_l1 p n l (l.length : Int) k) (fun n k x hx => by
    have := lt_of_at hx
    rw [m_slices_IndexFunc_Limpl_Table_impl_Table_l1, dlt this, cond_true]
    simp only [at_of hx, Option.bind_some, hp x (List.mem_of_getElem? hx), ck1 (show k < 1000000000000 by omega)]) (fun n => by rw [m_slices_IndexFunc_Limpl_Table_impl_Table_l1, dnlt]; rfl) _ fuel0
theorem L_slices_ContainsFunc_Limpl_Table_impl_Table {l : List S_impl_Table} {p : S_impl_Table → Option Bool} {q : S_impl_Table → Bool} (hl : l.length ≤ 3000000) (hp : ∀ v ∈ l, p v = some (q v)) : m_slices_ContainsFunc_Limpl_Table_impl_Table l p = some (l.any q) := by
  unfold m_slices_ContainsFunc_Limpl_Table_impl_Table
  rw [L_slices_IndexFunc_Limpl_Table_impl_Table hl hp, Option.bind_some, (idxI_ge q l).2.2]
theorem L_slices_IndexFunc_Limpl_Column_impl_Column {l : List S_impl_Column} {p : S_impl_Column → Option Bool} {q : S_impl_Column → Bool} (hl : l.length ≤ 3000000) (hp : ∀ v ∈ l, p v = some (q v)) : m_slices_IndexFunc_Limpl_Column_impl_Column l p = some (idxI q l) := by
  unfold m_slices_IndexFunc_Limpl_Column_impl_Column
  exact scanI (q := q) (g := fun i => some i) l (fun n k => m_slices_IndexFunc_Limpl_Column_impl_Column_l1 p n l (l.length : Int) k) (fun n k x hx => by
    have := lt_of_at hx
    rw [m_slices_IndexFunc_Limpl_Column_impl_Column_l1, dlt this, cond_true]
    simp only [at_of hx, Option.bind_some, hp x (List.mem_of_getElem? hx), ck1 (show k < 1000000000000 by omega)]) (fun n => by rw [m_slices_IndexFunc_Limpl_Column_impl_Column_l1, dnlt]; rfl) _ fuel0
theorem L_slices_ContainsFunc_Limpl_Column_impl_Column {l : List S_impl_Column} {p : S_impl_Column → Option Bool} {q : S_impl_Column → Bool} (hl : l.length ≤ 3000000) (hp : ∀ v ∈ l, p v = some (q v)) : m_slices_ContainsFunc_Limpl_Column_impl_Column l p = some (l.any q) := by
  unfold m_slices_ContainsFunc_Limpl_Column_impl_Column
  rw [L_slices_IndexFunc_Limpl_Column_impl_Column hl hp, Option.bind_some, (idxI_ge q l).2.2]
theorem L_slices_IndexFunc_LLimpl_Value_Limpl_Value {l : List (List S_impl_Value)} {p : (List S_impl_Value) → Option Bool} {q : (List S_impl_Value) → Bool} (hl : l.length ≤ 3000000) (hp : ∀ v ∈ l, p v = some (q v)) : m_slices_IndexFunc_LLimpl_Value_Limpl_Value l p = some (idxI q l) := by
  unfold m_slices_IndexFunc_LLimpl_Value_Limpl_Value
  exact scanI (q := q) (g := fun i => some i) l (fun n k => m_slices_IndexFunc_LLimpl_Value_Limpl_Value_l1 p n l (l.length : Int) k) (fun n k x hx => by
    have := lt_of_at hx
    rw [m_slices_IndexFunc_LLimpl_Value_Limpl_Value_l1, dlt this, cond_true]
    simp only [at_of hx, Option.bind_some, hp x (List.mem_of_getElem? hx), ck1 (show k < 1000000000000 by omega)]) (fun n => by rw [m_slices_IndexFunc_LLimpl_Value_Limpl_Value_l1, dnlt]; rfl) _ fuel0
theorem L_slices_ContainsFunc_LLimpl_Value_Limpl_Value {l : List (List S_impl_Value)} {p : (List S_impl_Value) → Option Bool} {q : (List S_impl_Value) → Bool} (hl : l.length ≤ 3000000) (hp : ∀ v ∈ l, p v = some (q v)) : m_slices_ContainsFunc_LLimpl_Value_Limpl_Value l p = some (l.any q) := by
  unfold m_slices_ContainsFunc_LLimpl_Value_Limpl_Value
  rw [L_slices_IndexFunc_LLimpl_Value_Limpl_Value hl hp, Option.bind_some, (idxI_ge q l).2.2]
theorem L_slices_IndexFunc_Lint_int {l : List Int} {p : Int → Option Bool} {q : Int → Bool} (hl : l.length ≤ 3000000) (hp : ∀ v ∈ l, p v = some (q v)) : m_slices_IndexFunc_Lint_int l p = some (idxI q l) := by
  unfold m_slices_IndexFunc_Lint_int
  exact scanI (q := q) (g := fun i => some i) l (fun n k => m_slices_IndexFunc_Lint_int_l1 p n l (l.length : Int) k) (fun n k x hx => by
    have := lt_of_at hx
    rw [m_slices_IndexFunc_Lint_int_l1, dlt this, cond_true]
    simp only [at_of hx, Option.bind_some, hp x (List.mem_of_getElem? hx), ck1 (show k < 1000000000000 by omega)]) (fun n => by rw [m_slices_IndexFunc_Lint_int_l1, dnlt]; rfl) _ fuel0
theorem L_slices_ContainsFunc_Lint_int {l : List Int} {p : Int → Option Bool} {q : Int → Bool} (hl : l.length ≤ 3000000) (hp : ∀ v ∈ l, p v = some (q v)) : m_slices_ContainsFunc_Lint_int l p = some (l.any q) := by
  unfold m_slices_ContainsFunc_Lint_int
  rw [L_slices_IndexFunc_Lint_int hl hp, Option.bind_some, (idxI_ge q l).2.2]
theorem ltE {α β : Type} {x : α} {f : α → β} : lt x f = f x := rfl
theorem bneD {a b : Int} : (a != b) = !decide (a = b) := by by_cases h : a = b <;> simp [h]
theorem bneB {a b : Bool} : (a != b) = !decide (a = b) := by cases a <;> cases b <;> rfl
def wt_Llaws_Column (l : (List S_laws_Column)) : Nat := l.length
theorem wt_Llaws_Column_len {l : (List S_laws_Column)} : l.length ≤ wt_Llaws_Column l := by unfold wt_Llaws_Column; omega
theorem sz_Llaws_Column {a : (List S_laws_Column)} {left : Int} (hB : (B_list B_laws_Column) a) (h0 : 0 ≤ left) (h1 : left ≤ 1048576) : m_laws_szColumnS a left = some (szR left (wt_Llaws_Column a)) := by
  unfold m_laws_szColumnS wt_Llaws_Column
  rw [ckSz' h0 h1 hB.1]
  exact szE h0
def wt_laws_Value (v : S_laws_Value) : Nat := v.S.size
theorem sz_laws_Value {a : S_laws_Value} {left : Int} (hB : B_laws_Value a) (h0 : 0 ≤ left) (h1 : left ≤ 1048576) : m_laws_szValue a left = some (szR left (wt_laws_Value a)) := by
  unfold m_laws_szValue wt_laws_Value
  unfold B_laws_Value at hB
  rw [ckSz' h0 h1 hB.2.2]
  exact szE h0
def wt_Llaws_Value (l : (List S_laws_Value)) : Nat := l.length + (l.map fun x => wt_laws_Value x).sum
theorem wt_Llaws_Value_len {l : (List S_laws_Value)} : l.length ≤ wt_Llaws_Value l := by unfold wt_Llaws_Value; omega
theorem wt_Llaws_Value_mem {l : (List S_laws_Value)} {x : S_laws_Value} (h : x ∈ l) : wt_laws_Value x ≤ wt_Llaws_Value l := by have := sum_mem (wt := fun x : S_laws_Value => wt_laws_Value x) h; unfold wt_Llaws_Value; omega
theorem sz_Llaws_Value {a : (List S_laws_Value)} {left : Int} (hB : (B_list B_laws_Value) a) (h0 : 0 ≤ left) (h1 : left ≤ 1048576) : m_laws_szValueS a left = some (szR left (wt_Llaws_Value a)) := by
  unfold m_laws_szValueS wt_Llaws_Value
  rw [ckSz' h0 h1 hB.1]
  refine szC (k := fun z => m_laws_szValueS_l1 (((a.length : Int) - (0 : Int)).toNat + 1) a z 0) h0 (fun e => ?_)
  refine szLoop0 (fun x => wt_laws_Value x) a (fun f z k => m_laws_szValueS_l1 f a z k) (fun f k z x hx hk h2 h3 => ?_) (fun f z => by rw [m_laws_szValueS_l1, dnlt]; rfl) (by omega) _ (szR_0 e) (szR_le h1)
  rw [m_laws_szValueS_l1, dlt (lt_of_at hx), cond_true, at_of hx, Option.bind_some, sz_laws_Value (hB.2 x (List.mem_of_getElem? hx)) h2 h3, Option.bind_some]
  rw [ck1 (by omega)]
  rfl
def wt_LLlaws_Value (l : (List (List S_laws_Value))) : Nat := l.length + (l.map fun x => wt_Llaws_Value x).sum
theorem wt_LLlaws_Value_len {l : (List (List S_laws_Value))} : l.length ≤ wt_LLlaws_Value l := by unfold wt_LLlaws_Value; omega
theorem wt_LLlaws_Value_mem {l : (List (List S_laws_Value))} {x : (List S_laws_Value)} (h : x ∈ l) : wt_Llaws_Value x ≤ wt_LLlaws_Value l := by have := sum_mem (wt := fun x : (List S_laws_Value) => wt_Llaws_Value x) h; unfold wt_LLlaws_Value; omega
theorem sz_LLlaws_Value {a : (List (List S_laws_Value))} {left : Int} (hB : (B_list (B_list B_laws_Value)) a) (h0 : 0 ≤ left) (h1 : left ≤ 1048576) : m_laws_szValueSS a left = some (szR left (wt_LLlaws_Value a)) := by
  unfold m_laws_szValueSS wt_LLlaws_Value
  rw [ckSz' h0 h1 hB.1]
  refine szC (k := fun z => m_laws_szValueSS_l1 (((a.length : Int) - (0 : Int)).toNat + 1) a z 0) h0 (fun e => ?_)
  refine szLoop0 (fun x => wt_Llaws_Value x) a (fun f z k => m_laws_szValueSS_l1 f a z k) (fun f k z x hx hk h2 h3 => ?_) (fun f z => by rw [m_laws_szValueSS_l1, dnlt]; rfl) (by omega) _ (szR_0 e) (szR_le h1)
  rw [m_laws_szValueSS_l1, dlt (lt_of_at hx), cond_true, at_of hx, Option.bind_some, sz_Llaws_Value (hB.2 x (List.mem_of_getElem? hx)) h2 h3, Option.bind_some]
  rw [ck1 (by omega)]
  rfl
def wt_laws_Table (v : S_laws_Table) : Nat := wt_Llaws_Column v.Columns + (wt_LLlaws_Value v.Rows)
theorem sz_laws_Table {a : S_laws_Table} {left : Int} (hB : B_laws_Table a) (h0 : 0 ≤ left) (h1 : left ≤ 1048576) : m_laws_szTable a left = some (szR left (wt_laws_Table a)) := by
  unfold m_laws_szTable wt_laws_Table
  unfold B_laws_Table at hB
  rw [sz_Llaws_Column hB.1 h0 h1, Option.bind_some]
  refine szC (k := fun z => _) h0 (fun e0 => ?_)
  rw [sz_LLlaws_Value hB.2 (szR_0 e0) (szR_le h1), Option.bind_some]
  exact szE (szR_0 e0)
def wt_Llaws_Table (l : (List S_laws_Table)) : Nat := l.length + (l.map fun x => wt_laws_Table x).sum
theorem wt_Llaws_Table_len {l : (List S_laws_Table)} : l.length ≤ wt_Llaws_Table l := by unfold wt_Llaws_Table; omega
theorem wt_Llaws_Table_mem {l : (List S_laws_Table)} {x : S_laws_Table} (h : x ∈ l) : wt_laws_Table x ≤ wt_Llaws_Table l := by have := sum_mem (wt := fun x : S_laws_Table => wt_laws_Table x) h; unfold wt_Llaws_Table; omega
theorem sz_Llaws_Table {a : (List S_laws_Table)} {left : Int} (hB : (B_list B_laws_Table) a) (h0 : 0 ≤ left) (h1 : left ≤ 1048576) : m_laws_szTableS a left = some (szR left (wt_Llaws_Table a)) := by
  unfold m_laws_szTableS wt_Llaws_Table
  rw [ckSz' h0 h1 hB.1]
  refine szC (k := fun z => m_laws_szTableS_l1 (((a.length : Int) - (0 : Int)).toNat + 1) a z 0) h0 (fun e => ?_)
  refine szLoop0 (fun x => wt_laws_Table x) a (fun f z k => m_laws_szTableS_l1 f a z k) (fun f k z x hx hk h2 h3 => ?_) (fun f z => by rw [m_laws_szTableS_l1, dnlt]; rfl) (by omega) _ (szR_0 e) (szR_le h1)
  rw [m_laws_szTableS_l1, dlt (lt_of_at hx), cond_true, at_of hx, Option.bind_some, sz_laws_Table (hB.2 x (List.mem_of_getElem? hx)) h2 h3, Option.bind_some]
  rw [ck1 (by omega)]
  rfl
def wt_Lint (l : (List Int)) : Nat := l.length
theorem wt_Lint_len {l : (List Int)} : l.length ≤ wt_Lint l := by unfold wt_Lint; omega
theorem sz_Lint {a : (List Int)} {left : Int} (hB : (B_list B_int) a) (h0 : 0 ≤ left) (h1 : left ≤ 1048576) : m_laws_szIntS a left = some (szR left (wt_Lint a)) := by
  unfold m_laws_szIntS wt_Lint
  rw [ckSz' h0 h1 hB.1]
  exact szE h0
def wt_laws_Part (v : S_laws_Part) : Nat := wt_laws_Value v.V
theorem sz_laws_Part {a : S_laws_Part} {left : Int} (hB : B_laws_Part a) (h0 : 0 ≤ left) (h1 : left ≤ 1048576) : m_laws_szPart a left = some (szR left (wt_laws_Part a)) := by
  unfold m_laws_szPart wt_laws_Part
  unfold B_laws_Part at hB
  rw [sz_laws_Value hB.2.2 h0 h1, Option.bind_some]
  exact szE h0
def wt_Llaws_Part (l : (List S_laws_Part)) : Nat := l.length + (l.map fun x => wt_laws_Part x).sum
theorem wt_Llaws_Part_len {l : (List S_laws_Part)} : l.length ≤ wt_Llaws_Part l := by unfold wt_Llaws_Part; omega
theorem wt_Llaws_Part_mem {l : (List S_laws_Part)} {x : S_laws_Part} (h : x ∈ l) : wt_laws_Part x ≤ wt_Llaws_Part l := by have := sum_mem (wt := fun x : S_laws_Part => wt_laws_Part x) h; unfold wt_Llaws_Part; omega
theorem sz_Llaws_Part {a : (List S_laws_Part)} {left : Int} (hB : (B_list B_laws_Part) a) (h0 : 0 ≤ left) (h1 : left ≤ 1048576) : m_laws_szPartS a left = some (szR left (wt_Llaws_Part a)) := by
  unfold m_laws_szPartS wt_Llaws_Part
  rw [ckSz' h0 h1 hB.1]
  refine szC (k := fun z => m_laws_szPartS_l1 (((a.length : Int) - (0 : Int)).toNat + 1) a z 0) h0 (fun e => ?_)
  refine szLoop0 (fun x => wt_laws_Part x) a (fun f z k => m_laws_szPartS_l1 f a z k) (fun f k z x hx hk h2 h3 => ?_) (fun f z => by rw [m_laws_szPartS_l1, dnlt]; rfl) (by omega) _ (szR_0 e) (szR_le h1)
  rw [m_laws_szPartS_l1, dlt (lt_of_at hx), cond_true, at_of hx, Option.bind_some, sz_laws_Part (hB.2 x (List.mem_of_getElem? hx)) h2 h3, Option.bind_some]
  rw [ck1 (by omega)]
  rfl
def wt_laws_Bond (v : S_laws_Bond) : Nat := wt_Lint v.f_List + (wt_Lint v.To + (wt_Llaws_Part v.E))
theorem sz_laws_Bond {a : S_laws_Bond} {left : Int} (hB : B_laws_Bond a) (h0 : 0 ≤ left) (h1 : left ≤ 1048576) : m_laws_szBond a left = some (szR left (wt_laws_Bond a)) := by
  unfold m_laws_szBond wt_laws_Bond
  unfold B_laws_Bond at hB
  rw [sz_Lint hB.2.2.1 h0 h1, Option.bind_some]
  refine szC (k := fun z => _) h0 (fun e0 => ?_)
  rw [sz_Lint hB.2.2.2.2.1 (szR_0 e0) (szR_le h1), Option.bind_some]
  refine szC (k := fun z => _) (szR_0 e0) (fun e1 => ?_)
  rw [sz_Llaws_Part hB.2.2.2.2.2.2 (szR_0 e1) (szR_le (szR_le h1)), Option.bind_some]
  exact szE (szR_0 e1)
def cv_laws_Column (v : S_laws_Column) : S_impl_Column := ⟨v.Kind, v.Empty⟩
theorem to_laws_Column {a : S_laws_Column} : m_laws_toColumn a = some (cv_laws_Column a) := by
  unfold m_laws_toColumn cv_laws_Column
  all_goals rfl
def cv_Llaws_Column (l : (List S_laws_Column)) : (List S_impl_Column) := l.map cv_laws_Column
theorem to_Llaws_Column {a : (List S_laws_Column)} (h : wt_Llaws_Column a ≤ 100000000) : m_laws_toColumnS a = some (cv_Llaws_Column a) := by
  have hl : a.length ≤ 100000000 := by have := wt_Llaws_Column_len (l := a); omega
  unfold m_laws_toColumnS cv_Llaws_Column
  refine toLoop0 cv_laws_Column a _ (fun f k o => m_laws_toColumnS_l1 f a k o) (fun f k o x hx hk ho => ?_) (fun f o => by rw [m_laws_toColumnS_l1, dnlt]; rfl) (by omega)
  have hy := at_some (l := o) (k := k) (by have := lt_of_at hx; omega)
  rw [m_laws_toColumnS_l1, dlt (lt_of_at hx), cond_true, at_of hx, Option.bind_some, to_laws_Column, Option.bind_some, hy, Option.bind_some, Option.bind_some, ltE, ck1 (by omega), Option.bind_some, Int.toNat_natCast]
  rfl
def wt_Limpl_Column (l : (List S_impl_Column)) : Nat := l.length
theorem wt_Limpl_Column_len {l : (List S_impl_Column)} : l.length ≤ wt_Limpl_Column l := by unfold wt_Limpl_Column; omega
theorem wc_Llaws_Column {l : (List S_laws_Column)} : wt_Limpl_Column (cv_Llaws_Column l) = wt_Llaws_Column l := by
  unfold wt_Limpl_Column cv_Llaws_Column wt_Llaws_Column
  rw [List.length_map]
def cv_laws_Value (v : S_laws_Value) : S_impl_Value := ⟨v.Kind, v.N, v.S⟩
theorem to_laws_Value {a : S_laws_Value} (h : wt_laws_Value a ≤ 100000000) : m_laws_toValue a = some (cv_laws_Value a) := by
  unfold wt_laws_Value at h
  unfold m_laws_toValue cv_laws_Value
  all_goals rfl
def wt_impl_Value (v : S_impl_Value) : Nat := v.S.size
theorem wc_laws_Value {v : S_laws_Value} : wt_impl_Value (cv_laws_Value v) = wt_laws_Value v := rfl
def cv_Llaws_Value (l : (List S_laws_Value)) : (List S_impl_Value) := l.map cv_laws_Value
theorem to_Llaws_Value {a : (List S_laws_Value)} (h : wt_Llaws_Value a ≤ 100000000) : m_laws_toValueS a = some (cv_Llaws_Value a) := by
  have hl : a.length ≤ 100000000 := by have := wt_Llaws_Value_len (l := a); omega
  unfold m_laws_toValueS cv_Llaws_Value
  refine toLoop0 cv_laws_Value a _ (fun f k o => m_laws_toValueS_l1 f a k o) (fun f k o x hx hk ho => ?_) (fun f o => by rw [m_laws_toValueS_l1, dnlt]; rfl) (by omega)
  have hy := at_some (l := o) (k := k) (by have := lt_of_at hx; omega)
  rw [m_laws_toValueS_l1, dlt (lt_of_at hx), cond_true, at_of hx, Option.bind_some, to_laws_Value (by have := wt_Llaws_Value_mem (List.mem_of_getElem? hx); omega), Option.bind_some, hy, Option.bind_some, Option.bind_some, ltE, ck1 (by omega), Option.bind_some, Int.toNat_natCast]
  rfl
def wt_Limpl_Value (l : (List S_impl_Value)) : Nat := l.length + (l.map fun x => wt_impl_Value x).sum
theorem wt_Limpl_Value_len {l : (List S_impl_Value)} : l.length ≤ wt_Limpl_Value l := by unfold wt_Limpl_Value; omega
theorem wt_Limpl_Value_mem {l : (List S_impl_Value)} {x : S_impl_Value} (h : x ∈ l) : wt_impl_Value x ≤ wt_Limpl_Value l := by have := sum_mem (wt := fun x : S_impl_Value => wt_impl_Value x) h; unfold wt_Limpl_Value; omega
theorem wc_Llaws_Value {l : (List S_laws_Value)} : wt_Limpl_Value (cv_Llaws_Value l) = wt_Llaws_Value l := by
  unfold wt_Limpl_Value cv_Llaws_Value wt_Llaws_Value
  rw [List.length_map, List.map_map]
  first | done | (congr 2; exact List.map_congr_left fun x _ => wc_laws_Value) | rfl
def cv_LLlaws_Value (l : (List (List S_laws_Value))) : (List (List S_impl_Value)) := l.map cv_Llaws_Value
theorem to_LLlaws_Value {a : (List (List S_laws_Value))} (h : wt_LLlaws_Value a ≤ 100000000) : m_laws_toValueSS a = some (cv_LLlaws_Value a) := by
  have hl : a.length ≤ 100000000 := by have := wt_LLlaws_Value_len (l := a); omega
  unfold m_laws_toValueSS cv_LLlaws_Value
  refine toLoop0 cv_Llaws_Value a _ (fun f k o => m_laws_toValueSS_l1 f a k o) (fun f k o x hx hk ho => ?_) (fun f o => by rw [m_laws_toValueSS_l1, dnlt]; rfl) (by omega)
  have hy := at_some (l := o) (k := k) (by have := lt_of_at hx; omega)
  rw [m_laws_toValueSS_l1, dlt (lt_of_at hx), cond_true, at_of hx, Option.bind_some, to_Llaws_Value (by have := wt_LLlaws_Value_mem (List.mem_of_getElem? hx); omega), Option.bind_some, hy, Option.bind_some, Option.bind_some, ltE, ck1 (by omega), Option.bind_some, Int.toNat_natCast]
  rfl
def wt_LLimpl_Value (l : (List (List S_impl_Value))) : Nat := l.length + (l.map fun x => wt_Limpl_Value x).sum
theorem wt_LLimpl_Value_len {l : (List (List S_impl_Value))} : l.length ≤ wt_LLimpl_Value l := by unfold wt_LLimpl_Value; omega
theorem wt_LLimpl_Value_mem {l : (List (List S_impl_Value))} {x : (List S_impl_Value)} (h : x ∈ l) : wt_Limpl_Value x ≤ wt_LLimpl_Value l := by have := sum_mem (wt := fun x : (List S_impl_Value) => wt_Limpl_Value x) h; unfold wt_LLimpl_Value; omega
theorem wc_LLlaws_Value {l : (List (List S_laws_Value))} : wt_LLimpl_Value (cv_LLlaws_Value l) = wt_LLlaws_Value l := by
  unfold wt_LLimpl_Value cv_LLlaws_Value wt_LLlaws_Value
  rw [List.length_map, List.map_map]
  first | done | (congr 2; exact List.map_congr_left fun x _ => wc_Llaws_Value) | rfl
def cv_laws_Table (v : S_laws_Table) : S_impl_Table := ⟨cv_Llaws_Column v.Columns, cv_LLlaws_Value v.Rows⟩
theorem to_laws_Table {a : S_laws_Table} (h : wt_laws_Table a ≤ 100000000) : m_laws_toTable a = some (cv_laws_Table a) := by
  unfold wt_laws_Table at h
  unfold m_laws_toTable cv_laws_Table
  try simp only [ltE]
  rw [to_Llaws_Column (by omega), Option.bind_some]
  try simp only [ltE]
  rw [to_LLlaws_Value (by omega), Option.bind_some]
  all_goals rfl
def wt_impl_Table (v : S_impl_Table) : Nat := wt_Limpl_Column v.Columns + (wt_LLimpl_Value v.Rows)
theorem wc_laws_Table {v : S_laws_Table} : wt_impl_Table (cv_laws_Table v) = wt_laws_Table v := by
  unfold wt_impl_Table cv_laws_Table wt_laws_Table
  simp only [wc_Llaws_Column, wc_LLlaws_Value]
def cv_Llaws_Table (l : (List S_laws_Table)) : (List S_impl_Table) := l.map cv_laws_Table
theorem to_Llaws_Table {a : (List S_laws_Table)} (h : wt_Llaws_Table a ≤ 100000000) : m_laws_toTableS a = some (cv_Llaws_Table a) := by
  have hl : a.length ≤ 100000000 := by have := wt_Llaws_Table_len (l := a); omega
  unfold m_laws_toTableS cv_Llaws_Table
  refine toLoop0 cv_laws_Table a _ (fun f k o => m_laws_toTableS_l1 f a k o) (fun f k o x hx hk ho => ?_) (fun f o => by rw [m_laws_toTableS_l1, dnlt]; rfl) (by omega)
  have hy := at_some (l := o) (k := k) (by have := lt_of_at hx; omega)
  rw [m_laws_toTableS_l1, dlt (lt_of_at hx), cond_true, at_of hx, Option.bind_some, to_laws_Table (by have := wt_Llaws_Table_mem (List.mem_of_getElem? hx); omega), Option.bind_some, hy, Option.bind_some, Option.bind_some, ltE, ck1 (by omega), Option.bind_some, Int.toNat_natCast]
  rfl
def wt_Limpl_Table (l : (List S_impl_Table)) : Nat := l.length + (l.map fun x => wt_impl_Table x).sum
theorem wt_Limpl_Table_len {l : (List S_impl_Table)} : l.length ≤ wt_Limpl_Table l := by unfold wt_Limpl_Table; omega
theorem wt_Limpl_Table_mem {l : (List S_impl_Table)} {x : S_impl_Table} (h : x ∈ l) : wt_impl_Table x ≤ wt_Limpl_Table l := by have := sum_mem (wt := fun x : S_impl_Table => wt_impl_Table x) h; unfold wt_Limpl_Table; omega
theorem wc_Llaws_Table {l : (List S_laws_Table)} : wt_Limpl_Table (cv_Llaws_Table l) = wt_Llaws_Table l := by
  unfold wt_Limpl_Table cv_Llaws_Table wt_Llaws_Table
  rw [List.length_map, List.map_map]
  first | done | (congr 2; exact List.map_congr_left fun x _ => wc_laws_Table) | rfl
def cv_Lint (l : (List Int)) : (List Int) := l
theorem to_Lint {a : (List Int)} (h : wt_Lint a ≤ 100000000) : m_laws_toIntS a = some (cv_Lint a) := by
  have hl : a.length ≤ 100000000 := by have := wt_Lint_len (l := a); omega
  unfold m_laws_toIntS cv_Lint
  conv => rhs; rw [← List.map_id a]
  refine toLoop0 id a _ (fun f k o => m_laws_toIntS_l1 f a k o) (fun f k o x hx hk ho => ?_) (fun f o => by rw [m_laws_toIntS_l1, dnlt]; rfl) (by omega)
  have hy := at_some (l := o) (k := k) (by have := lt_of_at hx; omega)
  rw [m_laws_toIntS_l1, dlt (lt_of_at hx), cond_true, at_of hx, Option.bind_some, hy, Option.bind_some, Option.bind_some, ltE, ck1 (by omega), Option.bind_some, Int.toNat_natCast]
  rfl
def cv_laws_Part (v : S_laws_Part) : S_impl_Part := ⟨v.Kind, v.N, cv_laws_Value v.V⟩
theorem to_laws_Part {a : S_laws_Part} (h : wt_laws_Part a ≤ 100000000) : m_laws_toPart a = some (cv_laws_Part a) := by
  unfold wt_laws_Part at h
  unfold m_laws_toPart cv_laws_Part
  try simp only [ltE]
  rw [to_laws_Value (by omega), Option.bind_some]
  all_goals rfl
def wt_impl_Part (v : S_impl_Part) : Nat := wt_impl_Value v.V
theorem wc_laws_Part {v : S_laws_Part} : wt_impl_Part (cv_laws_Part v) = wt_laws_Part v := by
  unfold wt_impl_Part cv_laws_Part wt_laws_Part
  simp only [wc_laws_Value]
def cv_Llaws_Part (l : (List S_laws_Part)) : (List S_impl_Part) := l.map cv_laws_Part
theorem to_Llaws_Part {a : (List S_laws_Part)} (h : wt_Llaws_Part a ≤ 100000000) : m_laws_toPartS a = some (cv_Llaws_Part a) := by
  have hl : a.length ≤ 100000000 := by have := wt_Llaws_Part_len (l := a); omega
  unfold m_laws_toPartS cv_Llaws_Part
  refine toLoop0 cv_laws_Part a _ (fun f k o => m_laws_toPartS_l1 f a k o) (fun f k o x hx hk ho => ?_) (fun f o => by rw [m_laws_toPartS_l1, dnlt]; rfl) (by omega)
  have hy := at_some (l := o) (k := k) (by have := lt_of_at hx; omega)
  rw [m_laws_toPartS_l1, dlt (lt_of_at hx), cond_true, at_of hx, Option.bind_some, to_laws_Part (by have := wt_Llaws_Part_mem (List.mem_of_getElem? hx); omega), Option.bind_some, hy, Option.bind_some, Option.bind_some, ltE, ck1 (by omega), Option.bind_some, Int.toNat_natCast]
  rfl
def wt_Limpl_Part (l : (List S_impl_Part)) : Nat := l.length + (l.map fun x => wt_impl_Part x).sum
theorem wt_Limpl_Part_len {l : (List S_impl_Part)} : l.length ≤ wt_Limpl_Part l := by unfold wt_Limpl_Part; omega
theorem wt_Limpl_Part_mem {l : (List S_impl_Part)} {x : S_impl_Part} (h : x ∈ l) : wt_impl_Part x ≤ wt_Limpl_Part l := by have := sum_mem (wt := fun x : S_impl_Part => wt_impl_Part x) h; unfold wt_Limpl_Part; omega
theorem wc_Llaws_Part {l : (List S_laws_Part)} : wt_Limpl_Part (cv_Llaws_Part l) = wt_Llaws_Part l := by
  unfold wt_Limpl_Part cv_Llaws_Part wt_Llaws_Part
  rw [List.length_map, List.map_map]
  first | done | (congr 2; exact List.map_congr_left fun x _ => wc_laws_Part) | rfl
def cv_laws_Bond (v : S_laws_Bond) : S_impl_Bond := ⟨v.Kind, v.In, cv_Lint v.f_List, v.Of, cv_Lint v.To, v.Follow, cv_Llaws_Part v.E⟩
theorem to_laws_Bond {a : S_laws_Bond} (h : wt_laws_Bond a ≤ 100000000) : m_laws_toBond a = some (cv_laws_Bond a) := by
  unfold wt_laws_Bond at h
  unfold m_laws_toBond cv_laws_Bond
  try simp only [ltE]
  rw [to_Lint (by omega), Option.bind_some]
  try simp only [ltE]
  rw [to_Lint (by omega), Option.bind_some]
  try simp only [ltE]
  rw [to_Llaws_Part (by omega), Option.bind_some]
  all_goals rfl
def wt_impl_Bond (v : S_impl_Bond) : Nat := wt_Lint v.f_List + (wt_Lint v.To + (wt_Limpl_Part v.E))
theorem wc_laws_Bond {v : S_laws_Bond} : wt_impl_Bond (cv_laws_Bond v) = wt_laws_Bond v := by
  unfold wt_impl_Bond cv_laws_Bond wt_laws_Bond
  simp only [wc_Llaws_Part, cv_Lint]
theorem eq_impl_Column {a b : S_impl_Column} : m_laws_eqColumn a b = some (decide (a = b)) := by
  unfold m_laws_eqColumn
  rw [bneD]
  by_cases g0 : a.Kind = b.Kind
  case neg => rw [decide_eq_false g0, Bool.not_false, cond_true, decide_eq_false (fun e => g0 (by rw [e]))]
  rw [decide_eq_true g0, Bool.not_true, cond_false]
  rw [bneB]
  by_cases g1 : a.Empty = b.Empty
  case neg => rw [decide_eq_false g1, Bool.not_false, cond_true, decide_eq_false (fun e => g1 (by rw [e]))]
  rw [decide_eq_true g1, Bool.not_true, cond_false]
  rw [decide_eq_true (show a = b by cases a; cases b; simp only at g0 g1; subst g0 g1; rfl)]
theorem eq_Limpl_Column {a b : (List S_impl_Column)} (h : wt_Limpl_Column a ≤ 100000000) : m_laws_eqColumnS a b = some (decide (a = b)) := by
  have hl : a.length ≤ 100000000 := by have := wt_Limpl_Column_len (l := a); omega
  unfold m_laws_eqColumnS
  refine eqLoop a b (fun f k => m_laws_eqColumnS_l1 f a b k) (fun f k x y hx hy hk => ?_) (fun f => by rw [m_laws_eqColumnS_l1, dnlt]; rfl) (by omega)
  rw [m_laws_eqColumnS_l1, dlt (lt_of_at hx), cond_true, at_of hx, Option.bind_some, at_of hy, Option.bind_some, eq_impl_Column, Option.bind_some, ck1 (by omega), Option.bind_some]
  rfl
theorem eq_impl_Value {a b : S_impl_Value} (h : wt_impl_Value a ≤ 100000000) : m_laws_eqValue a b = some (decide (a = b)) := by
  unfold wt_impl_Value at h
  unfold m_laws_eqValue
  rw [bneD]
  by_cases g0 : a.Kind = b.Kind
  case neg => rw [decide_eq_false g0, Bool.not_false, cond_true, decide_eq_false (fun e => g0 (by rw [e]))]
  rw [decide_eq_true g0, Bool.not_true, cond_false]
  rw [bneD]
  by_cases g1 : a.N = b.N
  case neg => rw [decide_eq_false g1, Bool.not_false, cond_true, decide_eq_false (fun e => g1 (by rw [e]))]
  rw [decide_eq_true g1, Bool.not_true, cond_false]
  rw [sEq_eq]
  by_cases g2 : a.S = b.S
  case neg => rw [decide_eq_false g2, Bool.not_false, cond_true, decide_eq_false (fun e => g2 (by rw [e]))]
  rw [decide_eq_true g2, Bool.not_true, cond_false]
  rw [decide_eq_true (show a = b by cases a; cases b; simp only at g0 g1 g2; subst g0 g1 g2; rfl)]
theorem eq_Limpl_Value {a b : (List S_impl_Value)} (h : wt_Limpl_Value a ≤ 100000000) : m_laws_eqValueS a b = some (decide (a = b)) := by
  have hl : a.length ≤ 100000000 := by have := wt_Limpl_Value_len (l := a); omega
  unfold m_laws_eqValueS
  refine eqLoop a b (fun f k => m_laws_eqValueS_l1 f a b k) (fun f k x y hx hy hk => ?_) (fun f => by rw [m_laws_eqValueS_l1, dnlt]; rfl) (by omega)
  rw [m_laws_eqValueS_l1, dlt (lt_of_at hx), cond_true, at_of hx, Option.bind_some, at_of hy, Option.bind_some, eq_impl_Value (by have := wt_Limpl_Value_mem (List.mem_of_getElem? hx); omega), Option.bind_some, ck1 (by omega), Option.bind_some]
  rfl
theorem eq_LLimpl_Value {a b : (List (List S_impl_Value))} (h : wt_LLimpl_Value a ≤ 100000000) : m_laws_eqValueSS a b = some (decide (a = b)) := by
  have hl : a.length ≤ 100000000 := by have := wt_LLimpl_Value_len (l := a); omega
  unfold m_laws_eqValueSS
  refine eqLoop a b (fun f k => m_laws_eqValueSS_l1 f a b k) (fun f k x y hx hy hk => ?_) (fun f => by rw [m_laws_eqValueSS_l1, dnlt]; rfl) (by omega)
  rw [m_laws_eqValueSS_l1, dlt (lt_of_at hx), cond_true, at_of hx, Option.bind_some, at_of hy, Option.bind_some, eq_Limpl_Value (by have := wt_LLimpl_Value_mem (List.mem_of_getElem? hx); omega), Option.bind_some, ck1 (by omega), Option.bind_some]
  rfl
theorem eq_impl_Table {a b : S_impl_Table} (h : wt_impl_Table a ≤ 100000000) : m_laws_eqTable a b = some (decide (a = b)) := by
  unfold wt_impl_Table at h
  unfold m_laws_eqTable
  rw [eq_Limpl_Column (by omega), Option.bind_some]
  by_cases g0 : a.Columns = b.Columns
  case neg => rw [decide_eq_false g0, Bool.not_false, cond_true, decide_eq_false (fun e => g0 (by rw [e]))]
  rw [decide_eq_true g0, Bool.not_true, cond_false]
  rw [eq_LLimpl_Value (by omega), Option.bind_some]
  by_cases g1 : a.Rows = b.Rows
  case neg => rw [decide_eq_false g1, Bool.not_false, cond_true, decide_eq_false (fun e => g1 (by rw [e]))]
  rw [decide_eq_true g1, Bool.not_true, cond_false]
  rw [decide_eq_true (show a = b by cases a; cases b; simp only at g0 g1; subst g0 g1; rfl)]
theorem eq_Limpl_Table {a b : (List S_impl_Table)} (h : wt_Limpl_Table a ≤ 100000000) : m_laws_eqTableS a b = some (decide (a = b)) := by
  have hl : a.length ≤ 100000000 := by have := wt_Limpl_Table_len (l := a); omega
  unfold m_laws_eqTableS
  refine eqLoop a b (fun f k => m_laws_eqTableS_l1 f a b k) (fun f k x y hx hy hk => ?_) (fun f => by rw [m_laws_eqTableS_l1, dnlt]; rfl) (by omega)
  rw [m_laws_eqTableS_l1, dlt (lt_of_at hx), cond_true, at_of hx, Option.bind_some, at_of hy, Option.bind_some, eq_impl_Table (by have := wt_Limpl_Table_mem (List.mem_of_getElem? hx); omega), Option.bind_some, ck1 (by omega), Option.bind_some]
  rfl
theorem eq_Lint {a b : (List Int)} (h : wt_Lint a ≤ 100000000) : m_laws_eqIntS a b = some (decide (a = b)) := by
  have hl : a.length ≤ 100000000 := by have := wt_Lint_len (l := a); omega
  unfold m_laws_eqIntS
  refine eqLoop a b (fun f k => m_laws_eqIntS_l1 f a b k) (fun f k x y hx hy hk => ?_) (fun f => by rw [m_laws_eqIntS_l1, dnlt]; rfl) (by omega)
  rw [m_laws_eqIntS_l1, dlt (lt_of_at hx), cond_true, at_of hx, Option.bind_some, at_of hy, Option.bind_some, bneD, ck1 (by omega), Option.bind_some]
  rfl
theorem eq_impl_Part {a b : S_impl_Part} (h : wt_impl_Part a ≤ 100000000) : m_laws_eqPart a b = some (decide (a = b)) := by
  unfold wt_impl_Part at h
  unfold m_laws_eqPart
  rw [bneD]
  by_cases g0 : a.Kind = b.Kind
  case neg => rw [decide_eq_false g0, Bool.not_false, cond_true, decide_eq_false (fun e => g0 (by rw [e]))]
  rw [decide_eq_true g0, Bool.not_true, cond_false]
  rw [bneD]
  by_cases g1 : a.N = b.N
  case neg => rw [decide_eq_false g1, Bool.not_false, cond_true, decide_eq_false (fun e => g1 (by rw [e]))]
  rw [decide_eq_true g1, Bool.not_true, cond_false]
  rw [eq_impl_Value (by omega), Option.bind_some]
  by_cases g2 : a.V = b.V
  case neg => rw [decide_eq_false g2, Bool.not_false, cond_true, decide_eq_false (fun e => g2 (by rw [e]))]
  rw [decide_eq_true g2, Bool.not_true, cond_false]
  rw [decide_eq_true (show a = b by cases a; cases b; simp only at g0 g1 g2; subst g0 g1 g2; rfl)]
theorem eq_Limpl_Part {a b : (List S_impl_Part)} (h : wt_Limpl_Part a ≤ 100000000) : m_laws_eqPartS a b = some (decide (a = b)) := by
  have hl : a.length ≤ 100000000 := by have := wt_Limpl_Part_len (l := a); omega
  unfold m_laws_eqPartS
  refine eqLoop a b (fun f k => m_laws_eqPartS_l1 f a b k) (fun f k x y hx hy hk => ?_) (fun f => by rw [m_laws_eqPartS_l1, dnlt]; rfl) (by omega)
  rw [m_laws_eqPartS_l1, dlt (lt_of_at hx), cond_true, at_of hx, Option.bind_some, at_of hy, Option.bind_some, eq_impl_Part (by have := wt_Limpl_Part_mem (List.mem_of_getElem? hx); omega), Option.bind_some, ck1 (by omega), Option.bind_some]
  rfl
theorem eq_impl_Bond {a b : S_impl_Bond} (h : wt_impl_Bond a ≤ 100000000) : m_laws_eqBond a b = some (decide (a = b)) := by
  unfold wt_impl_Bond at h
  unfold m_laws_eqBond
  rw [bneD]
  by_cases g0 : a.Kind = b.Kind
  case neg => rw [decide_eq_false g0, Bool.not_false, cond_true, decide_eq_false (fun e => g0 (by rw [e]))]
  rw [decide_eq_true g0, Bool.not_true, cond_false]
  rw [bneD]
  by_cases g1 : a.In = b.In
  case neg => rw [decide_eq_false g1, Bool.not_false, cond_true, decide_eq_false (fun e => g1 (by rw [e]))]
  rw [decide_eq_true g1, Bool.not_true, cond_false]
  rw [eq_Lint (by omega), Option.bind_some]
  by_cases g2 : a.f_List = b.f_List
  case neg => rw [decide_eq_false g2, Bool.not_false, cond_true, decide_eq_false (fun e => g2 (by rw [e]))]
  rw [decide_eq_true g2, Bool.not_true, cond_false]
  rw [bneD]
  by_cases g3 : a.Of = b.Of
  case neg => rw [decide_eq_false g3, Bool.not_false, cond_true, decide_eq_false (fun e => g3 (by rw [e]))]
  rw [decide_eq_true g3, Bool.not_true, cond_false]
  rw [eq_Lint (by omega), Option.bind_some]
  by_cases g4 : a.To = b.To
  case neg => rw [decide_eq_false g4, Bool.not_false, cond_true, decide_eq_false (fun e => g4 (by rw [e]))]
  rw [decide_eq_true g4, Bool.not_true, cond_false]
  rw [bneB]
  by_cases g5 : a.Follow = b.Follow
  case neg => rw [decide_eq_false g5, Bool.not_false, cond_true, decide_eq_false (fun e => g5 (by rw [e]))]
  rw [decide_eq_true g5, Bool.not_true, cond_false]
  rw [eq_Limpl_Part (by omega), Option.bind_some]
  by_cases g6 : a.E = b.E
  case neg => rw [decide_eq_false g6, Bool.not_false, cond_true, decide_eq_false (fun e => g6 (by rw [e]))]
  rw [decide_eq_true g6, Bool.not_true, cond_false]
  rw [decide_eq_true (show a = b by cases a; cases b; simp only at g0 g1 g2 g3 g4 g5 g6; subst g0 g1 g2 g3 g4 g5 g6; rfl)]
abbrev Col := S_impl_Column
def colOk (c : Col) : Bool := decide (1 ≤ c.Kind) && decide (c.Kind ≤ 3)
def colsOk (cs : List Col) : Bool := decide (cs.length ≤ 4) && cs.all colOk
def vFit (v : V) (c : Col) : Bool := decide (v.Kind = c.Kind) || (decide (v.Kind = 0) && c.Empty)
def rowFits (cs : List Col) (r : Row) : Bool := colsOk cs && (rowOk r && (decide (r.length = cs.length) && all2 vFit r cs))
def rowsOk (cs : List Col) (rs : Rows) : Bool := colsOk cs && rs.all (rowFits cs)
theorem lenD (n m : Nat) : decide ((n : Int) ≤ (m : Int)) = decide (n ≤ m) := by rw [decide_eq_decide]; omega
theorem E_impl_ColumnsOk {cs : List Col} (h : cs.length ≤ 3000000) : m_impl_ColumnsOk cs = some (colsOk cs) := by
  unfold m_impl_ColumnsOk m_impl_ColumnsOk_j1 colsOk
  rw [L_slices_ContainsFunc_Limpl_Column_impl_Column (q := fun c => !(colOk c)) h (fun c _ => by unfold m_impl_ColumnsOk_1; rw [E_between]; rfl), Option.bind_some,
    show (4 : Int) = ((4 : Nat) : Int) from rfl, lenD, List.all_eq_not_any_not]
  cases decide (cs.length ≤ 4) <;> rfl
theorem E_spec_ColumnsOk {cs : List Col} (h : cs.length ≤ 3000000) : m_spec_ColumnsOk cs = some (colsOk cs) := by
  unfold m_spec_ColumnsOk colsOk
  rw [scanA (p := fun c => !(colOk c)) (r0 := false) (r1 := decide ((cs.length : Int) ≤ 4)) cs (fun n k => m_spec_ColumnsOk_l1 n cs k) (fun n k x hx => by
    have := lt_of_at hx
    rw [m_spec_ColumnsOk_l1, dlt this, cond_true]
    simp only [at_of hx, E_l1In, Option.bind_some, ck1 (show k < 1000000000000 by omega)]
    rfl) (fun n => by rw [m_spec_ColumnsOk_l1, dnlt]; rfl) _ fuel0, List.all_eq_not_any_not, show (4 : Int) = ((4 : Nat) : Int) from rfl, lenD]
  cases cs.any fun c => !(colOk c) <;> simp
theorem E_impl_RowFits {cs : List Col} {r : Row} (h : cs.length ≤ 3000000) (hr : rSm r) : m_impl_RowFits cs r = some (rowFits cs r) := by
  unfold m_impl_RowFits rowFits
  rw [E_impl_ColumnsOk h, Option.bind_some]
  cases colsOk cs
  · rfl
  rw [Bool.not_true, cond_false, E_impl_RowOk hr, Option.bind_some]
  cases rowOk r
  · rfl
  rw [Bool.not_true, cond_false]
  unfold m_impl_RowFits_j1
  rw [neN]
  by_cases hl : r.length = cs.length
  · rw [decide_eq_true hl, Bool.not_true, cond_false]
    simp only [Bool.true_and]
    exact scan2 (q := vFit) r cs hl (fun n k => m_impl_RowFits_l1 n cs r (r.length : Int) k) (fun n k x y hx hy => by
      have := lt_of_at hx
      have hrl := hr.1
      rw [m_impl_RowFits_l1, dlt this, cond_true]
      simp only [at_of hx, at_of hy, Option.bind_some, Go.Lift.lt]
      unfold m_impl_RowFits_j2
      rw [ck1 (show k < 1000000000000 by omega), Option.bind_some]
      unfold vFit
      rw [neB, neB]
      cases decide (x.Kind = y.Kind) <;> cases decide (x.Kind = 0) <;> cases y.Empty <;> rfl) (fun n => by rw [m_impl_RowFits_l1, dnlt]; rfl) _ fuel0
  · rw [decide_eq_false hl]; rfl
theorem E_spec_RowFits {cs : List Col} {r : Row} (h : cs.length ≤ 3000000) (hr : rSm r) : m_spec_RowFits cs r = some (rowFits cs r) := by
  unfold m_spec_RowFits rowFits
  rw [E_spec_ColumnsOk h, Option.bind_some]
  cases colsOk cs
  · rfl
  rw [Bool.not_true, cond_false, E_spec_RowOk hr, Option.bind_some]
  cases rowOk r
  · rfl
  rw [Bool.not_true, cond_false]
  unfold m_spec_RowFits_j1
  rw [neN]
  by_cases hl : r.length = cs.length
  · rw [decide_eq_true hl, Bool.not_true, cond_false]
    simp only [Bool.true_and]
    exact scan2 (q := vFit) r cs hl (fun n k => m_spec_RowFits_l1 n cs r k) (fun n k x y hx hy => by
      have := lt_of_at hx
      have hrl := hr.1
      rw [m_spec_RowFits_l1, dlt this, cond_true]
      simp only [at_of hx, at_of hy, Option.bind_some]
      unfold m_spec_RowFits_j2
      rw [ck1 (show k < 1000000000000 by omega), Option.bind_some]
      unfold vFit
      rw [neB, neB]
      cases decide (x.Kind = y.Kind) <;> cases decide (x.Kind = 0) <;> cases y.Empty <;> rfl) (fun n => by rw [m_spec_RowFits_l1, dnlt]; rfl) _ fuel0
  · rw [decide_eq_false hl]; rfl
theorem E_impl_RowsOk {cs : List Col} {rs : Rows} (h : cs.length ≤ 3000000) (hr : rsSm rs) : m_impl_RowsOk cs rs = some (rowsOk cs rs) := by
  unfold m_impl_RowsOk m_impl_RowsOk_j1 rowsOk
  obtain ⟨h1, h2⟩ := hr
  rw [E_impl_ColumnsOk h, Option.bind_some, L_slices_ContainsFunc_LLimpl_Value_Limpl_Value (q := fun r => !(rowFits cs r)) (by omega) (fun r hr => by unfold m_impl_RowsOk_1; rw [E_impl_RowFits h (h2 r hr)]; rfl), Option.bind_some, List.all_eq_not_any_not]
  cases colsOk cs <;> rfl
theorem E_spec_RowsOk {cs : List Col} {rs : Rows} (h : cs.length ≤ 3000000) (hr : rsSm rs) : m_spec_RowsOk cs rs = some (rowsOk cs rs) := by
  unfold m_spec_RowsOk rowsOk
  obtain ⟨h1, h2⟩ := hr
  rw [scanA (p := fun r => !(rowFits cs r)) (r0 := false) (r1 := colsOk cs) rs (fun n k => m_spec_RowsOk_l1 n cs rs k) (fun n k x hx => by
    have := lt_of_at hx
    rw [m_spec_RowsOk_l1, dlt this, cond_true]
    simp only [at_of hx, E_spec_RowFits h (h2 x (List.mem_of_getElem? hx)), Option.bind_some, ck1 (show k < 1000000000000 by omega)]) (fun n => by
    rw [m_spec_RowsOk_l1, dnlt, cond_false]
    unfold m_spec_RowsOk_j1
    rw [E_spec_ColumnsOk h]; rfl) _ fuel0, List.all_eq_not_any_not]
  cases rs.any fun r => !(rowFits cs r) <;> cases colsOk cs <;> rfl
def v0 : V := ⟨0, 0, ⟨#[]⟩⟩
abbrev Pt := S_impl_Part
def tells (cs : List Col) (p : Pt) : Bool :=
  if p.Kind = 1 then decide (p.N = 0) && (vOk p.V && !decide (p.V.Kind = 0))
  else if p.Kind = 2 then (decide (0 ≤ p.N) && decide (p.N ≤ (cs.length : Int) - 1)) && decide (p.V = v0)
  else if p.Kind = 4 then (decide (1 ≤ p.N) && decide (p.N ≤ 4)) && decide (p.V = v0)
  else if p.Kind = 3 ∨ p.Kind = 5 ∨ p.Kind = 6 ∨ p.Kind = 7 ∨ p.Kind = 8 then decide (p.N = 0) && decide (p.V = v0)
  else false
def takesN (p : Pt) : Nat := if p.Kind = 3 ∨ p.Kind = 4 ∨ p.Kind = 5 ∨ p.Kind = 6 then 2 else if p.Kind = 7 ∨ p.Kind = 8 then 1 else 0
def kindOf (cs : List Col) (p : Pt) (ins : List Int) : Int × Bool :=
  if p.Kind = 1 then (p.V.Kind, true)
  else if p.Kind = 2 then ((cs.getD p.N.toNat ⟨0, false⟩).Kind, true)
  else if p.Kind = 3 then (1, ins.all fun k => decide (k = 1))
  else if p.Kind = 4 then (3, decide (ins.getD 0 0 = ins.getD 1 0))
  else if p.Kind = 8 then (3, true)
  else (3, ins.all fun k => decide (k = 3))
def kStep (cs : List Col) (st : List Int) (p : Pt) : Option (List Int) :=
  if tells cs p = true ∧ takesN p ≤ st.length ∧ (kindOf cs p (st.drop (st.length - takesN p))).2 = true then some (st.take (st.length - takesN p) ++ [(kindOf cs p (st.drop (st.length - takesN p))).1]) else none
def kGo (cs : List Col) : List Pt → List Int → Option (List Int)
  | [], st => some st
  | p :: ps, st => (kStep cs st p).bind (kGo cs ps)
def fin1 : Option (List Int) → Int
  | some [k] => k
  | _ => -1
def exprKind (cs : List Col) (e : List Pt) : Int := if colsOk cs = true ∧ e.length ≤ 12 then fin1 (kGo cs e []) else -1
theorem beqE {a b : Int} (h : a = b) : (a == b) = true := by simp [h]
theorem at0' {α : Type} {l : List α} {x : α} (h : l[0]? = some x) : at? l 0 = some x := at_of (k := 0) h
theorem at1' {α : Type} {l : List α} {x : α} (h : l[1]? = some x) : at? l 1 = some x := at_of (k := 1) h
theorem ltE' {α β : Type} (x : α) (f : α → β) : lt x f = f x := rfl
theorem E_takes (p : Pt) : m_impl_Part_takes p = some (takesN p : Int) := by
  unfold m_impl_Part_takes m_impl_Part_takes_j1 m_impl_Part_takes_j2 takesN
  by_cases h3 : p.Kind = 3
  · rw [beqE h3, cond_true, cond_true, if_pos (.inl h3)]; rfl
  · by_cases h4 : p.Kind = 4
    · rw [beqF h3, cond_false, beqE h4, cond_true, cond_true, if_pos (.inr (.inl h4))]; rfl
    · by_cases h5 : p.Kind = 5
      · rw [beqF h3, cond_false, beqF h4, cond_false, beqE h5, cond_true, cond_true, if_pos (.inr (.inr (.inl h5)))]; rfl
      · by_cases h6 : p.Kind = 6
        · rw [beqF h3, cond_false, beqF h4, cond_false, beqF h5, cond_false, beqE h6, cond_true, if_pos (.inr (.inr (.inr h6)))]; rfl
        · rw [beqF h3, cond_false, beqF h4, cond_false, beqF h5, cond_false, beqF h6, cond_false, if_neg (by simp [h3, h4, h5, h6])]
          by_cases h7 : p.Kind = 7
          · rw [beqE h7, cond_true, cond_true, if_pos (.inl h7)]; rfl
          · by_cases h8 : p.Kind = 8
            · rw [beqF h7, cond_false, beqE h8, cond_true, if_pos (.inr h8)]; rfl
            · rw [beqF h7, cond_false, beqF h8, cond_false, if_neg (by simp [h7, h8])]; rfl
theorem bif_f {b : Bool} {x : Bool} : (bif b then some x else some false) = some (b && x) := by cases b <;> rfl
theorem beqD {a b : Int} : (a == b) = decide (a = b) := by by_cases h : a = b <;> simp [h]
theorem E_tells {cs : List Col} {p : Pt} (hc : cs.length ≤ 3000000) (hv : p.V.S.size ≤ 3000000) : m_impl_Part_tells p cs = some (tells cs p) := by
  unfold m_impl_Part_tells m_impl_Part_tells_j1 m_impl_Part_tells_j2 m_impl_Part_tells_j3 m_impl_Part_tells_j4 m_impl_Part_tells_j5 tells
  by_cases h1 : p.Kind = 1
  · rw [beqE h1, cond_true, if_pos h1, E_Value_ok hv, Option.bind_some, bif_f, bif_f, beqD]
    rw [show (p.V.Kind != 0) = !decide (p.V.Kind = 0) by by_cases h : p.V.Kind = 0 <;> simp [h]]
  · rw [beqF h1, cond_false, if_neg h1]
    by_cases h2 : p.Kind = 2
    · rw [beqE h2, cond_true, if_pos h2, ckI_of (by omega) (by omega), Option.bind_some, E_between, Option.bind_some, bif_f]; rfl
    · rw [beqF h2, cond_false, if_neg h2]
      by_cases h4 : p.Kind = 4
      · rw [beqE h4, cond_true, if_pos h4, E_between, Option.bind_some, bif_f]; rfl
      · rw [beqF h4, cond_false, if_neg h4]
        have fin : ∀ b : Bool, (bif b then (bif p.N == 0 then some (decide (p.V = ⟨0, 0, ⟨#[]⟩⟩)) else some false) else some false) = some (b && (decide (p.N = 0) && decide (p.V = v0))) := fun b => by rw [bif_f, bif_f, beqD]; rfl
        by_cases h3 : p.Kind = 3
        · rw [beqE h3, cond_true, fin, if_pos (.inl h3), Bool.true_and]
        · by_cases h5 : p.Kind = 5
          · rw [beqF h3, cond_false, beqE h5, cond_true, fin, if_pos (.inr (.inl h5)), Bool.true_and]
          · by_cases h6 : p.Kind = 6
            · rw [beqF h3, cond_false, beqF h5, cond_false, beqE h6, cond_true, fin, if_pos (.inr (.inr (.inl h6))), Bool.true_and]
            · by_cases h7 : p.Kind = 7
              · rw [beqF h3, cond_false, beqF h5, cond_false, beqF h6, cond_false, beqE h7, cond_true, fin, if_pos (.inr (.inr (.inr (.inl h7)))), Bool.true_and]
              · rw [beqF h3, cond_false, beqF h5, cond_false, beqF h6, cond_false, beqF h7, cond_false, fin]
                by_cases h8 : p.Kind = 8
                · rw [beqE h8, if_pos (.inr (.inr (.inr (.inr h8)))), Bool.true_and]
                · rw [beqF h8, if_neg (by simp [h3, h5, h6, h7, h8]), Bool.false_and]
theorem E_all {n : Int} {ins : List Int} (h : ins.length ≤ 3000000) : m_impl_Part_kind_1 n ins = some (ins.all fun k => decide (k = n)) := by
  unfold m_impl_Part_kind_1
  rw [L_slices_ContainsFunc_Lint_int (q := fun k => !decide (k = n)) h (fun k _ => by
    unfold m_impl_Part_kind_1_1
    by_cases e : k = n <;> simp [e]), Option.bind_some]
  congr 1
  induction ins with
  | nil => rfl
  | cons a l ih => simp only [List.any_cons, List.all_cons, Bool.not_or, Bool.not_not]; rw [← ih (by simp at h; omega)]
theorem tells_2 {cs : List Col} {p : Pt} (h : tells cs p = true) (h2 : p.Kind = 2) : 0 ≤ p.N ∧ p.N ≤ (cs.length : Int) - 1 := by
  unfold tells at h
  rw [if_neg (by omega), if_pos h2] at h
  simp at h; exact ⟨h.1.1, by omega⟩
theorem takes_le (p : Pt) : takesN p ≤ 2 := by
  unfold takesN
  split
  · exact Nat.le_refl _
  · split
    · exact Nat.le_succ _
    · exact Nat.zero_le _
theorem E_kind {cs : List Col} {p : Pt} {ins : List Int} (ht : tells cs p = true) (hl : ins.length = takesN p) : m_impl_Part_kind p cs ins = some (kindOf cs p ins) := by
  unfold m_impl_Part_kind kindOf
  have hs : ins.length ≤ 3000000 := by have := takes_le p; omega
  by_cases h1 : p.Kind = 1
  · rw [beqE h1, cond_true, if_pos h1]
  · rw [beqF h1, cond_false, if_neg h1]
    by_cases h2 : p.Kind = 2
    · obtain ⟨a, b⟩ := tells_2 ht h2
      have hn : p.N.toNat < cs.length := by omega
      have hx : cs[p.N.toNat]? = some cs[p.N.toNat] := List.getElem?_eq_getElem hn
      have hat : at? cs p.N = some cs[p.N.toNat] := by
        have := at_of hx
        rwa [Int.toNat_of_nonneg a] at this
      rw [beqE h2, cond_true, if_pos h2, hat, Option.bind_some, List.getD_eq_getElem?_getD, hx]; rfl
    · rw [beqF h2, cond_false, if_neg h2]
      by_cases h3 : p.Kind = 3
      · rw [beqE h3, cond_true, if_pos h3, E_all hs, Option.bind_some]
      · rw [beqF h3, cond_false, if_neg h3]
        by_cases h4 : p.Kind = 4
        · have hl2 : ins.length = 2 := by rw [hl]; unfold takesN; rw [if_pos (.inr (.inl h4))]
          match ins, hl2 with
          | [a, b], _ =>
            rw [beqE h4, cond_true, if_pos h4, at0' (show [a, b][0]? = some a from rfl), Option.bind_some, at1' (show [a, b][1]? = some b from rfl), Option.bind_some, beqD]; rfl
        · rw [beqF h4, cond_false, if_neg h4]
          by_cases h8 : p.Kind = 8
          · rw [beqE h8, cond_true, if_pos h8]
          · rw [beqF h8, cond_false, if_neg h8, E_all hs, Option.bind_some]
theorem kGo_c (cs : List Col) (p : Pt) (ps : List Pt) (st : List Int) : kGo cs (p :: ps) st = (kStep cs st p).bind (kGo cs ps) := rfl
theorem impl_k_loop {cs : List Col} {e : List Pt} (hc : cs.length ≤ 3000000) (he : e.length ≤ 1000) (hv : ∀ p ∈ e, p.V.S.size ≤ 3000000) : ∀ (n k f : Nat) (st : List Int), k + n = e.length → st.length ≤ k → n < f → m_impl_ExprKind_l1 f cs e (e.length : Int) (k : Int) st = some (fin1 (kGo cs (e.drop k) st)) := by
  intro n
  induction n with
  | zero =>
    intro k f st hk hs hf
    obtain ⟨f, rfl⟩ : ∃ q, f = q + 1 := ⟨f - 1, by omega⟩
    obtain rfl : k = e.length := by omega
    rw [m_impl_ExprKind_l1, dnlt, cond_false, List.drop_length]
    unfold m_impl_ExprKind_j3
    show _ = some (fin1 (some st))
    match st with
    | [] => rfl
    | [a] => rfl
    | a :: b :: r => rw [beqF' (by simp only [List.length_cons]; omega), cond_true]; rfl
  | succ n ih =>
    intro k f st hk hs hf
    obtain ⟨f, rfl⟩ : ∃ q, f = q + 1 := ⟨f - 1, by omega⟩
    have hx : e[k]? = some e[k] := List.getElem?_eq_getElem (by omega)
    have hd : e.drop k = e[k] :: e.drop (k + 1) := List.drop_eq_getElem_cons (by omega)
    generalize hp : e[k] = p at *
    have hvp := hv p (List.mem_of_getElem? hx)
    have htk := takes_le p
    rw [m_impl_ExprKind_l1, dlt (by omega), cond_true, at_of hx, Option.bind_some, ltE', E_takes, Option.bind_some, E_tells hc hvp, Option.bind_some, hd, kGo_c]
    have stop : ∀ (K : List Col → List Pt → Int → Int → List Int → Option Int) (t : Int), m_impl_ExprKind_j2 K cs t e (e.length : Int) (k : Int) true p st = some (-1) := fun K t => by unfold m_impl_ExprKind_j2; rw [cond_true]
    cases ht : tells cs p with
    | false =>
      rw [Bool.not_false, cond_true, stop]
      unfold kStep
      rw [if_neg (fun h => by rw [ht] at h; cases h.1)]; rfl
    | true =>
      rw [Bool.not_true, cond_false]
      by_cases hle : takesN p ≤ st.length
      · rw [decide_eq_false (by omega)]
        unfold m_impl_ExprKind_j2 rng? leN appT?
        have e0 : (st.length : Int) - (takesN p : Int) = ((st.length - takesN p : Nat) : Int) := by omega
        have hdl : (st.drop (0 + (st.length - takesN p))).take (st.length - (st.length - takesN p)) = st.drop (st.length - takesN p) := by
          rw [Nat.zero_add, List.take_of_length_le (by rw [List.length_drop]; omega)]
        have hin : (st.drop (st.length - takesN p)).length = takesN p := by rw [List.length_drop]; omega
        rw [cond_false, e0, ckI_of (by omega) (by omega), Option.bind_some, Int.toNat_natCast, if_pos (by omega), Option.bind_some, if_pos (by omega), Option.bind_some, hdl, E_kind ht hin, Option.bind_some]
        unfold kStep
        cases hk2 : (kindOf cs p (st.drop (st.length - takesN p))).2 with
        | false => rw [if_neg (fun h => by cases h.2.2)]; rfl
        | true =>
          rw [if_pos ⟨ht, hle, rfl⟩, Bool.not_true, cond_false, Option.bind_some, Option.bind_some, Int.toNat_natCast, if_pos (by omega), Option.bind_some, if_pos (by simp; omega), Option.bind_some, ckI_of (by omega) (by omega), Option.bind_some]
          exact ih (k + 1) f _ (by omega) (by simp; omega) (by omega)
      · rw [decide_eq_true (by omega), stop]
        unfold kStep
        rw [if_neg (fun h => hle h.2.1)]; rfl
theorem E_impl_ExprKind {cs : List Col} {e : List Pt} (hc : cs.length ≤ 3000000) (he : e.length ≤ 3000000) (hv : ∀ p ∈ e, p.V.S.size ≤ 3000000) : m_impl_ExprKind cs e = some (exprKind cs e) := by
  unfold m_impl_ExprKind exprKind m_impl_ExprKind_j1
  rw [E_impl_ColumnsOk hc, Option.bind_some]
  cases hk : colsOk cs with
  | false => rw [Bool.not_false, cond_true, cond_true, if_neg (fun h => by cases h.1)]
  | true =>
    rw [Bool.not_true, cond_false]
    by_cases hl : e.length ≤ 12
    · rw [decide_eq_false (by omega), cond_false, if_pos ⟨rfl, hl⟩]
      have := impl_k_loop hc (by omega) hv e.length 0 _ [] (by omega) (by simp) fuel0
      rw [List.drop_zero] at this
      exact this
    · rw [decide_eq_true (by omega), cond_true, if_neg (fun h => hl h.2)]
theorem snoc2 {α : Type} {l : List α} (h : 2 ≤ l.length) : ∃ s a b, l = s ++ [a, b] := by
  refine ⟨l.take (l.length - 2), l[l.length - 2], l[l.length - 1], ?_⟩
  have h1 : l.drop (l.length - 2) = [l[l.length - 2], l[l.length - 1]] := by
    rw [List.drop_eq_getElem_cons (by omega), List.drop_eq_getElem_cons (by omega), List.drop_of_length_le (by omega)]
    congr 2
    have : l.length - 2 + 1 = l.length - 1 := by omega
    simp [this]
  rw [← h1, List.take_append_drop]
theorem snoc1 {α : Type} {l : List α} (h : 1 ≤ l.length) : ∃ s a, l = s ++ [a] := by
  refine ⟨l.take (l.length - 1), l[l.length - 1], ?_⟩
  have h1 : l.drop (l.length - 1) = [l[l.length - 1]] := by
    rw [List.drop_eq_getElem_cons (by omega), List.drop_of_length_le (by omega)]
  rw [← h1, List.take_append_drop]
theorem at_l1 {α : Type} {s : List α} {a b : α} : at? (s ++ [a, b]) (((s ++ [a, b]).length : Int) - 1) = some b := by
  have : ((s ++ [a, b]).length : Int) - 1 = ((s.length + 1 : Nat) : Int) := by simp; omega
  rw [this]
  exact at_of (by rw [List.getElem?_append_right (by omega)]; simp)
theorem at_l2 {α : Type} {s : List α} {a b : α} : at? (s ++ [a, b]) (((s ++ [a, b]).length : Int) - 2) = some a := by
  have : ((s ++ [a, b]).length : Int) - 2 = ((s.length : Nat) : Int) := by simp
  rw [this]
  exact at_of (by rw [List.getElem?_append_right (by omega)]; simp)
theorem at_s1 {α : Type} {s : List α} {a : α} : at? (s ++ [a]) (((s ++ [a]).length : Int) - 1) = some a := by
  have : ((s ++ [a]).length : Int) - 1 = ((s.length : Nat) : Int) := by simp
  rw [this]
  exact at_of (by rw [List.getElem?_append_right (by omega)]; simp)
/-- The front of a stack, and a kind behind it. -/
theorem cutM {m : Nat} {st : List Int} {k : Int} {β : Type} {g : List Int → Option β} (h : st.length ≤ 1000) (hm : m ≤ 2) : ((ckI ((st.length : Int) - (m : Int))).bind fun x => (rng? (0 : Int) (maxI x 0) st.length).bind fun _ => (appT? st (maxI x 0).toNat [k]).bind g) = g (st.take (st.length - m) ++ [k]) := by
  have e : (maxI ((st.length : Int) - (m : Int)) 0).toNat = st.length - m := by unfold maxI; split <;> omega
  have e2 : 0 ≤ maxI ((st.length : Int) - (m : Int)) 0 ∧ maxI ((st.length : Int) - (m : Int)) 0 ≤ st.length := by unfold maxI; split <;> omega
  rw [ckI_of (by omega) (by omega), Option.bind_some]
  unfold rng? appT?
  rw [if_pos (by omega), Option.bind_some, e, if_pos (by simp; omega), Option.bind_some]
theorem j3_s {st : List Int} {b : Bool} (h : st.length ≤ 1000) : m_spec_l4Step_j3 (st.length : Int) b st = some (st.take (st.length - 2) ++ [1], b) := by
  unfold m_spec_l4Step_j3; exact cutM (m := 2) h (by omega)
theorem j4_s {st : List Int} {b : Bool} (h : st.length ≤ 1000) : m_spec_l4Step_j4 (st.length : Int) b st = some (st.take (st.length - 2) ++ [3], b) := by
  unfold m_spec_l4Step_j4; exact cutM (m := 2) h (by omega)
theorem j6_s {st : List Int} {b : Bool} (h : st.length ≤ 1000) : m_spec_l4Step_j6 (st.length : Int) b st = some (st.take (st.length - 2) ++ [3], b) := by
  unfold m_spec_l4Step_j6; exact cutM (m := 2) h (by omega)
def Same (o : Option (List Int × Bool)) (q : Option (List Int)) (n : Nat) : Prop := ∃ st', o = some (st', q.isSome) ∧ (∀ s, q = some s → st' = s) ∧ st'.length ≤ n + 1
theorem same_no {st : List Int} {n : Nat} {q : Option (List Int)} (h : q = none) (hl : st.length ≤ n + 1) : Same (some (st, false)) q n := ⟨st, by rw [h]; rfl, (fun s hs => by rw [h] at hs; cases hs), hl⟩
theorem same_if {st : List Int} {n : Nat} {b : Bool} {q : Option (List Int)} (h : q = if b = true then some st else none) (hl : st.length ≤ n + 1) : Same (some (st, b)) q n := by
  refine ⟨st, ?_, fun s hs => ?_, hl⟩
  · rw [h]; cases b <;> rfl
  · rw [h] at hs; split at hs
    · cases hs; rfl
    · cases hs
theorem kStep_no {cs : List Col} {st : List Int} {p : Pt} (h : tells cs p = false) : kStep cs st p = none := by
  unfold kStep; rw [if_neg (fun g => by rw [h] at g; cases g.1)]
theorem kStep_2 {cs : List Col} {s : List Int} {a b : Int} {p : Pt} (h : takesN p = 2) : kStep cs (s ++ [a, b]) p = if tells cs p = true ∧ (kindOf cs p [a, b]).2 = true then some (s ++ [(kindOf cs p [a, b]).1]) else none := by
  unfold kStep
  have e1 : (s ++ [a, b]).length - 2 = s.length := by simp
  rw [h, e1, List.drop_left, List.take_left]
  by_cases hc : tells cs p = true ∧ (kindOf cs p [a, b]).2 = true
  · rw [if_pos hc, if_pos ⟨hc.1, by simp, hc.2⟩]
  · rw [if_neg hc, if_neg (fun g => hc ⟨g.1, g.2.2⟩)]
theorem kStep_1 {cs : List Col} {s : List Int} {a : Int} {p : Pt} (h : takesN p = 1) : kStep cs (s ++ [a]) p = if tells cs p = true ∧ (kindOf cs p [a]).2 = true then some (s ++ [(kindOf cs p [a]).1]) else none := by
  unfold kStep
  have e1 : (s ++ [a]).length - 1 = s.length := by simp
  rw [h, e1, List.drop_left, List.take_left]
  by_cases hc : tells cs p = true ∧ (kindOf cs p [a]).2 = true
  · rw [if_pos hc, if_pos ⟨hc.1, by simp, hc.2⟩]
  · rw [if_neg hc, if_neg (fun g => hc ⟨g.1, g.2.2⟩)]
theorem kStep_0 {cs : List Col} {st : List Int} {p : Pt} (h : takesN p = 0) : kStep cs st p = if tells cs p = true ∧ (kindOf cs p []).2 = true then some (st ++ [(kindOf cs p []).1]) else none := by
  unfold kStep
  rw [h, Nat.sub_zero, List.drop_length, List.take_length]
  by_cases hc : tells cs p = true ∧ (kindOf cs p []).2 = true
  · rw [if_pos hc, if_pos ⟨hc.1, by simp, hc.2⟩]
  · rw [if_neg hc, if_neg (fun g => hc ⟨g.1, g.2.2⟩)]
theorem kStep_few {cs : List Col} {st : List Int} {p : Pt} (h : st.length < takesN p) : kStep cs st p = none := by
  unfold kStep; rw [if_neg (fun g => by omega)]
theorem step_guard {cs : List Col} {st : List Int} {p : Pt} : m_spec_l4Step cs st p = m_spec_l4Step_j1 cs p (st.length : Int) ((decide (p.Kind ≠ 1) && !decide (p.V = v0)) || (decide (p.Kind ≠ 2) && (decide (p.Kind ≠ 4) && decide (p.N ≠ 0)))) st := by
  unfold m_spec_l4Step
  have e : ∀ a b : Int, (a != b) = decide (a ≠ b) := fun a b => by by_cases h : a = b <;> simp [h]
  rw [e, e, e, e]
  show (bif decide (p.Kind ≠ 1) then (bif !(decide (p.V = v0)) then _ else _) else _) = _
  cases decide (p.Kind ≠ 1) <;> cases decide (p.V = v0) <;> cases decide (p.Kind ≠ 2) <;> cases decide (p.Kind ≠ 4) <;> rfl
theorem E_spec_l4Step {cs : List Col} {st : List Int} {p : Pt} (hc : cs.length ≤ 3000000) (hv : p.V.S.size ≤ 3000000) (hs : st.length ≤ 1000) : Same (m_spec_l4Step cs st p) (kStep cs st p) st.length := by
  rw [step_guard]
  unfold m_spec_l4Step_j1
  cases hg : ((decide (p.Kind ≠ 1) && !decide (p.V = v0)) || (decide (p.Kind ≠ 2) && (decide (p.Kind ≠ 4) && decide (p.N ≠ 0)))) with
  | true =>
    rw [cond_true]
    refine same_no (kStep_no ?_) (by omega)
    simp at hg
    unfold tells
    by_cases h1 : p.Kind = 1
    · rw [if_pos h1]; simp [h1] at hg; simp [hg]
    · rw [if_neg h1]
      by_cases h2 : p.Kind = 2
      · rw [if_pos h2]; simp [h1, h2] at hg; simp [hg]
      · rw [if_neg h2]
        by_cases h4 : p.Kind = 4
        · rw [if_pos h4]; simp [h1, h2, h4] at hg; simp [hg]
        · rw [if_neg h4]
          split
          · rcases hg with hg | hg
            · simp [hg.2]
            · simp [hg.2.2]
          · rfl
  | false =>
    rw [cond_false]
    have hg' := hg
    simp only [Bool.or_eq_false_iff, Bool.and_eq_false_iff, decide_eq_false_iff_not, Bool.not_eq_false', decide_eq_true_eq, Decidable.not_not] at hg'
    obtain ⟨g1, g2⟩ := hg'
    by_cases h1 : p.Kind = 1
    · have hN : p.N = 0 := by rcases g2 with g | g | g <;> omega
      have ht : tells cs p = (vOk p.V && !decide (p.V.Kind = 0)) := by unfold tells; rw [if_pos h1, decide_eq_true hN, Bool.true_and]
      have h0 : takesN p = 0 := by unfold takesN; rw [if_neg (by omega), if_neg (by omega)]
      have hk : kindOf cs p [] = (p.V.Kind, true) := by unfold kindOf; rw [if_pos h1]
      rw [beqE h1, cond_true, E_spec_ValueOk hv, Option.bind_some, kStep_0 h0, ht, hk]
      unfold m_spec_l4Step_j2
      cases vOk p.V with
      | false => rw [Bool.not_false, cond_true, cond_true]; exact same_no (if_neg (fun g => by cases g.1)) (by omega)
      | true =>
        rw [Bool.not_true, cond_false, beqD]
        by_cases hz : p.V.Kind = 0
        · rw [decide_eq_true hz, cond_true]; exact same_no (if_neg (fun g => by cases g.1)) (by omega)
        · rw [decide_eq_false hz, cond_false, app_of (by simp; omega), Option.bind_some]; exact same_if (b := true) (by simp) (by simp)
    · have hV : p.V = v0 := g1.resolve_left h1
      rw [beqF h1, cond_false]
      by_cases h2 : p.Kind = 2
      · have ht : tells cs p = (decide (0 ≤ p.N) && decide (p.N ≤ (cs.length : Int) - 1)) := by unfold tells; rw [if_neg h1, if_pos h2, decide_eq_true hV, Bool.and_true]
        have h0 : takesN p = 0 := by unfold takesN; rw [if_neg (by omega), if_neg (by omega)]
        have hk : kindOf cs p [] = ((cs.getD p.N.toNat ⟨0, false⟩).Kind, true) := by unfold kindOf; rw [if_neg h1, if_pos h2]
        rw [beqE h2, cond_true, ckI_of (by omega) (by omega), Option.bind_some, E_l1In, Option.bind_some, kStep_0 h0, ht, hk]
        by_cases hr : 0 ≤ p.N ∧ p.N ≤ (cs.length : Int) - 1
        · have hx : cs[p.N.toNat]? = some cs[p.N.toNat] := List.getElem?_eq_getElem (by omega)
          have hat : at? cs p.N = some cs[p.N.toNat] := by
            have := at_of hx
            rwa [Int.toNat_of_nonneg hr.1] at this
          rw [decide_eq_true hr.1, decide_eq_true hr.2, Bool.and_self, Bool.not_true, cond_false, hat, Option.bind_some, app_of (by simp; omega), Option.bind_some, List.getD_eq_getElem?_getD, hx]
          exact same_if (b := true) (by simp) (by simp)
        · have hr' : (decide (0 ≤ p.N) && decide (p.N ≤ (cs.length : Int) - 1)) = false := by rw [Bool.and_eq_false_iff, decide_eq_false_iff_not, decide_eq_false_iff_not]; omega
          rw [hr', Bool.not_false, cond_true]; exact same_no (if_neg (fun g => by cases g.1)) (by omega)
      · rw [beqF h2, cond_false]
        have two : takesN p = 2 → ∀ (ok : Int → Int → Bool) (k : Int), (∀ a b, (kindOf cs p [a, b]).1 = k ∧ (tells cs p && (kindOf cs p [a, b]).2) = ok a b) → ∀ (o : Option (List Int × Bool)), (st.length < 2 → o = some (st.take (st.length - 2) ++ [k], false)) → (∀ s a b, st = s ++ [a, b] → o = some (st.take (st.length - 2) ++ [k], ok a b)) → Same o (kStep cs st p) st.length := by
          intro h0 ok k hk o ho1 ho2
          by_cases hl : st.length < 2
          · rw [ho1 hl]; exact same_no (kStep_few (by omega)) (by simp)
          · obtain ⟨s, a, b, rfl⟩ := snoc2 (l := st) (by omega)
            rw [ho2 s a b rfl, kStep_2 h0]
            have e1 : (s ++ [a, b]).take ((s ++ [a, b]).length - 2) = s := by simp
            obtain ⟨k1, k2⟩ := hk a b
            rw [e1, k1]
            refine same_if ?_ (by simp)
            rw [← k2]
            cases tells cs p <;> simp
        have c3 : ∀ n : Int, (n == n) = true := fun n => by simp
        by_cases h3 : p.Kind = 3
        · have hN : p.N = 0 := by rcases g2 with g | g | g <;> omega
          have ht : tells cs p = true := by unfold tells; rw [if_neg h1, if_neg h2, if_neg (by omega), if_pos (.inl h3), decide_eq_true hN, decide_eq_true hV]; rfl
          rw [beqE h3, cond_true]
          refine two (by unfold takesN; rw [if_pos (.inl h3)]) (fun a b => decide (b = 1) && decide (a = 1)) 1 (fun a b => ⟨by unfold kindOf; rw [if_neg h1, if_neg h2, if_pos h3], by unfold kindOf; rw [if_neg h1, if_neg h2, if_pos h3, ht]; simp [Bool.and_comm]⟩) _ (fun hl => ?_) (fun s a b he => ?_)
          · rw [decide_eq_false (by omega), cond_false]; exact j3_s hs
          · have e1 : st.length = s.length + 2 := by rw [he]; simp
            have a1 : at? st ((st.length : Int) - 1) = some b := by rw [he]; exact at_l1
            have a2 : at? st ((st.length : Int) - 2) = some a := by rw [he]; exact at_l2
            rw [decide_eq_true (by omega), cond_true, ckI_of (by omega) (by omega), Option.bind_some, a1, Option.bind_some, Option.bind_some, beqD]
            by_cases hb : b = 1
            · rw [decide_eq_true hb, cond_true, ckI_of (by omega) (by omega), Option.bind_some, a2, Option.bind_some, Option.bind_some, j3_s hs, beqD]; rfl
            · rw [decide_eq_false hb, cond_false, j3_s hs]; rfl
        · rw [beqF h3, cond_false]
          by_cases h4 : p.Kind = 4
          · have ht : tells cs p = (decide (1 ≤ p.N) && decide (p.N ≤ 4)) := by unfold tells; rw [if_neg h1, if_neg h2, if_pos h4, decide_eq_true hV, Bool.and_true]
            rw [beqE h4, cond_true]
            refine two (by unfold takesN; rw [if_pos (.inr (.inl h4))]) (fun a b => decide (b = a) && (decide (1 ≤ p.N) && decide (p.N ≤ 4))) 3 (fun a b => ⟨by unfold kindOf; rw [if_neg h1, if_neg h2, if_neg h3, if_pos h4], by
              unfold kindOf; rw [if_neg h1, if_neg h2, if_neg h3, if_pos h4, ht, Bool.and_comm]
              show (decide (a = b) && _) = _
              rw [show decide (a = b) = decide (b = a) by rw [decide_eq_decide]; exact eq_comm]⟩) _ (fun hl => ?_) (fun s a b he => ?_)
            · rw [decide_eq_false (by omega), cond_false]; exact j4_s hs
            · have e1 : st.length = s.length + 2 := by rw [he]; simp
              have a1 : at? st ((st.length : Int) - 1) = some b := by rw [he]; exact at_l1
              have a2 : at? st ((st.length : Int) - 2) = some a := by rw [he]; exact at_l2
              rw [decide_eq_true (by omega), cond_true, ckI_of (by omega) (by omega), Option.bind_some, a1, Option.bind_some, Option.bind_some, ckI_of (by omega) (by omega), Option.bind_some, a2, Option.bind_some, Option.bind_some, beqD]
              by_cases hb : b = a
              · rw [decide_eq_true hb, cond_true, E_l1In, Option.bind_some, j4_s hs]; rfl
              · rw [decide_eq_false hb, cond_false, j4_s hs]; rfl
          · rw [beqF h4, cond_false]
            have hN : p.N = 0 := by rcases g2 with g | g | g <;> omega
            have hm : ∀ a b, 5 ≤ p.Kind ∧ p.Kind ≤ 7 → kindOf cs p [a, b] = (3, decide (a = 3) && (decide (b = 3) && true)) := fun a b h => by
              unfold kindOf; rw [if_neg h1, if_neg h2, if_neg h3, if_neg h4, if_neg (by omega)]; rfl
            by_cases h56 : p.Kind = 5 ∨ p.Kind = 6
            · have ht : tells cs p = true := by unfold tells; rw [if_neg h1, if_neg h2, if_neg h4, if_pos (by omega), decide_eq_true hN, decide_eq_true hV]; rfl
              have key : Same (m_spec_l4Step_j5 (st.length : Int) p.Kind true st) (kStep cs st p) st.length := by
                refine two (by unfold takesN; rw [if_pos (by omega)]) (fun a b => decide (b = 3) && decide (a = 3)) 3 (fun a b => ⟨by rw [hm a b (by omega)], by rw [hm a b (by omega), ht]; simp [Bool.and_comm]⟩) _ (fun hl => ?_) (fun s a b he => ?_)
                · unfold m_spec_l4Step_j5; rw [cond_true, decide_eq_false (by omega), cond_false]; exact j6_s hs
                · have e1 : st.length = s.length + 2 := by rw [he]; simp
                  have a1 : at? st ((st.length : Int) - 1) = some b := by rw [he]; exact at_l1
                  have a2 : at? st ((st.length : Int) - 2) = some a := by rw [he]; exact at_l2
                  unfold m_spec_l4Step_j5
                  rw [cond_true, decide_eq_true (by omega), cond_true, ckI_of (by omega) (by omega), Option.bind_some, a1, Option.bind_some, Option.bind_some, beqD]
                  by_cases hb : b = 3
                  · rw [decide_eq_true hb, cond_true, ckI_of (by omega) (by omega), Option.bind_some, a2, Option.bind_some, Option.bind_some, j6_s hs, beqD]; rfl
                  · rw [decide_eq_false hb, cond_false, j6_s hs]; rfl
              rcases h56 with h5 | h6
              · rw [beqE h5, cond_true]; exact key
              · rw [beqF (by omega), cond_false, beqE h6]; exact key
            · rw [beqF (fun h => h56 (.inl h)), cond_false, beqF (fun h => h56 (.inr h))]
              unfold m_spec_l4Step_j5
              rw [cond_false]
              by_cases h7 : p.Kind = 7
              · have ht : tells cs p = true := by unfold tells; rw [if_neg h1, if_neg h2, if_neg h4, if_pos (by omega), decide_eq_true hN, decide_eq_true hV]; rfl
                have h0 : takesN p = 1 := by unfold takesN; rw [if_neg (by omega), if_pos (.inl h7)]
                rw [beqE h7, cond_true]
                unfold m_spec_l4Step_j7
                by_cases hl : st.length < 1
                · rw [decide_eq_false (by omega), cond_false]; exact same_no (kStep_few (by omega)) (by omega)
                · obtain ⟨s, a, rfl⟩ := snoc1 (l := st) (by omega)
                  have hk : kindOf cs p [a] = (3, decide (a = 3) && true) := by unfold kindOf; rw [if_neg h1, if_neg h2, if_neg h3, if_neg h4, if_neg (by omega)]; rfl
                  rw [decide_eq_true (by simp), cond_true, ckI_of (by omega) (by omega), Option.bind_some, at_s1, Option.bind_some, Option.bind_some, kStep_1 h0, ht, hk, beqD]
                  by_cases ha : a = 3
                  · subst ha; exact same_if (b := true) (by simp) (by simp)
                  · rw [decide_eq_false ha]; exact same_no (by simp) (by simp)
              · rw [beqF h7, cond_false]
                by_cases h8 : p.Kind = 8
                · have ht : tells cs p = true := by unfold tells; rw [if_neg h1, if_neg h2, if_neg h4, if_pos (by omega), decide_eq_true hN, decide_eq_true hV]; rfl
                  have h0 : takesN p = 1 := by unfold takesN; rw [if_neg (by omega), if_pos (.inr h8)]
                  rw [beqE h8, cond_true]
                  have e8 := cutM (m := 1) (st := st) (k := 3) (g := fun x96 => some (x96, decide ((st.length : Int) > 0))) hs (by omega)
                  rw [show ((1 : Nat) : Int) = 1 from rfl] at e8
                  rw [e8]
                  by_cases hl : st.length < 1
                  · rw [decide_eq_false (by omega)]; exact same_no (kStep_few (by omega)) (by simp)
                  · obtain ⟨s, a, rfl⟩ := snoc1 (l := st) (by omega)
                    have hk : kindOf cs p [a] = (3, true) := by unfold kindOf; rw [if_neg h1, if_neg h2, if_neg h3, if_neg h4, if_pos h8]
                    rw [decide_eq_true (by simp), kStep_1 h0, ht, hk]
                    have e1 : (s ++ [a]).take ((s ++ [a]).length - 1) = s := by simp
                    rw [e1]
                    exact same_if (b := true) (by simp) (by simp)
                · rw [beqF h8, cond_false]
                  exact same_no (kStep_no (by unfold tells; rw [if_neg h1, if_neg h2, if_neg h4, if_neg (by omega)])) (by omega)
theorem spec_k_bad {cs : List Col} {e : List Pt} {st : List Int} {f : Nat} {k : Int} : m_spec_ExprKind_l1 (f + 1) cs e false k st = some (-1) := by
  have e2 : ∀ (K : List Col → List Pt → Bool → Int → List Int → Option Int), m_spec_ExprKind_j2 K cs e false k false st = some (-1) := fun K => by
    unfold m_spec_ExprKind_j2 m_spec_ExprKind_j3 m_spec_ExprKind_j4; rfl
  rw [m_spec_ExprKind_l1, e2]
  cases decide (k < (e.length : Int)) <;> rfl
theorem spec_k_loop {cs : List Col} {e : List Pt} (hc : cs.length ≤ 3000000) (he : e.length ≤ 1000) (hv : ∀ p ∈ e, p.V.S.size ≤ 3000000) : ∀ (n k f : Nat) (st : List Int), k + n = e.length → st.length ≤ k → n + 1 < f → m_spec_ExprKind_l1 f cs e true (k : Int) st = some (fin1 (kGo cs (e.drop k) st)) := by
  intro n
  induction n with
  | zero =>
    intro k f st hk hs hf
    obtain ⟨f, rfl⟩ : ∃ q, f = q + 1 := ⟨f - 1, by omega⟩
    obtain rfl : k = e.length := by omega
    rw [m_spec_ExprKind_l1, dnlt, cond_false, List.drop_length]
    unfold m_spec_ExprKind_j2 m_spec_ExprKind_j3 m_spec_ExprKind_j4
    show _ = some (fin1 (some st))
    rw [cond_false, Bool.not_true, cond_false]
    match st with
    | [] => rfl
    | [a] => rfl
    | a :: b :: r => rw [beqF' (by simp only [List.length_cons]; omega), cond_true]; rfl
  | succ n ih =>
    intro k f st hk hs hf
    obtain ⟨f, rfl⟩ : ∃ q, f = q + 1 := ⟨f - 1, by omega⟩
    have hx : e[k]? = some e[k] := List.getElem?_eq_getElem (by omega)
    have hd : e.drop k = e[k] :: e.drop (k + 1) := List.drop_eq_getElem_cons (by omega)
    obtain ⟨st', h1, h2, h3⟩ := E_spec_l4Step (cs := cs) (st := st) (p := e[k]) hc (hv _ (List.mem_of_getElem? hx)) (by omega)
    rw [m_spec_ExprKind_l1, dlt (by omega), cond_true]
    unfold m_spec_ExprKind_j2
    rw [cond_true, at_of hx, Option.bind_some, h1, Option.bind_some, ckI_of (by omega) (by omega), Option.bind_some, hd, kGo_c]
    show m_spec_ExprKind_l1 f cs e (kStep cs st e[k]).isSome ((k : Int) + 1) st' = _
    cases hk2 : kStep cs st e[k] with
    | none =>
      obtain ⟨f, rfl⟩ : ∃ q, f = q + 1 := ⟨f - 1, by omega⟩
      exact spec_k_bad
    | some s =>
      obtain rfl := h2 s hk2
      exact ih (k + 1) f _ (by omega) (by omega) (by omega)
theorem E_spec_ExprKind {cs : List Col} {e : List Pt} (hc : cs.length ≤ 3000000) (he : e.length ≤ 3000000) (hv : ∀ p ∈ e, p.V.S.size ≤ 3000000) : m_spec_ExprKind cs e = some (exprKind cs e) := by
  unfold m_spec_ExprKind exprKind m_spec_ExprKind_j1
  rw [E_spec_ColumnsOk hc, Option.bind_some]
  cases hk : colsOk cs with
  | false => rw [Bool.not_false, cond_true, cond_true, if_neg (fun h => by cases h.1)]
  | true =>
    rw [Bool.not_true, cond_false]
    by_cases hl : e.length ≤ 12
    · rw [decide_eq_false (by omega), cond_false, if_pos ⟨rfl, hl⟩]
      have := spec_k_loop hc (by omega) hv e.length 0 1000000000 [] (by omega) (by simp) (by omega)
      rw [List.drop_zero] at this
      exact this
    · rw [decide_eq_true (by omega), cond_true, if_neg (fun h => hl h.2)]
abbrev Tb := S_impl_Table
def tbOk (t : Tb) : Bool := colsOk t.Columns && (decide (t.Rows.length ≤ 6) && rowsOk t.Columns t.Rows)
def tbsOk (ts : List Tb) : Bool := decide (ts.length ≤ 3) && ts.all tbOk
def tbSm (t : Tb) : Prop := t.Columns.length ≤ 1100000 ∧ rsSm t.Rows
def tbsSm (ts : List Tb) : Prop := ts.length ≤ 1100000 ∧ ∀ t ∈ ts, tbSm t
def ptSm (e : List Pt) : Prop := e.length ≤ 1100000 ∧ ∀ p ∈ e, p.V.S.size ≤ 1100000
theorem E_TablesOk_1 {t : Tb} (h : tbSm t) : m_impl_TablesOk_1 t = some (!tbOk t) := by
  unfold m_impl_TablesOk_1 m_impl_TablesOk_1_j1 tbOk
  rw [E_impl_ColumnsOk (by have := h.1; omega), Option.bind_some]
  cases hc : colsOk t.Columns with
  | false => rfl
  | true =>
    rw [Bool.not_true, cond_false, Bool.true_and]
    by_cases hl : t.Rows.length ≤ 6
    · rw [decide_eq_false (by omega), cond_false, decide_eq_true hl, Bool.true_and, E_impl_RowsOk (by have := h.1; omega) h.2, Option.bind_some]
    · rw [decide_eq_true (by omega), cond_true, decide_eq_false hl]; rfl
theorem any_all {α : Type} {p : α → Bool} : ∀ {l : List α}, (l.any fun x => !p x) = !(l.all p)
  | [] => rfl
  | x :: l => by rw [List.any_cons, List.all_cons, any_all, Bool.not_and]
theorem E_impl_TablesOk {ts : List Tb} (h : tbsSm ts) : m_impl_TablesOk ts = some (tbsOk ts) := by
  unfold m_impl_TablesOk m_impl_TablesOk_j1 tbsOk
  by_cases hl : ts.length ≤ 3
  · rw [decide_eq_true (by omega), cond_true, decide_eq_true hl, Bool.true_and, L_slices_ContainsFunc_Limpl_Table_impl_Table (q := fun t => !tbOk t) (by have := h.1; omega) (fun t ht => E_TablesOk_1 (h.2 t ht)), Option.bind_some, any_all, Bool.not_not]
  · rw [decide_eq_false (by omega), cond_false, decide_eq_false hl]; rfl
theorem tb_spec {t : Tb} : tbOk t = (decide (t.Rows.length ≤ 6) && rowsOk t.Columns t.Rows) := by
  unfold tbOk
  cases hc : colsOk t.Columns with
  | true => rfl
  | false =>
    have : rowsOk t.Columns t.Rows = false := by unfold rowsOk; rw [hc]; rfl
    rw [this, Bool.and_false]; rfl
theorem E_spec_TablesOk {ts : List Tb} (h : tbsSm ts) : m_spec_TablesOk ts = some (tbsOk ts) := by
  unfold m_spec_TablesOk tbsOk
  have e := scanA (p := fun t => !tbOk t) (r0 := false) (r1 := decide (ts.length ≤ 3)) ts (fun f k => m_spec_TablesOk_l1 f ts k) (fun f k t ht => ?_) (fun f => by rw [m_spec_TablesOk_l1, dnlt, cond_false]; unfold m_spec_TablesOk_j2; congr 1; rw [decide_eq_decide]; omega) _ fuel0
  · rw [e, any_all]
    cases ts.all tbOk <;> cases decide (ts.length ≤ 3) <;> rfl
  · have hk := lt_of_at ht
    have hl := h.1
    have hs := h.2 t (List.mem_of_getElem? ht)
    rw [m_spec_TablesOk_l1, dlt hk, cond_true, at_of ht, Option.bind_some, tb_spec]
    unfold m_spec_TablesOk_j1
    by_cases hr : t.Rows.length ≤ 6
    · rw [decide_eq_false (by omega), cond_false, Option.bind_some, Option.bind_some, E_spec_RowsOk (by have := hs.1; omega) hs.2, Option.bind_some, decide_eq_true hr, ck1 (by omega), Option.bind_some, Bool.true_and]
    · rw [decide_eq_true (by omega), cond_true, cond_true, decide_eq_false hr]; rfl
theorem getD_of {α : Type} {l : List α} {k : Nat} {x d : α} (h : l[k]? = some x) : l.getD k d = x := by rw [List.getD_eq_getElem?_getD, h]; rfl
theorem at_z {α : Type} {l : List α} {i : Int} {x : α} (h0 : 0 ≤ i) (h : l[i.toNat]? = some x) : at? l i = some x := by
  have := at_of h
  rwa [Int.toNat_of_nonneg h0] at this
theorem sm_Value {v : S_laws_Value} (h : wt_laws_Value v ≤ 1048576) : vSm (cv_laws_Value v) := by unfold wt_laws_Value at h; unfold vSm cv_laws_Value; simp only; omega
theorem sm_row {l : List S_laws_Value} (h : wt_Llaws_Value l ≤ 1048576) : rSm (cv_Llaws_Value l) := by
  refine ⟨?_, ?_⟩
  · have := wt_Llaws_Value_len (l := l); unfold cv_Llaws_Value; rw [List.length_map]; omega
  · intro v hv
    obtain ⟨x, hx, rfl⟩ := List.mem_map.1 hv
    exact sm_Value (by have := wt_Llaws_Value_mem hx; omega)
theorem sm_rows {l : List (List S_laws_Value)} (h : wt_LLlaws_Value l ≤ 1048576) : rsSm (cv_LLlaws_Value l) := by
  refine ⟨?_, ?_⟩
  · have := wt_LLlaws_Value_len (l := l); unfold cv_LLlaws_Value; rw [List.length_map]; omega
  · intro v hv
    obtain ⟨x, hx, rfl⟩ := List.mem_map.1 hv
    exact sm_row (by have := wt_LLlaws_Value_mem hx; omega)
theorem sm_cols {l : List S_laws_Column} (h : wt_Llaws_Column l ≤ 1048576) : (cv_Llaws_Column l).length ≤ 1100000 := by
  have := wt_Llaws_Column_len (l := l); unfold cv_Llaws_Column; rw [List.length_map]; omega
theorem sm_parts {l : List S_laws_Part} (h : wt_Llaws_Part l ≤ 1048576) : ptSm (cv_Llaws_Part l) := by
  refine ⟨?_, ?_⟩
  · have := wt_Llaws_Part_len (l := l); unfold cv_Llaws_Part; rw [List.length_map]; omega
  · intro v hv
    obtain ⟨x, hx, rfl⟩ := List.mem_map.1 hv
    have := wt_Llaws_Part_mem hx
    unfold wt_laws_Part wt_laws_Value at this
    show x.V.S.size ≤ 1100000
    omega
theorem sm_tables {l : List S_laws_Table} (h : wt_Llaws_Table l ≤ 1048576) : tbsSm (cv_Llaws_Table l) := by
  refine ⟨?_, ?_⟩
  · have := wt_Llaws_Table_len (l := l); unfold cv_Llaws_Table; rw [List.length_map]; omega
  · intro v hv
    obtain ⟨x, hx, rfl⟩ := List.mem_map.1 hv
    have := wt_Llaws_Table_mem hx
    unfold wt_laws_Table at this
    exact ⟨sm_cols (by omega), sm_rows (by omega)⟩
theorem bneS {b : Bool} : (b != b) = false := by cases b <;> rfl
theorem decT {α : Type} [DecidableEq α] {a : α} : decide (a = a) = true := decide_eq_true rfl
abbrev Bd := S_impl_Bond
def inR (n : Nat) (k : Int) : Bool := decide (0 ≤ k) && decide (k ≤ (n : Int) - 1)
theorem inR_of {n : Nat} {k : Int} (h : inR n k = true) : 0 ≤ k ∧ k.toNat < n := by
  unfold inR at h
  rw [Bool.and_eq_true, decide_eq_true_eq, decide_eq_true_eq] at h
  omega
def colsIn (n : Nat) (l : List Int) : Bool := (decide (1 ≤ (l.length : Int)) && decide ((l.length : Int) ≤ 4)) && l.all (inR n)
theorem E_listOk_1 {t : Tb} {k : Int} (h : t.Columns.length ≤ 1100000) : m_impl_listOk_1 k t = some (!inR t.Columns.length k) := by
  unfold m_impl_listOk_1 inR
  rw [ckI_of (by omega) (by omega), Option.bind_some, E_between, Option.bind_some]
theorem E_listOk {t : Tb} {l : List Int} (h : t.Columns.length ≤ 1100000) (hl : l.length ≤ 1100000) : m_impl_listOk t l = some (colsIn t.Columns.length l) := by
  unfold m_impl_listOk m_impl_listOk_j1 colsIn
  rw [E_between, Option.bind_some]
  cases (decide (1 ≤ (l.length : Int)) && decide ((l.length : Int) ≤ 4)) with
  | false => rw [cond_false, Bool.false_and]
  | true => rw [cond_true, L_slices_ContainsFunc_Lint_int (q := fun k => !inR t.Columns.length k) (by omega) (fun k _ => E_listOk_1 h), Option.bind_some, any_all, Bool.not_not, Bool.true_and]
theorem E_l12Columns {cs : List Col} {l : List Int} (h : cs.length ≤ 1100000) (hl : l.length ≤ 1100000) : m_spec_l12Columns cs l = some (colsIn cs.length l) := by
  unfold m_spec_l12Columns colsIn
  have e := scanA (p := fun k => !inR cs.length k) (r0 := false) (r1 := (decide (1 ≤ (l.length : Int)) && decide ((l.length : Int) ≤ 4))) l (fun f k => m_spec_l12Columns_l1 f cs l k) (fun f k x hx => ?_) (fun f => by rw [m_spec_l12Columns_l1, dnlt, cond_false]; unfold m_spec_l12Columns_j1; rw [E_l1In, Option.bind_some]) _ fuel0
  · rw [e, any_all]
    cases l.all (inR cs.length) <;> cases (decide (1 ≤ (l.length : Int)) && decide ((l.length : Int) ≤ 4)) <;> rfl
  · have hk := lt_of_at hx
    rw [m_spec_l12Columns_l1, dlt hk, cond_true, at_of hx, Option.bind_some, ckI_of (by omega) (by omega), Option.bind_some, E_l1In, Option.bind_some, ck1 (by omega), Option.bind_some]
    rfl
def kindB (cs ds : List Col) (l m : List Int) (k : Nat) : Bool := decide ((cs.getD (l.getD k 0).toNat ⟨0, false⟩).Kind = (ds.getD (m.getD k 0).toNat ⟨0, false⟩).Kind)
def bare (b : Bd) : Bool := (b.Of == 0) && (((b.To.length : Int) == 0) && !b.Follow)
def bd1 (ts : List Tb) (t : Tb) (b : Bd) : Bool :=
  if b.Kind = 1 then colsIn t.Columns.length b.f_List && (bare b && ((b.E.length : Int) == 0))
  else if b.Kind = 3 then (exprKind t.Columns b.E == 3) && (bare b && ((b.f_List.length : Int) == 0))
  else if b.Kind = 2 then inR ts.length b.Of && (((b.E.length : Int) == 0) && (colsIn t.Columns.length b.f_List && (colsIn (ts.getD b.Of.toNat ⟨[], []⟩).Columns.length b.To && (((b.To.length : Int) == (b.f_List.length : Int)) && (List.range b.f_List.length).all (kindB t.Columns (ts.getD b.Of.toNat ⟨[], []⟩).Columns b.f_List b.To)))))
  else false
def bdOk (ts : List Tb) (b : Bd) : Bool := tbsOk ts && (inR ts.length b.In && bd1 ts (ts.getD b.In.toNat ⟨[], []⟩) b)
def bdSm (b : Bd) : Prop := b.f_List.length ≤ 1100000 ∧ b.To.length ≤ 1100000 ∧ ptSm b.E
theorem kind_step {ts : List Tb} {t u : Tb} {b : Bd} (hl : colsIn t.Columns.length b.f_List = true) (hu : colsIn u.Columns.length b.To = true) (he : b.To.length = b.f_List.length) {k : Nat} (hk : k < b.f_List.length) : ∃ x y c d, b.f_List[k]? = some x ∧ b.To[k]? = some y ∧ at? t.Columns x = some c ∧ at? u.Columns y = some d ∧ (c.Kind != d.Kind) = !kindB t.Columns u.Columns b.f_List b.To k := by
  unfold colsIn at hl hu
  rw [Bool.and_eq_true] at hl hu
  have hx : b.f_List[k]? = some b.f_List[k] := List.getElem?_eq_getElem hk
  have hy : b.To[k]? = some (b.To[k]'(by omega)) := List.getElem?_eq_getElem (by omega)
  obtain ⟨x0, x1⟩ := inR_of (List.all_eq_true.1 hl.2 _ (List.mem_of_getElem? hx))
  obtain ⟨y0, y1⟩ := inR_of (List.all_eq_true.1 hu.2 _ (List.mem_of_getElem? hy))
  generalize b.f_List[k] = x at hx x0 x1
  generalize b.To[k]'(by omega) = y at hy y0 y1
  have hc : t.Columns[x.toNat]? = some t.Columns[x.toNat] := List.getElem?_eq_getElem x1
  have hd : u.Columns[y.toNat]? = some u.Columns[y.toNat] := List.getElem?_eq_getElem y1
  refine ⟨x, y, _, _, hx, hy, at_z x0 hc, at_z y0 hd, ?_⟩
  unfold kindB
  rw [getD_of hx, getD_of hy, getD_of hc, getD_of hd]
  exact bneD
theorem E_impl_bondOk {ts : List Tb} {b : Bd} (h : tbsSm ts) (hb : bdSm b) : m_impl_bondOk ts b = some (inR ts.length b.In && bd1 ts (ts.getD b.In.toNat ⟨[], []⟩) b) := by
  obtain ⟨hb1, hb2, hb3⟩ := hb
  have htl := h.1
  unfold m_impl_bondOk
  rw [ckI_of (by omega) (by omega), Option.bind_some, E_between, Option.bind_some]
  show (bif !inR ts.length b.In then _ else _) = _
  cases hr : inR ts.length b.In with
  | false => rw [Bool.not_false, cond_true, Bool.false_and]
  | true =>
    obtain ⟨r0, r1⟩ := inR_of hr
    have ht : ts[b.In.toNat]? = some ts[b.In.toNat] := List.getElem?_eq_getElem r1
    have hts := h.2 _ (List.getElem_mem r1)
    generalize ts[b.In.toNat] = t at ht hts
    have htc := hts.1
    rw [Bool.not_true, cond_false, at_z r0 ht, Option.bind_some, ltE, getD_of ht, Bool.true_and]
    have eb : (bif b.Of == 0 then bif (b.To.length : Int) == 0 then m_impl_bondOk_j1 ts b (!b.Follow) t else m_impl_bondOk_j1 ts b false t else m_impl_bondOk_j1 ts b false t) = m_impl_bondOk_j1 ts b (bare b) t := by
      unfold bare
      cases b.Of == 0 <;> cases (b.To.length : Int) == 0 <;> rfl
    rw [eb]
    unfold m_impl_bondOk_j1 bd1
    by_cases h1 : b.Kind = 1
    · rw [beqE h1, cond_true, if_pos h1, E_listOk htc hb1, Option.bind_some]
      unfold m_impl_bondOk_j2
      cases colsIn t.Columns.length b.f_List <;> cases bare b <;> rfl
    · rw [beqF h1, cond_false, if_neg h1]
      by_cases h3 : b.Kind = 3
      · rw [beqE h3, cond_true, if_pos h3, E_impl_ExprKind (by omega) (by have := hb3.1; omega) (fun p hp => by have := hb3.2 p hp; omega), Option.bind_some]
        unfold m_impl_bondOk_j3
        cases exprKind t.Columns b.E == 3 <;> cases bare b <;> rfl
      · rw [beqF h3, cond_false, if_neg h3]
        by_cases h2 : b.Kind = 2
        · rw [beqE h2, cond_true, if_pos h2, ckI_of (by omega) (by omega), Option.bind_some, E_between, Option.bind_some]
          have bad : m_impl_bondOk_j4 ts b true t = some false := by unfold m_impl_bondOk_j4; rw [cond_true]
          show (bif !inR ts.length b.Of then _ else _) = _
          cases ho : inR ts.length b.Of with
          | false => rw [Bool.not_false, cond_true, Bool.false_and, bad]
          | true =>
            obtain ⟨o0, o1⟩ := inR_of ho
            have hu : ts[b.Of.toNat]? = some ts[b.Of.toNat] := List.getElem?_eq_getElem o1
            have huc := (h.2 _ (List.getElem_mem o1)).1
            generalize ts[b.Of.toNat] = u at hu huc
            rw [Bool.not_true, cond_false, Bool.true_and, at_z o0 hu, getD_of hu]
            by_cases he : b.E.length = 0
            · rw [decide_eq_false (by omega), cond_false, E_listOk htc hb1, Option.bind_some, show ((b.E.length : Int) == 0) = true by rw [he]; rfl, Bool.true_and]
              cases hl : colsIn t.Columns.length b.f_List with
              | false => rw [Bool.not_false, cond_true, Bool.false_and, bad]
              | true =>
                rw [Bool.not_true, cond_false, Bool.true_and, Option.bind_some, E_listOk huc hb2, Option.bind_some]
                cases hu2 : colsIn u.Columns.length b.To with
                | false => rw [Bool.not_false, cond_true, Bool.false_and, bad]
                | true =>
                  rw [Bool.not_true, cond_false, Bool.true_and]
                  by_cases hn : b.To.length = b.f_List.length
                  · rw [show ((b.To.length : Int) != (b.f_List.length : Int)) = false by simp [hn], show ((b.To.length : Int) == (b.f_List.length : Int)) = true by simp [hn], Bool.true_and]
                    unfold m_impl_bondOk_j4
                    rw [cond_false, scanK (p := fun k => !kindB t.Columns u.Columns b.f_List b.To k) (r0 := false) (J := some true) b.f_List.length (fun f k => m_impl_bondOk_l1 f ts b b.f_List (b.f_List.length : Int) k t) (fun f k hk => ?_) (fun f => by rw [m_impl_bondOk_l1, dnlt]; rfl) _ fuel0, any_all]
                    · cases (List.range b.f_List.length).all (kindB t.Columns u.Columns b.f_List b.To) <;> rfl
                    · obtain ⟨x, y, c, d, g1, g2, g3, g4, g5⟩ := kind_step (ts := ts) hl hu2 hn hk
                      rw [m_impl_bondOk_l1, dlt hk, cond_true, at_of g1, Option.bind_some, g3, Option.bind_some, at_z o0 hu, Option.bind_some, at_of g2, Option.bind_some, g4, Option.bind_some, g5, ck1 (by omega), Option.bind_some]
                      rfl
                  · rw [show ((b.To.length : Int) != (b.f_List.length : Int)) = true by simp; omega, show ((b.To.length : Int) == (b.f_List.length : Int)) = false by simp; omega, Bool.false_and, bad]
            · rw [decide_eq_true (by omega), cond_true, show ((b.E.length : Int) == 0) = false by simp; exact fun e => he (by rw [e]; rfl), Bool.false_and, bad]
        · rw [beqF h2, cond_false, if_neg h2]; rfl
theorem E_impl_BondOk {ts : List Tb} {b : Bd} (h : tbsSm ts) (hb : bdSm b) : m_impl_BondOk ts b = some (bdOk ts b) := by
  unfold m_impl_BondOk m_impl_BondOk_j1 bdOk
  rw [E_impl_TablesOk h, Option.bind_some]
  cases tbsOk ts with
  | false => rfl
  | true => rw [cond_true, E_impl_bondOk h hb, Option.bind_some, Bool.true_and]
theorem E_spec_BondOk {ts : List Tb} {b : Bd} (h : tbsSm ts) (hb : bdSm b) : m_spec_BondOk ts b = some (bdOk ts b) := by
  obtain ⟨hb1, hb2, hb3⟩ := hb
  have htl := h.1
  unfold m_spec_BondOk bdOk
  rw [E_spec_TablesOk h, Option.bind_some]
  have bad0 : m_spec_BondOk_j1 ts b true = some false := by unfold m_spec_BondOk_j1; rw [cond_true]
  cases tbsOk ts with
  | false => rw [Bool.not_false, cond_true, bad0, Bool.false_and]
  | true =>
  rw [Bool.not_true, cond_false, ckI_of (by omega) (by omega), Option.bind_some, E_l1In, Option.bind_some, Bool.true_and]
  show m_spec_BondOk_j1 ts b (!inR ts.length b.In) = _
  cases hr : inR ts.length b.In with
  | false => rw [Bool.not_false, Bool.false_and, bad0]
  | true =>
    obtain ⟨r0, r1⟩ := inR_of hr
    have ht : ts[b.In.toNat]? = some ts[b.In.toNat] := List.getElem?_eq_getElem r1
    have hts := h.2 _ (List.getElem_mem r1)
    generalize ts[b.In.toNat] = t at ht hts
    have htc := hts.1
    unfold m_spec_BondOk_j1 bd1
    rw [Bool.not_true, cond_false, at_z r0 ht, Option.bind_some, getD_of ht, Bool.true_and]
    by_cases h1 : b.Kind = 1
    · rw [beqE h1, cond_true, if_pos h1, E_l12Columns htc hb1, Option.bind_some]
      unfold m_spec_BondOk_j2 bare
      cases colsIn t.Columns.length b.f_List <;> cases b.Of == 0 <;> cases (b.To.length : Int) == 0 <;> cases b.Follow <;> rfl
    · rw [beqF h1, cond_false, if_neg h1]
      by_cases h3 : b.Kind = 3
      · rw [beqE h3, cond_true, if_pos h3, E_spec_ExprKind (by omega) (by have := hb3.1; omega) (fun p hp => by have := hb3.2 p hp; omega), Option.bind_some]
        unfold m_spec_BondOk_j3 bare
        cases exprKind t.Columns b.E == 3 <;> cases (b.f_List.length : Int) == 0 <;> cases b.Of == 0 <;> cases (b.To.length : Int) == 0 <;> cases b.Follow <;> rfl
      · rw [beqF h3, cond_false, if_neg h3]
        by_cases h2 : b.Kind = 2
        · rw [beqE h2, cond_true, if_pos h2, ckI_of (by omega) (by omega), Option.bind_some, E_l1In, Option.bind_some]
          have bad : m_spec_BondOk_j4 ts b t.Columns true = some false := by unfold m_spec_BondOk_j4; rw [cond_true]
          show (bif !inR ts.length b.Of then _ else _) = _
          cases ho : inR ts.length b.Of with
          | false => rw [Bool.not_false, cond_true, Bool.false_and, bad]
          | true =>
            obtain ⟨o0, o1⟩ := inR_of ho
            have hu : ts[b.Of.toNat]? = some ts[b.Of.toNat] := List.getElem?_eq_getElem o1
            have huc := (h.2 _ (List.getElem_mem o1)).1
            generalize ts[b.Of.toNat] = u at hu huc
            rw [Bool.not_true, cond_false, Bool.true_and, at_z o0 hu, getD_of hu, E_l12Columns htc hb1, Option.bind_some]
            cases hl : colsIn t.Columns.length b.f_List with
            | false => rw [Bool.not_false, cond_true, Bool.false_and, Bool.and_false, bad]
            | true =>
              rw [Bool.not_true, cond_false, Bool.true_and, Option.bind_some, E_l12Columns huc hb2, Option.bind_some]
              cases hu2 : colsIn u.Columns.length b.To with
              | false => rw [Bool.not_false, cond_true, Bool.false_and, Bool.and_false, bad]
              | true =>
                rw [Bool.not_true, cond_false, Bool.true_and]
                by_cases hn : b.To.length = b.f_List.length
                · rw [show ((b.f_List.length : Int) != (b.To.length : Int)) = false by simp [hn], show ((b.To.length : Int) == (b.f_List.length : Int)) = true by simp [hn], cond_false, Bool.true_and]
                  by_cases he : b.E.length = 0
                  · rw [decide_eq_false (by omega), show ((b.E.length : Int) == 0) = true by rw [he]; rfl, Bool.true_and]
                    unfold m_spec_BondOk_j4
                    rw [cond_false, scanK (p := fun k => !kindB t.Columns u.Columns b.f_List b.To k) (r0 := false) (J := some true) b.f_List.length (fun f k => m_spec_BondOk_l1 f ts b t.Columns k) (fun f k hk => ?_) (fun f => by rw [m_spec_BondOk_l1, dnlt]; rfl) _ fuel0, any_all]
                    · cases (List.range b.f_List.length).all (kindB t.Columns u.Columns b.f_List b.To) <;> rfl
                    · obtain ⟨x, y, c, d, g1, g2, g3, g4, g5⟩ := kind_step (ts := ts) hl hu2 hn hk
                      rw [m_spec_BondOk_l1, dlt hk, cond_true, at_of g1, Option.bind_some, g3, Option.bind_some, at_z o0 hu, Option.bind_some, at_of g2, Option.bind_some, g4, Option.bind_some, g5, ck1 (by omega), Option.bind_some]
                      rfl
                  · rw [decide_eq_true (by omega), show ((b.E.length : Int) == 0) = false by simp; exact fun e => he (by rw [e]; rfl), Bool.false_and, bad]
                · rw [show ((b.f_List.length : Int) != (b.To.length : Int)) = true by simp; omega, cond_true, show ((b.To.length : Int) == (b.f_List.length : Int)) = false by simp; omega, Bool.false_and, Bool.and_false, bad]
        · rw [beqF h2, cond_false, if_neg h2]; rfl
theorem sm_bond {b : S_laws_Bond} (h : wt_laws_Bond b ≤ 1048576) : bdSm (cv_laws_Bond b) := by
  unfold wt_laws_Bond at h
  have h1 := wt_Lint_len (l := b.f_List)
  have h2 := wt_Lint_len (l := b.To)
  exact ⟨by show b.f_List.length ≤ 1100000; omega, by show b.To.length ≤ 1100000; omega, sm_parts (by omega)⟩
theorem pure_FnExactBondOk (a0 : List S_laws_Table) (a1 : S_laws_Bond) (b0 : B_list B_laws_Table a0) (b1 : B_laws_Bond a1) : m_laws_FnExactBondOk a0 a1 = some true := by
  unfold m_laws_FnExactBondOk
  rw [sz_Llaws_Table b0 (by decide) (by decide), Option.bind_some]
  by_cases h0 : (wt_Llaws_Table a0 : Int) ≤ 1048576
  case neg => rw [szR_lt' h0, cond_true]
  rw [szR_lt h0, cond_false, sz_laws_Bond b1 (szR_0 h0) (szR_le (by decide)), Option.bind_some]
  by_cases h1 : (wt_laws_Bond a1 : Int) ≤ szR 1048576 (wt_Llaws_Table a0)
  case neg => rw [szR_lt' h1, cond_true]
  rw [szR_lt h1, cond_false]
  rw [szR_pos h0] at h1
  rw [to_Llaws_Table (by omega), Option.bind_some, to_laws_Bond (by omega), Option.bind_some, E_spec_BondOk (sm_tables (by omega)) (sm_bond (by omega)), Option.bind_some, Option.bind_some, Option.bind_some, ltE, E_impl_BondOk (sm_tables (by omega)) (sm_bond (by omega)), Option.bind_some, bneS, cond_false, Option.bind_some, eq_Limpl_Table (by rw [wc_Llaws_Table]; omega), Option.bind_some, decT, Bool.not_true, cond_false, Option.bind_some, eq_impl_Bond (by rw [wc_laws_Bond]; omega), Option.bind_some, decT, Bool.not_true, cond_false]
/-- A value of a kind, or none. -/
def tyV (v : V) (k : Int) : Prop := vOk v = true ∧ (v.Kind = k ∨ v.Kind = 0)
inductive Typed : List V → List Int → Prop
  | nil : Typed [] []
  | cons {v : V} {k : Int} {vs : List V} {ks : List Int} : tyV v k → Typed vs ks → Typed (v :: vs) (k :: ks)
theorem Typed.ok {vs : List V} {ks : List Int} (h : Typed vs ks) : ∀ v ∈ vs, vOk v = true := by
  induction h with
  | nil => simp
  | cons h _ ih =>
    intro v hv
    rcases List.mem_cons.1 hv with rfl | hv
    · exact h.1
    · exact ih v hv
theorem Typed.take {vs : List V} {ks : List Int} (h : Typed vs ks) (n : Nat) : Typed (vs.take n) (ks.take n) := by
  induction h generalizing n with
  | nil => simp; exact .nil
  | cons h _ ih =>
    cases n with
    | zero => exact .nil
    | succ n => exact .cons h (ih n)
theorem Typed.drop {vs : List V} {ks : List Int} (h : Typed vs ks) (n : Nat) : Typed (vs.drop n) (ks.drop n) := by
  induction h generalizing n with
  | nil => simp; exact .nil
  | cons h h2 ih =>
    cases n with
    | zero => exact .cons h h2
    | succ n => exact ih n
end Go.Proofs.Ytgepipglchpabaa
