/- What the mirrors come to, in plain Lean: the law itself at the end. -/
import Derived.Test.YtdkpmckpcejceaaXW6
import Derived.Test.YtdkpmckpcejceaaLd
set_option linter.unusedVariables false
set_option linter.unusedSimpArgs false
set_option linter.unnecessarySimpa false
namespace Go.Proofs.Ytdkpmckpcejceaa
open Go.Proofs Go.Lift
abbrev V := S_impl_Value
abbrev Row := List V
def lower (l : List UInt8) : Bool := l.all fun b => decide (97 ≤ b.toNat) && decide (b.toNat ≤ 122)
def vOk (v : V) : Bool :=
  if v.Kind = 0 then decide (v = ⟨0, 0, ⟨#[]⟩⟩)
  else if v.Kind = 1 then decide (v.S = ⟨#[]⟩) && (decide (-9999 ≤ v.N) && decide (v.N ≤ 9999))
  else if v.Kind = 2 then decide (v.N = 0) && decide (v.S.size ≤ 6) && lower v.S.data.toList
  else if v.Kind = 3 then decide (v.S = ⟨#[]⟩) && (decide (0 ≤ v.N) && decide (v.N ≤ 1))
  else false
def rowOk (l : Row) : Bool := decide (l.length ≤ 4) && l.all vOk
def vSm (v : V) : Prop := v.S.size ≤ 1100000
def rSm (l : Row) : Prop := l.length ≤ 1100000 ∧ ∀ v ∈ l, vSm v
theorem E_IndexFunc_V {l : Row} {p : V → Option Bool} {q : V → Bool} (hl : l.length ≤ 900000000) (hp : ∀ v ∈ l, p v = some (q v)) : m_slices_ContainsFunc_Limpl_Value_impl_Value l p = some (l.any q) := by
  unfold m_slices_ContainsFunc_Limpl_Value_impl_Value m_slices_IndexFunc_Limpl_Value_impl_Value
  have key : ∀ (ys : Row) (k n : Nat), l.drop k = ys → k ≤ l.length → ys.length < n → ∃ i : Int, m_slices_IndexFunc_Limpl_Value_impl_Value_l1 p n l (l.length : Int) (k : Int) = some i ∧ decide (i ≥ 0) = ys.any q := by
    intro ys
    induction ys with
    | nil =>
      intro k n hd hk hn
      have : k = l.length := by
        have := congrArg List.length hd; simp at this; omega
      subst this; obtain ⟨m, rfl⟩ : ∃ m, n = m + 1 := ⟨n - 1, by simp at hn; omega⟩; exact ⟨-1, by simp only [m_slices_IndexFunc_Limpl_Value_impl_Value_l1, dnlt]; rfl, rfl⟩
    | cons y ys ih =>
      intro k n hd hk hn
      have hlt : k < l.length := by
        have := congrArg List.length hd; simp at this; omega
      have hc := List.drop_eq_getElem_cons hlt; rw [hd] at hc; simp only [List.cons.injEq] at hc; have hx : l[k]? = some y := by rw [List.getElem?_eq_getElem hlt, hc.1]
      obtain ⟨m, rfl⟩ : ∃ m, n = m + 1 := ⟨n - 1, by simp at hn; omega⟩; simp only [m_slices_IndexFunc_Limpl_Value_impl_Value_l1, dlt hlt, at_of hx, hp y (List.mem_of_getElem? hx), ck1 (show k < 1000000000000 by omega), Option.bind_some, cond_true]; cases hq : q y
      · obtain ⟨i, h1, h2⟩ := ih (k + 1) m hc.2.symm (by omega) (by simp at hn; omega)
        exact ⟨i, by simpa using h1, by rw [h2]; simp [hq]⟩
      · exact ⟨(k : Int), rfl, by simp [hq]⟩
  obtain ⟨i, h1, h2⟩ := key l 0 _ rfl (by omega) (show l.length < (((l.length : Int) - 0).toNat + 1) by omega); rw [show ((0 : Nat) : Int) = 0 from rfl] at h1; rw [h1]; simp only [Option.bind_some, h2]
theorem E_between (a b c : Int) : m_impl_between a b c = some (decide (b ≤ a) && decide (a ≤ c)) := by
  unfold m_impl_between m_impl_between_j1
  by_cases h : a ≥ b <;> simp [h]
theorem E_l1In (a b c : Int) : m_spec_l1In a b c = some (decide (b ≤ a) && decide (a ≤ c)) := by
  unfold m_spec_l1In m_spec_l1In_j1
  by_cases h : a ≥ b <;> simp [h]
theorem lower_any (l : List UInt8) : lower l = !(l.any fun b => !(decide (97 ≤ (b.toNat : Int)) && decide ((b.toNat : Int) ≤ 122))) := by
  unfold lower; rw [List.all_eq_not_any_not]
  congr 2
  funext b
  congr 1
  have h1 : decide (97 ≤ b.toNat) = decide (97 ≤ (b.toNat : Int)) := by rw [decide_eq_decide]; omega
  have h2 : decide (b.toNat ≤ 122) = decide ((b.toNat : Int) ≤ 122) := by rw [decide_eq_decide]; omega
  rw [h1, h2]
theorem E_letters {s : ByteArray} (h : s.size ≤ 900000000) : m_impl_letters s = some (lower s.data.toList) := by
  unfold m_impl_letters sBytes?; rw [if_pos (by omega)]; simp only [Option.bind_some]; have hl : s.data.toList.length ≤ 900000000 := h
  have := scanA (p := fun b : UInt8 => !(decide (97 ≤ (b.toNat : Int)) && decide ((b.toNat : Int) ≤ 122))) (r0 := false) (r1 := true) s.data.toList (fun n k => m_impl_letters_l1 n s.data.toList (s.data.toList.length : Int) k) (fun n k x hx => by
    have := lt_of_at hx; simp only [m_impl_letters_l1, dlt this, at_of hx, E_between, ck1 (show k < 1000000000000 by omega), Option.bind_some, cond_true]) (fun n => by simp only [m_impl_letters_l1, dnlt]; rfl) _ fuel0
  rw [this, lower_any]; cases s.data.toList.any fun b => !(decide (97 ≤ (b.toNat : Int)) && decide ((b.toNat : Int) ≤ 122)) <;> rfl
theorem sAt_of {s : ByteArray} {k : Nat} {x : UInt8} (h : s.data.toList[k]? = some x) : sAt? s (k : Int) = some x := by
  unfold sAt?; rw [if_pos (by omega)]; obtain ⟨h1, h2⟩ := List.getElem?_eq_some_iff.1 h; have hs : k < s.size := by have := h1; rwa [Array.length_toList] at this
  have : s[k]? = some (s[k]'hs) := by simp [hs]
  rw [Int.toNat_natCast, this]
  congr 1
theorem E_l1Text {s : ByteArray} (h : s.size ≤ 900000000) : m_spec_l1Text s = some (lower s.data.toList && decide (s.size ≤ 6)) := by
  unfold m_spec_l1Text; have hl : s.data.toList.length = s.size := rfl; rw [← hl]
  have := scanA (p := fun b : UInt8 => !(decide (97 ≤ (b.toNat : Int)) && decide ((b.toNat : Int) ≤ 122))) (r0 := false) (r1 := decide ((s.size : Int) ≤ 6)) s.data.toList (fun n k => m_spec_l1Text_l1 n s k) (fun n k x hx => by
    have := lt_of_at hx; have hd : decide ((k : Int) < (s.size : Int)) = true := by rw [← hl]; exact dlt this
    simp only [m_spec_l1Text_l1, m_spec_l1Text_j1, hd, sAt_of hx, ck1 (show k < 1000000000000 by omega), Option.bind_some, cond_true]; have e1 : ((97 : UInt8).toNat : Int) = 97 := rfl; have e2 : ((122 : UInt8).toNat : Int) = 122 := rfl; rw [e1, e2]
    by_cases h1 : (x.toNat : Int) < 97
    · have : ¬ (97 ≤ (x.toNat : Int)) := by omega
      simp [h1, this]
    · have h1' : 97 ≤ (x.toNat : Int) := by omega
      by_cases h2 : (x.toNat : Int) > 122
      · have : ¬ ((x.toNat : Int) ≤ 122) := by omega
        simp [h1, h2, this]
      · have : (x.toNat : Int) ≤ 122 := by omega
        simp [h1, h2, this, h1']) (fun n => by simp only [m_spec_l1Text_l1, hl, dnlt]; rfl) _ fuel0
  rw [this, lower_any]; have e : decide ((s.size : Int) ≤ 6) = decide (s.size ≤ 6) := by rw [decide_eq_decide]; omega
  rw [e]; cases s.data.toList.any fun b => !(decide (97 ≤ (b.toNat : Int)) && decide ((b.toNat : Int) ≤ 122)) <;> simp
theorem E_Value_ok {v : V} (h : v.S.size ≤ 900000000) : m_impl_Value_ok v = some (vOk v) := by
  unfold m_impl_Value_ok m_impl_Value_ok_j1 m_impl_Value_ok_j2 m_impl_Value_ok_j3 vOk; simp only [E_between, E_letters h, Option.bind_some, sEq_eq]
  by_cases h0 : v.Kind = 0
  · simp [h0]
  · by_cases h1 : v.Kind = 1
    · by_cases hs : v.S = ⟨#[]⟩ <;> simp [beqF h0, h0, h1, hs]
    · by_cases h2 : v.Kind = 2
      · by_cases hn : v.N = 0
        · by_cases hs : v.S.size ≤ 6
          · have : (v.S.size : Int) ≤ 6 := by omega
            simp [beqF h0, beqF h1, h0, h1, h2, hn, hs, this]
          · have : ¬ (v.S.size : Int) ≤ 6 := by omega
            simp [beqF h0, beqF h1, h0, h1, h2, hn, hs, this]
        · simp [beqF h0, beqF h1, h0, h1, h2, beqF hn, hn]
      · by_cases h3 : v.Kind = 3
        · by_cases hs : v.S = ⟨#[]⟩ <;> simp [beqF h0, beqF h1, beqF h2, h0, h1, h2, h3, hs]
        · simp [beqF h0, beqF h1, beqF h2, beqF h3, h0, h1, h2, h3]
theorem E_spec_ValueOk {v : V} (h : v.S.size ≤ 900000000) : m_spec_ValueOk v = some (vOk v) := by
  unfold m_spec_ValueOk m_spec_ValueOk_j1 m_spec_ValueOk_j2 m_spec_ValueOk_j3 m_spec_ValueOk_j4 vOk; simp only [E_l1In, E_l1Text h, Option.bind_some, sEq_eq]; obtain ⟨k, n, s⟩ := v; simp only [S_impl_Value.mk.injEq]
  by_cases h0 : k = 0
  · by_cases hn : n = 0
    · simp [h0, hn]
    · simp [h0, hn, beqF hn]
  · by_cases h1 : k = 1
    · by_cases hs : s = ⟨#[]⟩ <;> by_cases ha : -9999 ≤ n <;> by_cases hb : n ≤ 9999 <;> simp [beqF h0, h0, h1, hs, ha, hb]
    · by_cases h2 : k = 2
      · by_cases hn : n = 0
        · simp [beqF h0, beqF h1, h0, h1, h2, hn, Bool.and_comm]
        · simp [beqF h0, beqF h1, h0, h1, h2, beqF hn, hn]
      · by_cases h3 : k = 3
        · by_cases hs : s = ⟨#[]⟩ <;> by_cases ha : 0 ≤ n <;> by_cases hb : n ≤ 1 <;> simp [beqF h0, beqF h1, beqF h2, h0, h1, h2, h3, hs, ha, hb]
        · simp [beqF h0, beqF h1, beqF h2, beqF h3, h0, h1, h2, h3]
theorem E_impl_RowOk {l : Row} (h : rSm l) : m_impl_RowOk l = some (rowOk l) := by
  unfold m_impl_RowOk m_impl_RowOk_j1 rowOk; obtain ⟨h1, h2⟩ := h; rw [E_IndexFunc_V (q := fun v => !(vOk v)) (by omega) (fun v hv => by unfold m_impl_RowOk_1; rw [E_Value_ok (by have := h2 v hv; unfold vSm at this; omega)]; rfl)]; simp only [Option.bind_some]; rw [List.all_eq_not_any_not]
  by_cases h : l.length ≤ 4
  · have : (l.length : Int) ≤ 4 := by omega
    simp [h, this]
  · have : ¬ (l.length : Int) ≤ 4 := by omega
    simp [h, this]
theorem E_spec_RowOk {l : Row} (h : rSm l) : m_spec_RowOk l = some (rowOk l) := by
  unfold m_spec_RowOk rowOk; obtain ⟨h1, h2⟩ := h
  have := scanA (p := fun v => !(vOk v)) (r0 := false) (r1 := decide ((l.length : Int) ≤ 4)) l (fun n k => m_spec_RowOk_l1 n l k) (fun n k x hx => by
    have := lt_of_at hx; have hsm := h2 x (List.mem_of_getElem? hx); unfold vSm at hsm; simp only [m_spec_RowOk_l1, dlt this, at_of hx, E_spec_ValueOk (show x.S.size ≤ 900000000 by omega), ck1 (show k < 1000000000000 by omega), Option.bind_some, cond_true]) (fun n => by simp only [m_spec_RowOk_l1, dnlt]; rfl) _ fuel0
  rw [this, List.all_eq_not_any_not]; have e : decide ((l.length : Int) ≤ 4) = decide (l.length ≤ 4) := by rw [decide_eq_decide]; omega
  rw [e]; cases l.any fun v => !(vOk v) <;> simp
theorem E_clone {l : Row} (h : l.length ≤ 900000000) : m_impl_clone_impl_Value l = some l := by
  unfold m_impl_clone_impl_Value appN?; cases l with
  | nil => rfl
  | cons x l =>
    have e : (((x :: l).length : Int) == 0) = false := by simp; omega
    rw [e, cond_false, if_pos ⟨by simp, by omega⟩, Option.bind_some]; rfl
theorem E_l3Own {l : Row} (h : l.length ≤ 900000000) : m_spec_l3Own l = some l := by
  unfold m_spec_l3Own; rw [app_of (by simp; omega)]; rfl
abbrev Rd := S_spec_l20Rd
def Rd.ok (o : Rd) : Prop := 0 ≤ o.p ∧ o.p ≤ 1000000000
theorem L_slices_IndexFunc_Limpl_Write_impl_Write {l : List S_impl_Write} {p : S_impl_Write → Option Bool} {q : S_impl_Write → Bool} (hl : l.length ≤ 900000000) (hp : ∀ v ∈ l, p v = some (q v)) : m_slices_IndexFunc_Limpl_Write_impl_Write l p = some (idxI q l) := by
  unfold m_slices_IndexFunc_Limpl_Write_impl_Write
  exact scanI (q := q) (g := fun i => some i) l (fun n k => m_slices_IndexFunc_Limpl_Write_impl_Write_l1 p n l (l.length : Int) k) (fun n k x hx => by
    have := lt_of_at hx; rw [m_slices_IndexFunc_Limpl_Write_impl_Write_l1, dlt this, cond_true]; simp only [at_of hx, Option.bind_some, hp x (List.mem_of_getElem? hx), ck1 (show k < 1000000000000 by omega)]) (fun n => by rw [m_slices_IndexFunc_Limpl_Write_impl_Write_l1, dnlt]; rfl) _ fuel0
theorem ltE {α β : Type} {x : α} {f : α → β} : lt x f = f x := rfl
theorem bneD {a b : Int} : (a != b) = !decide (a = b) := by by_cases h : a = b <;> simp [h]
theorem bneB {a b : Bool} : (a != b) = !decide (a = b) := by cases a <;> cases b <;> rfl
def wt_laws_Value (v : S_laws_Value) : Nat := v.S.size
theorem sz_laws_Value {a : S_laws_Value} {left : Int} (hB : B_laws_Value a) (h0 : 0 ≤ left) (h1 : left ≤ 1048576) : m_laws_szValue a left = some (szR left (wt_laws_Value a)) := by
  unfold m_laws_szValue wt_laws_Value; unfold B_laws_Value at hB; rw [ckSz' h0 h1 hB.2.2]; exact szE h0
def wt_Llaws_Value (l : (List S_laws_Value)) : Nat := l.length + (l.map fun x => wt_laws_Value x).sum
theorem wt_Llaws_Value_len {l : (List S_laws_Value)} : l.length ≤ wt_Llaws_Value l := by unfold wt_Llaws_Value; omega
theorem wt_Llaws_Value_mem {l : (List S_laws_Value)} {x : S_laws_Value} (h : x ∈ l) : wt_laws_Value x ≤ wt_Llaws_Value l := by have := sum_mem (wt := fun x : S_laws_Value => wt_laws_Value x) h; unfold wt_Llaws_Value; omega
theorem sz_Llaws_Value {a : (List S_laws_Value)} {left : Int} (hB : (B_list B_laws_Value) a) (h0 : 0 ≤ left) (h1 : left ≤ 1048576) : m_laws_szValueS a left = some (szR left (wt_Llaws_Value a)) := by
  unfold m_laws_szValueS wt_Llaws_Value; rw [ckSz' h0 h1 hB.1]; refine szC (k := fun z => m_laws_szValueS_l1 (((a.length : Int) - (0 : Int)).toNat + 1) a z 0) h0 (fun e => ?_); refine szLoop0 (fun x => wt_laws_Value x) a (fun f z k => m_laws_szValueS_l1 f a z k) (fun f k z x hx hk h2 h3 => ?_) (fun f z => by rw [m_laws_szValueS_l1, dnlt]; rfl) (by omega) _ (szR_0 e) (szR_le h1); rw [m_laws_szValueS_l1, dlt (lt_of_at hx), cond_true, at_of hx, Option.bind_some, sz_laws_Value (hB.2 x (List.mem_of_getElem? hx)) h2 h3, Option.bind_some]; rw [ck1 (by omega)]; rfl
def wt_laws_Version (v : S_laws_Version) : Nat := wt_Llaws_Value v.Row
theorem sz_laws_Version {a : S_laws_Version} {left : Int} (hB : B_laws_Version a) (h0 : 0 ≤ left) (h1 : left ≤ 1048576) : m_laws_szVersion a left = some (szR left (wt_laws_Version a)) := by
  unfold m_laws_szVersion wt_laws_Version; unfold B_laws_Version at hB; rw [sz_Llaws_Value hB.2.2.2 h0 h1, Option.bind_some]; exact szE h0
def wt_Llaws_Version (l : (List S_laws_Version)) : Nat := l.length + (l.map fun x => wt_laws_Version x).sum
theorem wt_Llaws_Version_len {l : (List S_laws_Version)} : l.length ≤ wt_Llaws_Version l := by unfold wt_Llaws_Version; omega
theorem wt_Llaws_Version_mem {l : (List S_laws_Version)} {x : S_laws_Version} (h : x ∈ l) : wt_laws_Version x ≤ wt_Llaws_Version l := by have := sum_mem (wt := fun x : S_laws_Version => wt_laws_Version x) h; unfold wt_Llaws_Version; omega
theorem sz_Llaws_Version {a : (List S_laws_Version)} {left : Int} (hB : (B_list B_laws_Version) a) (h0 : 0 ≤ left) (h1 : left ≤ 1048576) : m_laws_szVersionS a left = some (szR left (wt_Llaws_Version a)) := by
  unfold m_laws_szVersionS wt_Llaws_Version; rw [ckSz' h0 h1 hB.1]; refine szC (k := fun z => m_laws_szVersionS_l1 (((a.length : Int) - (0 : Int)).toNat + 1) a z 0) h0 (fun e => ?_); refine szLoop0 (fun x => wt_laws_Version x) a (fun f z k => m_laws_szVersionS_l1 f a z k) (fun f k z x hx hk h2 h3 => ?_) (fun f z => by rw [m_laws_szVersionS_l1, dnlt]; rfl) (by omega) _ (szR_0 e) (szR_le h1); rw [m_laws_szVersionS_l1, dlt (lt_of_at hx), cond_true, at_of hx, Option.bind_some, sz_laws_Version (hB.2 x (List.mem_of_getElem? hx)) h2 h3, Option.bind_some]; rw [ck1 (by omega)]; rfl
def wt_Lint (l : (List Int)) : Nat := l.length
theorem wt_Lint_len {l : (List Int)} : l.length ≤ wt_Lint l := by unfold wt_Lint; omega
theorem sz_Lint {a : (List Int)} {left : Int} (hB : (B_list B_int) a) (h0 : 0 ≤ left) (h1 : left ≤ 1048576) : m_laws_szIntS a left = some (szR left (wt_Lint a)) := by
  unfold m_laws_szIntS wt_Lint; rw [ckSz' h0 h1 hB.1]; exact szE h0
def wt_laws_Write (v : S_laws_Write) : Nat := wt_Llaws_Value v.Row
theorem sz_laws_Write {a : S_laws_Write} {left : Int} (hB : B_laws_Write a) (h0 : 0 ≤ left) (h1 : left ≤ 1048576) : m_laws_szWrite a left = some (szR left (wt_laws_Write a)) := by
  unfold m_laws_szWrite wt_laws_Write; unfold B_laws_Write at hB; rw [sz_Llaws_Value hB.2.1 h0 h1, Option.bind_some]; exact szE h0
def wt_Llaws_Write (l : (List S_laws_Write)) : Nat := l.length + (l.map fun x => wt_laws_Write x).sum
theorem wt_Llaws_Write_len {l : (List S_laws_Write)} : l.length ≤ wt_Llaws_Write l := by unfold wt_Llaws_Write; omega
theorem wt_Llaws_Write_mem {l : (List S_laws_Write)} {x : S_laws_Write} (h : x ∈ l) : wt_laws_Write x ≤ wt_Llaws_Write l := by have := sum_mem (wt := fun x : S_laws_Write => wt_laws_Write x) h; unfold wt_Llaws_Write; omega
theorem sz_Llaws_Write {a : (List S_laws_Write)} {left : Int} (hB : (B_list B_laws_Write) a) (h0 : 0 ≤ left) (h1 : left ≤ 1048576) : m_laws_szWriteS a left = some (szR left (wt_Llaws_Write a)) := by
  unfold m_laws_szWriteS wt_Llaws_Write; rw [ckSz' h0 h1 hB.1]; refine szC (k := fun z => m_laws_szWriteS_l1 (((a.length : Int) - (0 : Int)).toNat + 1) a z 0) h0 (fun e => ?_); refine szLoop0 (fun x => wt_laws_Write x) a (fun f z k => m_laws_szWriteS_l1 f a z k) (fun f k z x hx hk h2 h3 => ?_) (fun f z => by rw [m_laws_szWriteS_l1, dnlt]; rfl) (by omega) _ (szR_0 e) (szR_le h1); rw [m_laws_szWriteS_l1, dlt (lt_of_at hx), cond_true, at_of hx, Option.bind_some, sz_laws_Write (hB.2 x (List.mem_of_getElem? hx)) h2 h3, Option.bind_some]; rw [ck1 (by omega)]; rfl
def wt_laws_Txn (v : S_laws_Txn) : Nat := wt_Lint v.Reads + (wt_Llaws_Write v.Writes)
theorem sz_laws_Txn {a : S_laws_Txn} {left : Int} (hB : B_laws_Txn a) (h0 : 0 ≤ left) (h1 : left ≤ 1048576) : m_laws_szTxn a left = some (szR left (wt_laws_Txn a)) := by
  unfold m_laws_szTxn wt_laws_Txn; unfold B_laws_Txn at hB; rw [sz_Lint hB.2.2.2.1 h0 h1, Option.bind_some]; refine szC (k := fun z => _) h0 (fun e0 => ?_); rw [sz_Llaws_Write hB.2.2.2.2 (szR_0 e0) (szR_le h1), Option.bind_some]; exact szE (szR_0 e0)
def wt_Llaws_Txn (l : (List S_laws_Txn)) : Nat := l.length + (l.map fun x => wt_laws_Txn x).sum
theorem wt_Llaws_Txn_len {l : (List S_laws_Txn)} : l.length ≤ wt_Llaws_Txn l := by unfold wt_Llaws_Txn; omega
theorem wt_Llaws_Txn_mem {l : (List S_laws_Txn)} {x : S_laws_Txn} (h : x ∈ l) : wt_laws_Txn x ≤ wt_Llaws_Txn l := by have := sum_mem (wt := fun x : S_laws_Txn => wt_laws_Txn x) h; unfold wt_Llaws_Txn; omega
theorem sz_Llaws_Txn {a : (List S_laws_Txn)} {left : Int} (hB : (B_list B_laws_Txn) a) (h0 : 0 ≤ left) (h1 : left ≤ 1048576) : m_laws_szTxnS a left = some (szR left (wt_Llaws_Txn a)) := by
  unfold m_laws_szTxnS wt_Llaws_Txn; rw [ckSz' h0 h1 hB.1]; refine szC (k := fun z => m_laws_szTxnS_l1 (((a.length : Int) - (0 : Int)).toNat + 1) a z 0) h0 (fun e => ?_); refine szLoop0 (fun x => wt_laws_Txn x) a (fun f z k => m_laws_szTxnS_l1 f a z k) (fun f k z x hx hk h2 h3 => ?_) (fun f z => by rw [m_laws_szTxnS_l1, dnlt]; rfl) (by omega) _ (szR_0 e) (szR_le h1); rw [m_laws_szTxnS_l1, dlt (lt_of_at hx), cond_true, at_of hx, Option.bind_some, sz_laws_Txn (hB.2 x (List.mem_of_getElem? hx)) h2 h3, Option.bind_some]; rw [ck1 (by omega)]; rfl
def wt_laws_House (v : S_laws_House) : Nat := wt_Llaws_Version v.f_List + (wt_Llaws_Txn v.Txns)
theorem sz_laws_House {a : S_laws_House} {left : Int} (hB : B_laws_House a) (h0 : 0 ≤ left) (h1 : left ≤ 1048576) : m_laws_szHouse a left = some (szR left (wt_laws_House a)) := by
  unfold m_laws_szHouse wt_laws_House; unfold B_laws_House at hB; rw [sz_Llaws_Version hB.1 h0 h1, Option.bind_some]; refine szC (k := fun z => _) h0 (fun e0 => ?_); rw [sz_Llaws_Txn hB.2.2 (szR_0 e0) (szR_le h1), Option.bind_some]; exact szE (szR_0 e0)
def cv_laws_Value (v : S_laws_Value) : S_impl_Value := ⟨v.Kind, v.N, v.S⟩
theorem to_laws_Value {a : S_laws_Value} (h : wt_laws_Value a ≤ 100000000000) : m_laws_toValue a = some (cv_laws_Value a) := by
  unfold wt_laws_Value at h; unfold m_laws_toValue cv_laws_Value
  all_goals rfl
def wt_impl_Value (v : S_impl_Value) : Nat := v.S.size
theorem wc_laws_Value {v : S_laws_Value} : wt_impl_Value (cv_laws_Value v) = wt_laws_Value v := rfl
def cv_Llaws_Value (l : (List S_laws_Value)) : (List S_impl_Value) := l.map cv_laws_Value
theorem to_Llaws_Value {a : (List S_laws_Value)} (h : wt_Llaws_Value a ≤ 100000000000) : m_laws_toValueS a = some (cv_Llaws_Value a) := by
  have hl : a.length ≤ 100000000000 := by have := wt_Llaws_Value_len (l := a); omega
  unfold m_laws_toValueS cv_Llaws_Value; refine toLoop0 cv_laws_Value a _ (fun f k o => m_laws_toValueS_l1 f a k o) (fun f k o x hx hk ho => ?_) (fun f o => by rw [m_laws_toValueS_l1, dnlt]; rfl) (by omega); have hy := at_some (l := o) (k := k) (by have := lt_of_at hx; omega); rw [m_laws_toValueS_l1, dlt (lt_of_at hx), cond_true, at_of hx, Option.bind_some, to_laws_Value (by have := wt_Llaws_Value_mem (List.mem_of_getElem? hx); omega), Option.bind_some, hy, Option.bind_some, Option.bind_some]
  try rw [ltE]
  rw [ck1 (by omega), Option.bind_some, Int.toNat_natCast]; rfl
def wt_Limpl_Value (l : (List S_impl_Value)) : Nat := l.length + (l.map fun x => wt_impl_Value x).sum
theorem wt_Limpl_Value_len {l : (List S_impl_Value)} : l.length ≤ wt_Limpl_Value l := by unfold wt_Limpl_Value; omega
theorem wt_Limpl_Value_mem {l : (List S_impl_Value)} {x : S_impl_Value} (h : x ∈ l) : wt_impl_Value x ≤ wt_Limpl_Value l := by have := sum_mem (wt := fun x : S_impl_Value => wt_impl_Value x) h; unfold wt_Limpl_Value; omega
theorem wc_Llaws_Value {l : (List S_laws_Value)} : wt_Limpl_Value (cv_Llaws_Value l) = wt_Llaws_Value l := by
  unfold wt_Limpl_Value cv_Llaws_Value wt_Llaws_Value; rw [List.length_map, List.map_map]
  first | done | (congr 2; exact List.map_congr_left fun x _ => wc_laws_Value) | rfl
def cv_laws_Version (v : S_laws_Version) : S_impl_Version := ⟨v.Key, v.Born, v.Died, cv_Llaws_Value v.Row⟩
theorem to_laws_Version {a : S_laws_Version} (h : wt_laws_Version a ≤ 100000000000) : m_laws_toVersion a = some (cv_laws_Version a) := by
  unfold wt_laws_Version at h; unfold m_laws_toVersion cv_laws_Version
  try simp only [ltE]
  rw [to_Llaws_Value (by omega), Option.bind_some]
  all_goals rfl
def wt_impl_Version (v : S_impl_Version) : Nat := wt_Limpl_Value v.Row
theorem wc_laws_Version {v : S_laws_Version} : wt_impl_Version (cv_laws_Version v) = wt_laws_Version v := by
  unfold wt_impl_Version cv_laws_Version wt_laws_Version; simp only [wc_Llaws_Value]
def cv_Llaws_Version (l : (List S_laws_Version)) : (List S_impl_Version) := l.map cv_laws_Version
theorem to_Llaws_Version {a : (List S_laws_Version)} (h : wt_Llaws_Version a ≤ 100000000000) : m_laws_toVersionS a = some (cv_Llaws_Version a) := by
  have hl : a.length ≤ 100000000000 := by have := wt_Llaws_Version_len (l := a); omega
  unfold m_laws_toVersionS cv_Llaws_Version; refine toLoop0 cv_laws_Version a _ (fun f k o => m_laws_toVersionS_l1 f a k o) (fun f k o x hx hk ho => ?_) (fun f o => by rw [m_laws_toVersionS_l1, dnlt]; rfl) (by omega); have hy := at_some (l := o) (k := k) (by have := lt_of_at hx; omega); rw [m_laws_toVersionS_l1, dlt (lt_of_at hx), cond_true, at_of hx, Option.bind_some, to_laws_Version (by have := wt_Llaws_Version_mem (List.mem_of_getElem? hx); omega), Option.bind_some, hy, Option.bind_some, Option.bind_some]
  try rw [ltE]
  rw [ck1 (by omega), Option.bind_some, Int.toNat_natCast]; rfl
def wt_Limpl_Version (l : (List S_impl_Version)) : Nat := l.length + (l.map fun x => wt_impl_Version x).sum
theorem wt_Limpl_Version_len {l : (List S_impl_Version)} : l.length ≤ wt_Limpl_Version l := by unfold wt_Limpl_Version; omega
theorem wt_Limpl_Version_mem {l : (List S_impl_Version)} {x : S_impl_Version} (h : x ∈ l) : wt_impl_Version x ≤ wt_Limpl_Version l := by have := sum_mem (wt := fun x : S_impl_Version => wt_impl_Version x) h; unfold wt_Limpl_Version; omega
theorem wc_Llaws_Version {l : (List S_laws_Version)} : wt_Limpl_Version (cv_Llaws_Version l) = wt_Llaws_Version l := by
  unfold wt_Limpl_Version cv_Llaws_Version wt_Llaws_Version; rw [List.length_map, List.map_map]
  first | done | (congr 2; exact List.map_congr_left fun x _ => wc_laws_Version) | rfl
def cv_Lint (l : (List Int)) : (List Int) := l
theorem to_Lint {a : (List Int)} (h : wt_Lint a ≤ 100000000000) : m_laws_toIntS a = some (cv_Lint a) := by
  have hl : a.length ≤ 100000000000 := by have := wt_Lint_len (l := a); omega
  unfold m_laws_toIntS cv_Lint
  conv => rhs; rw [← List.map_id a]
  refine toLoop0 id a _ (fun f k o => m_laws_toIntS_l1 f a k o) (fun f k o x hx hk ho => ?_) (fun f o => by rw [m_laws_toIntS_l1, dnlt]; rfl) (by omega); have hy := at_some (l := o) (k := k) (by have := lt_of_at hx; omega); rw [m_laws_toIntS_l1, dlt (lt_of_at hx), cond_true, at_of hx, Option.bind_some, hy, Option.bind_some, Option.bind_some]
  try rw [ltE]
  rw [ck1 (by omega), Option.bind_some, Int.toNat_natCast]; rfl
def cv_laws_Write (v : S_laws_Write) : S_impl_Write := ⟨v.Key, cv_Llaws_Value v.Row, v.Gone⟩
theorem to_laws_Write {a : S_laws_Write} (h : wt_laws_Write a ≤ 100000000000) : m_laws_toWrite a = some (cv_laws_Write a) := by
  unfold wt_laws_Write at h; unfold m_laws_toWrite cv_laws_Write
  try simp only [ltE]
  rw [to_Llaws_Value (by omega), Option.bind_some]
  all_goals rfl
def wt_impl_Write (v : S_impl_Write) : Nat := wt_Limpl_Value v.Row
theorem wc_laws_Write {v : S_laws_Write} : wt_impl_Write (cv_laws_Write v) = wt_laws_Write v := by
  unfold wt_impl_Write cv_laws_Write wt_laws_Write; simp only [wc_Llaws_Value]
def cv_Llaws_Write (l : (List S_laws_Write)) : (List S_impl_Write) := l.map cv_laws_Write
theorem to_Llaws_Write {a : (List S_laws_Write)} (h : wt_Llaws_Write a ≤ 100000000000) : m_laws_toWriteS a = some (cv_Llaws_Write a) := by
  have hl : a.length ≤ 100000000000 := by have := wt_Llaws_Write_len (l := a); omega
  unfold m_laws_toWriteS cv_Llaws_Write; refine toLoop0 cv_laws_Write a _ (fun f k o => m_laws_toWriteS_l1 f a k o) (fun f k o x hx hk ho => ?_) (fun f o => by rw [m_laws_toWriteS_l1, dnlt]; rfl) (by omega); have hy := at_some (l := o) (k := k) (by have := lt_of_at hx; omega); rw [m_laws_toWriteS_l1, dlt (lt_of_at hx), cond_true, at_of hx, Option.bind_some, to_laws_Write (by have := wt_Llaws_Write_mem (List.mem_of_getElem? hx); omega), Option.bind_some, hy, Option.bind_some, Option.bind_some]
  try rw [ltE]
  rw [ck1 (by omega), Option.bind_some, Int.toNat_natCast]; rfl
def wt_Limpl_Write (l : (List S_impl_Write)) : Nat := l.length + (l.map fun x => wt_impl_Write x).sum
theorem wt_Limpl_Write_len {l : (List S_impl_Write)} : l.length ≤ wt_Limpl_Write l := by unfold wt_Limpl_Write; omega
theorem wt_Limpl_Write_mem {l : (List S_impl_Write)} {x : S_impl_Write} (h : x ∈ l) : wt_impl_Write x ≤ wt_Limpl_Write l := by have := sum_mem (wt := fun x : S_impl_Write => wt_impl_Write x) h; unfold wt_Limpl_Write; omega
theorem wc_Llaws_Write {l : (List S_laws_Write)} : wt_Limpl_Write (cv_Llaws_Write l) = wt_Llaws_Write l := by
  unfold wt_Limpl_Write cv_Llaws_Write wt_Llaws_Write; rw [List.length_map, List.map_map]
  first | done | (congr 2; exact List.map_congr_left fun x _ => wc_laws_Write) | rfl
def cv_laws_Txn (v : S_laws_Txn) : S_impl_Txn := ⟨v.State, v.Begin, v.End, cv_Lint v.Reads, cv_Llaws_Write v.Writes⟩
theorem to_laws_Txn {a : S_laws_Txn} (h : wt_laws_Txn a ≤ 100000000000) : m_laws_toTxn a = some (cv_laws_Txn a) := by
  unfold wt_laws_Txn at h; unfold m_laws_toTxn cv_laws_Txn
  try simp only [ltE]
  rw [to_Lint (by omega), Option.bind_some]
  try simp only [ltE]
  rw [to_Llaws_Write (by omega), Option.bind_some]
  all_goals rfl
def wt_impl_Txn (v : S_impl_Txn) : Nat := wt_Lint v.Reads + (wt_Limpl_Write v.Writes)
theorem wc_laws_Txn {v : S_laws_Txn} : wt_impl_Txn (cv_laws_Txn v) = wt_laws_Txn v := by
  unfold wt_impl_Txn cv_laws_Txn wt_laws_Txn; simp only [wc_Llaws_Write, cv_Lint]
def cv_Llaws_Txn (l : (List S_laws_Txn)) : (List S_impl_Txn) := l.map cv_laws_Txn
theorem to_Llaws_Txn {a : (List S_laws_Txn)} (h : wt_Llaws_Txn a ≤ 100000000000) : m_laws_toTxnS a = some (cv_Llaws_Txn a) := by
  have hl : a.length ≤ 100000000000 := by have := wt_Llaws_Txn_len (l := a); omega
  unfold m_laws_toTxnS cv_Llaws_Txn; refine toLoop0 cv_laws_Txn a _ (fun f k o => m_laws_toTxnS_l1 f a k o) (fun f k o x hx hk ho => ?_) (fun f o => by rw [m_laws_toTxnS_l1, dnlt]; rfl) (by omega); have hy := at_some (l := o) (k := k) (by have := lt_of_at hx; omega); rw [m_laws_toTxnS_l1, dlt (lt_of_at hx), cond_true, at_of hx, Option.bind_some, to_laws_Txn (by have := wt_Llaws_Txn_mem (List.mem_of_getElem? hx); omega), Option.bind_some, hy, Option.bind_some, Option.bind_some]
  try rw [ltE]
  rw [ck1 (by omega), Option.bind_some, Int.toNat_natCast]; rfl
def wt_Limpl_Txn (l : (List S_impl_Txn)) : Nat := l.length + (l.map fun x => wt_impl_Txn x).sum
theorem wt_Limpl_Txn_len {l : (List S_impl_Txn)} : l.length ≤ wt_Limpl_Txn l := by unfold wt_Limpl_Txn; omega
theorem wt_Limpl_Txn_mem {l : (List S_impl_Txn)} {x : S_impl_Txn} (h : x ∈ l) : wt_impl_Txn x ≤ wt_Limpl_Txn l := by have := sum_mem (wt := fun x : S_impl_Txn => wt_impl_Txn x) h; unfold wt_Limpl_Txn; omega
theorem wc_Llaws_Txn {l : (List S_laws_Txn)} : wt_Limpl_Txn (cv_Llaws_Txn l) = wt_Llaws_Txn l := by
  unfold wt_Limpl_Txn cv_Llaws_Txn wt_Llaws_Txn; rw [List.length_map, List.map_map]
  first | done | (congr 2; exact List.map_congr_left fun x _ => wc_laws_Txn) | rfl
def cv_laws_House (v : S_laws_House) : S_impl_House := ⟨cv_Llaws_Version v.f_List, v.Clock, cv_Llaws_Txn v.Txns⟩
theorem to_laws_House {a : S_laws_House} (h : wt_laws_House a ≤ 100000000000) : m_laws_toHouse a = some (cv_laws_House a) := by
  unfold wt_laws_House at h; unfold m_laws_toHouse cv_laws_House
  try simp only [ltE]
  rw [to_Llaws_Version (by omega), Option.bind_some]
  try simp only [ltE]
  rw [to_Llaws_Txn (by omega), Option.bind_some]
  all_goals rfl
def wt_impl_House (v : S_impl_House) : Nat := wt_Limpl_Version v.f_List + (wt_Limpl_Txn v.Txns)
theorem wc_laws_House {v : S_laws_House} : wt_impl_House (cv_laws_House v) = wt_laws_House v := by
  unfold wt_impl_House cv_laws_House wt_laws_House; simp only [wc_Llaws_Version, wc_Llaws_Txn]
theorem eq_impl_Value {a b : S_impl_Value} (h : wt_impl_Value a ≤ 100000000000) : m_laws_eqValue a b = some (decide (a = b)) := by
  unfold wt_impl_Value at h; unfold m_laws_eqValue; rw [bneD]
  by_cases g0 : a.Kind = b.Kind
  case neg => rw [decide_eq_false g0, Bool.not_false, cond_true, decide_eq_false (fun e => g0 (by rw [e]))]
  rw [decide_eq_true g0, Bool.not_true, cond_false]; rw [bneD]
  by_cases g1 : a.N = b.N
  case neg => rw [decide_eq_false g1, Bool.not_false, cond_true, decide_eq_false (fun e => g1 (by rw [e]))]
  rw [decide_eq_true g1, Bool.not_true, cond_false]; rw [sEq_eq]
  by_cases g2 : a.S = b.S
  case neg => rw [decide_eq_false g2, Bool.not_false, cond_true, decide_eq_false (fun e => g2 (by rw [e]))]
  rw [decide_eq_true g2, Bool.not_true, cond_false]; rw [decide_eq_true (show a = b by cases a; cases b; simp only at g0 g1 g2; subst g0 g1 g2; rfl)]
theorem eq_Limpl_Value {a b : (List S_impl_Value)} (h : wt_Limpl_Value a ≤ 100000000000) : m_laws_eqValueS a b = some (decide (a = b)) := by
  have hl : a.length ≤ 100000000000 := by have := wt_Limpl_Value_len (l := a); omega
  unfold m_laws_eqValueS; refine eqLoop a b (fun f k => m_laws_eqValueS_l1 f a b k) (fun f k x y hx hy hk => ?_) (fun f => by rw [m_laws_eqValueS_l1, dnlt]; rfl) (by omega); rw [m_laws_eqValueS_l1, dlt (lt_of_at hx), cond_true, at_of hx, Option.bind_some, at_of hy, Option.bind_some, eq_impl_Value (by have := wt_Limpl_Value_mem (List.mem_of_getElem? hx); omega), Option.bind_some, ck1 (by omega), Option.bind_some]; rfl
theorem eq_impl_Version {a b : S_impl_Version} (h : wt_impl_Version a ≤ 100000000000) : m_laws_eqVersion a b = some (decide (a = b)) := by
  unfold wt_impl_Version at h; unfold m_laws_eqVersion; rw [bneD]
  by_cases g0 : a.Key = b.Key
  case neg => rw [decide_eq_false g0, Bool.not_false, cond_true, decide_eq_false (fun e => g0 (by rw [e]))]
  rw [decide_eq_true g0, Bool.not_true, cond_false]; rw [bneD]
  by_cases g1 : a.Born = b.Born
  case neg => rw [decide_eq_false g1, Bool.not_false, cond_true, decide_eq_false (fun e => g1 (by rw [e]))]
  rw [decide_eq_true g1, Bool.not_true, cond_false]; rw [bneD]
  by_cases g2 : a.Died = b.Died
  case neg => rw [decide_eq_false g2, Bool.not_false, cond_true, decide_eq_false (fun e => g2 (by rw [e]))]
  rw [decide_eq_true g2, Bool.not_true, cond_false]; rw [eq_Limpl_Value (by omega), Option.bind_some]
  by_cases g3 : a.Row = b.Row
  case neg => rw [decide_eq_false g3, Bool.not_false, cond_true, decide_eq_false (fun e => g3 (by rw [e]))]
  rw [decide_eq_true g3, Bool.not_true, cond_false]; rw [decide_eq_true (show a = b by cases a; cases b; simp only at g0 g1 g2 g3; subst g0 g1 g2 g3; rfl)]
theorem eq_Limpl_Version {a b : (List S_impl_Version)} (h : wt_Limpl_Version a ≤ 100000000000) : m_laws_eqVersionS a b = some (decide (a = b)) := by
  have hl : a.length ≤ 100000000000 := by have := wt_Limpl_Version_len (l := a); omega
  unfold m_laws_eqVersionS; refine eqLoop a b (fun f k => m_laws_eqVersionS_l1 f a b k) (fun f k x y hx hy hk => ?_) (fun f => by rw [m_laws_eqVersionS_l1, dnlt]; rfl) (by omega); rw [m_laws_eqVersionS_l1, dlt (lt_of_at hx), cond_true, at_of hx, Option.bind_some, at_of hy, Option.bind_some, eq_impl_Version (by have := wt_Limpl_Version_mem (List.mem_of_getElem? hx); omega), Option.bind_some, ck1 (by omega), Option.bind_some]; rfl
theorem eq_Lint {a b : (List Int)} (h : wt_Lint a ≤ 100000000000) : m_laws_eqIntS a b = some (decide (a = b)) := by
  have hl : a.length ≤ 100000000000 := by have := wt_Lint_len (l := a); omega
  unfold m_laws_eqIntS; refine eqLoop a b (fun f k => m_laws_eqIntS_l1 f a b k) (fun f k x y hx hy hk => ?_) (fun f => by rw [m_laws_eqIntS_l1, dnlt]; rfl) (by omega); rw [m_laws_eqIntS_l1, dlt (lt_of_at hx), cond_true, at_of hx, Option.bind_some, at_of hy, Option.bind_some, bneD, ck1 (by omega), Option.bind_some]; rfl
theorem eq_impl_Write {a b : S_impl_Write} (h : wt_impl_Write a ≤ 100000000000) : m_laws_eqWrite a b = some (decide (a = b)) := by
  unfold wt_impl_Write at h; unfold m_laws_eqWrite; rw [bneD]
  by_cases g0 : a.Key = b.Key
  case neg => rw [decide_eq_false g0, Bool.not_false, cond_true, decide_eq_false (fun e => g0 (by rw [e]))]
  rw [decide_eq_true g0, Bool.not_true, cond_false]; rw [eq_Limpl_Value (by omega), Option.bind_some]
  by_cases g1 : a.Row = b.Row
  case neg => rw [decide_eq_false g1, Bool.not_false, cond_true, decide_eq_false (fun e => g1 (by rw [e]))]
  rw [decide_eq_true g1, Bool.not_true, cond_false]; rw [bneB]
  by_cases g2 : a.Gone = b.Gone
  case neg => rw [decide_eq_false g2, Bool.not_false, cond_true, decide_eq_false (fun e => g2 (by rw [e]))]
  rw [decide_eq_true g2, Bool.not_true, cond_false]; rw [decide_eq_true (show a = b by cases a; cases b; simp only at g0 g1 g2; subst g0 g1 g2; rfl)]
theorem eq_Limpl_Write {a b : (List S_impl_Write)} (h : wt_Limpl_Write a ≤ 100000000000) : m_laws_eqWriteS a b = some (decide (a = b)) := by
  have hl : a.length ≤ 100000000000 := by have := wt_Limpl_Write_len (l := a); omega
  unfold m_laws_eqWriteS; refine eqLoop a b (fun f k => m_laws_eqWriteS_l1 f a b k) (fun f k x y hx hy hk => ?_) (fun f => by rw [m_laws_eqWriteS_l1, dnlt]; rfl) (by omega); rw [m_laws_eqWriteS_l1, dlt (lt_of_at hx), cond_true, at_of hx, Option.bind_some, at_of hy, Option.bind_some, eq_impl_Write (by have := wt_Limpl_Write_mem (List.mem_of_getElem? hx); omega), Option.bind_some, ck1 (by omega), Option.bind_some]; rfl
theorem eq_impl_Txn {a b : S_impl_Txn} (h : wt_impl_Txn a ≤ 100000000000) : m_laws_eqTxn a b = some (decide (a = b)) := by
  unfold wt_impl_Txn at h; unfold m_laws_eqTxn; rw [bneD]
  by_cases g0 : a.State = b.State
  case neg => rw [decide_eq_false g0, Bool.not_false, cond_true, decide_eq_false (fun e => g0 (by rw [e]))]
  rw [decide_eq_true g0, Bool.not_true, cond_false]; rw [bneD]
  by_cases g1 : a.Begin = b.Begin
  case neg => rw [decide_eq_false g1, Bool.not_false, cond_true, decide_eq_false (fun e => g1 (by rw [e]))]
  rw [decide_eq_true g1, Bool.not_true, cond_false]; rw [bneD]
  by_cases g2 : a.End = b.End
  case neg => rw [decide_eq_false g2, Bool.not_false, cond_true, decide_eq_false (fun e => g2 (by rw [e]))]
  rw [decide_eq_true g2, Bool.not_true, cond_false]; rw [eq_Lint (by omega), Option.bind_some]
  by_cases g3 : a.Reads = b.Reads
  case neg => rw [decide_eq_false g3, Bool.not_false, cond_true, decide_eq_false (fun e => g3 (by rw [e]))]
  rw [decide_eq_true g3, Bool.not_true, cond_false]; rw [eq_Limpl_Write (by omega), Option.bind_some]
  by_cases g4 : a.Writes = b.Writes
  case neg => rw [decide_eq_false g4, Bool.not_false, cond_true, decide_eq_false (fun e => g4 (by rw [e]))]
  rw [decide_eq_true g4, Bool.not_true, cond_false]; rw [decide_eq_true (show a = b by cases a; cases b; simp only at g0 g1 g2 g3 g4; subst g0 g1 g2 g3 g4; rfl)]
theorem eq_Limpl_Txn {a b : (List S_impl_Txn)} (h : wt_Limpl_Txn a ≤ 100000000000) : m_laws_eqTxnS a b = some (decide (a = b)) := by
  have hl : a.length ≤ 100000000000 := by have := wt_Limpl_Txn_len (l := a); omega
  unfold m_laws_eqTxnS; refine eqLoop a b (fun f k => m_laws_eqTxnS_l1 f a b k) (fun f k x y hx hy hk => ?_) (fun f => by rw [m_laws_eqTxnS_l1, dnlt]; rfl) (by omega); rw [m_laws_eqTxnS_l1, dlt (lt_of_at hx), cond_true, at_of hx, Option.bind_some, at_of hy, Option.bind_some, eq_impl_Txn (by have := wt_Limpl_Txn_mem (List.mem_of_getElem? hx); omega), Option.bind_some, ck1 (by omega), Option.bind_some]; rfl
theorem eq_impl_House {a b : S_impl_House} (h : wt_impl_House a ≤ 100000000000) : m_laws_eqHouse a b = some (decide (a = b)) := by
  unfold wt_impl_House at h; unfold m_laws_eqHouse; rw [eq_Limpl_Version (by omega), Option.bind_some]
  by_cases g0 : a.f_List = b.f_List
  case neg => rw [decide_eq_false g0, Bool.not_false, cond_true, decide_eq_false (fun e => g0 (by rw [e]))]
  rw [decide_eq_true g0, Bool.not_true, cond_false]; rw [bneD]
  by_cases g1 : a.Clock = b.Clock
  case neg => rw [decide_eq_false g1, Bool.not_false, cond_true, decide_eq_false (fun e => g1 (by rw [e]))]
  rw [decide_eq_true g1, Bool.not_true, cond_false]; rw [eq_Limpl_Txn (by omega), Option.bind_some]
  by_cases g2 : a.Txns = b.Txns
  case neg => rw [decide_eq_false g2, Bool.not_false, cond_true, decide_eq_false (fun e => g2 (by rw [e]))]
  rw [decide_eq_true g2, Bool.not_true, cond_false]; rw [decide_eq_true (show a = b by cases a; cases b; simp only at g0 g1 g2; subst g0 g1 g2; rfl)]
abbrev Ver := S_impl_Version
abbrev Wr := S_impl_Write
def keyB (n : Int) : Bool := decide (0 ≤ n) && decide (n ≤ 4)
def vb (v : Ver) : Bool := keyB v.Key && ((decide (1 ≤ v.Born) && decide (v.Born ≤ 40)) && ((decide (v.Died = 0) || (decide (v.Born + 1 ≤ v.Died) && decide (v.Died ≤ 40))) && rowOk v.Row))
def vbad (w v : Ver) : Bool := decide (w.Key > v.Key) || (decide (w.Key = v.Key) && (decide (w.Died = 0) || decide (w.Died > v.Born)))
def verOk (l : List Ver) : Bool := l.all vb && adjB vbad l && decide ((l.length : Int) ≤ 60)
theorem E_keyOk (n : Int) : m_impl_keyOk n = some (keyB n) := by unfold m_impl_keyOk; rw [E_between, Option.bind_some]; rfl
theorem nat01 : ((0 : Nat) : Int) + 1 = 1 := rfl
theorem natS {k : Nat} : ((k : Nat) : Int) + 1 = ((k + 1 : Nat) : Int) := by omega
theorem neF {a b : Int} (h : a = b) : (a != b) = false := by simp [h]
theorem vb_nums {v : Ver} (h : vb v = true) : 0 ≤ v.Key ∧ v.Key ≤ 4 ∧ 1 ≤ v.Born ∧ v.Born ≤ 40 ∧ (v.Died = 0 ∨ (v.Born + 1 ≤ v.Died ∧ v.Died ≤ 40)) ∧ rowOk v.Row = true := by
  unfold vb keyB at h; simp only [Bool.and_eq_true, Bool.or_eq_true, decide_eq_true_eq] at h; exact ⟨h.1.1, h.1.2, h.2.1.1, h.2.1.2, h.2.2.1, h.2.2.2⟩
theorem ivo_head {l : List Ver} {n k : Nat} {x : Ver} (hx : l[k]? = some x) (hr : rSm x.Row) : m_impl_VersionsOk_l1 (n + 1) l l (l.length : Int) (k : Int) = m_impl_VersionsOk_j1 (m_impl_VersionsOk_l1 n) l (k : Int) l (l.length : Int) (k : Int) (!vb x) x := by
  have hlt := lt_of_at hx; rw [m_impl_VersionsOk_l1, dlt hlt, cond_true, at_of hx, Option.bind_some, ltE, E_keyOk, Option.bind_some]; unfold vb; cases hA : keyB x.Key with
  | false => simp only [cond_true, cond_false, Bool.not_true, Bool.not_false, Bool.not_not, Bool.true_and, Bool.false_and, Bool.and_true, Bool.and_false, Bool.true_or, Bool.false_or, Bool.or_true, Bool.or_false]
  | true =>
    rw [Bool.not_true, cond_false, E_between, Option.bind_some, Bool.true_and]; cases hB : (decide (1 ≤ x.Born) && decide (x.Born ≤ 40)) with
    | false => simp only [cond_true, cond_false, Bool.not_true, Bool.not_false, Bool.not_not, Bool.true_and, Bool.false_and, Bool.and_true, Bool.and_false, Bool.true_or, Bool.false_or, Bool.or_true, Bool.or_false]
    | true =>
      rw [Bool.not_true, cond_false, Bool.true_and]
      by_cases hd : x.Died = 0
      · rw [neF hd, cond_false, E_impl_RowOk hr, Option.bind_some, decide_eq_true hd, Bool.true_or, Bool.true_and]
      · have hb := hB
        simp only [Bool.and_eq_true, decide_eq_true_eq] at hb; rw [beqF' hd, cond_true, ckI_of (by omega) (by omega), Option.bind_some, E_between, Option.bind_some, decide_eq_false hd, Bool.false_or]; cases hC : (decide (x.Born + 1 ≤ x.Died) && decide (x.Died ≤ 40)) with
        | false => simp only [cond_true, cond_false, Bool.not_true, Bool.not_false, Bool.not_not, Bool.true_and, Bool.false_and, Bool.and_true, Bool.and_false, Bool.true_or, Bool.false_or, Bool.or_true, Bool.or_false]
        | true => rw [Bool.not_true, cond_false, E_impl_RowOk hr, Option.bind_some, Bool.true_and]
theorem E_impl_VersionsOk {l : List Ver} (hl : l.length ≤ 3000000) (hr : ∀ v ∈ l, rSm v.Row) : m_impl_VersionsOk l = some (verOk l) := by
  unfold m_impl_VersionsOk verOk; refine scanPrev (p := vb) (bad := vbad) l (fun n k => m_impl_VersionsOk_l1 n l l (l.length : Int) k) (fun n x hx => ?_) (fun n k x y hx hy hp => ?_) (fun n => ?_) _ fuel0
  · show m_impl_VersionsOk_l1 (n + 1) l l (l.length : Int) ((0 : Nat) : Int) = _
    rw [ivo_head hx (hr x (List.mem_of_getElem? hx))]; unfold m_impl_VersionsOk_j1; cases vb x with
    | false => simp only [cond_true, cond_false, Bool.not_true, Bool.not_false, Bool.not_not, Bool.true_and, Bool.false_and, Bool.and_true, Bool.and_false, Bool.true_or, Bool.false_or, Bool.or_true, Bool.or_false]
    | true =>
      rw [Bool.not_true, cond_false, cond_true, show (((0 : Nat) : Int) == 0) = true from rfl, cond_true]; unfold m_impl_VersionsOk_j3; rw [ck1 (by omega), Option.bind_some, nat01]
  · rw [ivo_head hx (hr x (List.mem_of_getElem? hx))]
    have hlt := lt_of_at hx; unfold m_impl_VersionsOk_j1; cases vb x with
    | false => simp only [cond_true, cond_false, Bool.not_true, Bool.not_false, Bool.not_not, Bool.true_and, Bool.false_and, Bool.and_true, Bool.and_false, Bool.true_or, Bool.false_or, Bool.or_true, Bool.or_false]
    | true =>
      rw [Bool.not_true, cond_false, Bool.true_and, beqF (show ¬ ((k + 1 : Nat) : Int) = 0 by omega), cond_false, ckdd (by omega), Option.bind_some, at_of hy, Option.bind_some, ltE]; have hn := vb_nums hp; unfold vbad; have stop : m_impl_VersionsOk_j2 (m_impl_VersionsOk_l1 n) l l (l.length : Int) ((k + 1 : Nat) : Int) true = some false := by unfold m_impl_VersionsOk_j2; rw [cond_true]
      have next : m_impl_VersionsOk_j2 (m_impl_VersionsOk_l1 n) l l (l.length : Int) ((k + 1 : Nat) : Int) false = m_impl_VersionsOk_l1 n l l (l.length : Int) ((k + 1 + 1 : Nat) : Int) := by
        unfold m_impl_VersionsOk_j2 m_impl_VersionsOk_j3; rw [cond_false, ck1 (by omega), Option.bind_some, show ((k + 1 : Nat) : Int) + 1 = ((k + 1 + 1 : Nat) : Int) by omega]
      by_cases h1 : y.Key > x.Key
      · rw [decide_eq_true h1, cond_true, stop]; simp only [cond_true, cond_false, Bool.not_true, Bool.not_false, Bool.not_not, Bool.true_and, Bool.false_and, Bool.and_true, Bool.and_false, Bool.true_or, Bool.false_or, Bool.or_true, Bool.or_false]
      · rw [decide_eq_false h1, cond_false, Bool.false_or]
        by_cases h2 : y.Key = x.Key
        · rw [show (y.Key == x.Key) = true by simp [h2], cond_true, decide_eq_true h2, Bool.true_and]
          by_cases h3 : y.Born ≥ x.Born
          · rw [decide_eq_true h3, cond_true]
            by_cases h4 : y.Died = 0
            · rw [stop, decide_eq_true h4]; simp only [cond_true, cond_false, Bool.not_true, Bool.not_false, Bool.not_not, Bool.true_and, Bool.false_and, Bool.and_true, Bool.and_false, Bool.true_or, Bool.false_or, Bool.or_true, Bool.or_false]
            · rw [stop, decide_eq_false h4, decide_eq_true (show y.Died > x.Born by omega)]; simp only [cond_true, cond_false, Bool.not_true, Bool.not_false, Bool.not_not, Bool.true_and, Bool.false_and, Bool.and_true, Bool.and_false, Bool.true_or, Bool.false_or, Bool.or_true, Bool.or_false]
          · rw [decide_eq_false h3, cond_false]
            by_cases h4 : y.Died = 0
            · rw [show (y.Died == 0) = true by simp [h4], cond_true, decide_eq_true h4, stop]; simp only [cond_true, cond_false, Bool.not_true, Bool.not_false, Bool.not_not, Bool.true_and, Bool.false_and, Bool.and_true, Bool.and_false, Bool.true_or, Bool.false_or, Bool.or_true, Bool.or_false]
            · rw [beqF h4, cond_false, decide_eq_false h4, Bool.false_or]
              by_cases h5 : y.Died > x.Born
              · rw [decide_eq_true h5, stop]; simp only [cond_true, cond_false, Bool.not_true, Bool.not_false, Bool.not_not, Bool.true_and, Bool.false_and, Bool.and_true, Bool.and_false, Bool.true_or, Bool.false_or, Bool.or_true, Bool.or_false]
              · rw [decide_eq_false h5, next]; simp only [cond_true, cond_false, Bool.not_true, Bool.not_false, Bool.not_not, Bool.true_and, Bool.false_and, Bool.and_true, Bool.and_false, Bool.true_or, Bool.false_or, Bool.or_true, Bool.or_false]
        · rw [beqF h2, cond_false, decide_eq_false h2, Bool.false_and, next]; simp only [cond_true, cond_false, Bool.not_true, Bool.not_false, Bool.not_not, Bool.true_and, Bool.false_and, Bool.and_true, Bool.and_false, Bool.true_or, Bool.false_or, Bool.or_true, Bool.or_false]
  · rw [m_impl_VersionsOk_l1, dnlt, cond_false]; rfl
theorem E_l13Version {x : Ver} (hr : rSm x.Row) : m_spec_l13Version x = some (vb x) := by
  unfold m_spec_l13Version m_spec_l13Version_j1 vb; rw [E_l1In, Option.bind_some]; show (bif keyB x.Key then _ else _) = _; cases hA : keyB x.Key with
  | false => simp only [cond_true, cond_false, Bool.not_true, Bool.not_false, Bool.not_not, Bool.true_and, Bool.false_and, Bool.and_true, Bool.and_false, Bool.true_or, Bool.false_or, Bool.or_true, Bool.or_false]
  | true =>
    rw [cond_true, E_l1In, Option.bind_some, Bool.true_and]; cases hB : (decide (1 ≤ x.Born) && decide (x.Born ≤ 40)) with
    | false => simp only [cond_true, cond_false, Bool.not_true, Bool.not_false, Bool.not_not, Bool.true_and, Bool.false_and, Bool.and_true, Bool.and_false, Bool.true_or, Bool.false_or, Bool.or_true, Bool.or_false]
    | true =>
      rw [cond_true, Bool.true_and]
      by_cases hd : x.Died = 0
      · rw [show (x.Died == 0) = true by simp [hd], cond_true, E_spec_RowOk hr, Option.bind_some, decide_eq_true hd, Bool.true_or, Bool.true_and]
      · have hb := hB
        simp only [Bool.and_eq_true, decide_eq_true_eq] at hb; rw [beqF hd, cond_false, ckI_of (by omega) (by omega), Option.bind_some, E_l1In, Option.bind_some, decide_eq_false hd, Bool.false_or]; cases hC : (decide (x.Born + 1 ≤ x.Died) && decide (x.Died ≤ 40)) with
        | false => simp only [cond_true, cond_false, Bool.not_true, Bool.not_false, Bool.not_not, Bool.true_and, Bool.false_and, Bool.and_true, Bool.and_false, Bool.true_or, Bool.false_or, Bool.or_true, Bool.or_false]
        | true => rw [cond_true, E_spec_RowOk hr, Option.bind_some, Bool.true_and]
theorem E_spec_VersionsOk {l : List Ver} (hl : l.length ≤ 3000000) (hr : ∀ v ∈ l, rSm v.Row) : m_spec_VersionsOk l = some (verOk l) := by
  unfold m_spec_VersionsOk verOk; refine scanPrev (p := vb) (bad := vbad) l (fun n k => m_spec_VersionsOk_l1 n l k) (fun n x hx => ?_) (fun n k x y hx hy hp => ?_) (fun n => ?_) _ fuel0
  · have hlt := lt_of_at hx
    have hx' : at? l 0 = some x := at_of hx; show m_spec_VersionsOk_l1 (n + 1) l ((0 : Nat) : Int) = _; rw [m_spec_VersionsOk_l1, dlt hlt, cond_true, at_of hx, Option.bind_some, E_l13Version (hr x (List.mem_of_getElem? hx)), Option.bind_some]; cases vb x with
    | false => simp only [cond_true, cond_false, Bool.not_true, Bool.not_false, Bool.not_not, Bool.true_and, Bool.false_and, Bool.and_true, Bool.and_false, Bool.true_or, Bool.false_or, Bool.or_true, Bool.or_false]
    | true =>
      rw [Bool.not_true, cond_false, cond_true, dgt00, cond_false]; unfold m_spec_VersionsOk_j1; rw [cond_false, ck1 (by omega), Option.bind_some, nat01]
  · have hlt := lt_of_at hx
    have stop : m_spec_VersionsOk_j1 (m_spec_VersionsOk_l1 n) l ((k + 1 : Nat) : Int) true = some false := by unfold m_spec_VersionsOk_j1; rw [cond_true]
    have next : m_spec_VersionsOk_j1 (m_spec_VersionsOk_l1 n) l ((k + 1 : Nat) : Int) false = m_spec_VersionsOk_l1 n l ((k + 1 + 1 : Nat) : Int) := by
      unfold m_spec_VersionsOk_j1; rw [cond_false, ck1 (by omega), Option.bind_some, show ((k + 1 : Nat) : Int) + 1 = ((k + 1 + 1 : Nat) : Int) by omega]
    rw [m_spec_VersionsOk_l1, dlt hlt, cond_true, at_of hx, Option.bind_some, E_l13Version (hr x (List.mem_of_getElem? hx)), Option.bind_some]; cases vb x with
    | false => simp only [cond_true, cond_false, Bool.not_true, Bool.not_false, Bool.not_not, Bool.true_and, Bool.false_and, Bool.and_true, Bool.and_false, Bool.true_or, Bool.false_or, Bool.or_true, Bool.or_false]
    | true =>
      rw [Bool.not_true, cond_false, Bool.true_and, dgt0, cond_true, ckdd (by omega), Option.bind_some, at_of hy, Option.bind_some, Option.bind_some]; unfold vbad
      by_cases h0 : y.Key ≥ x.Key
      · rw [decide_eq_true h0, cond_true, Option.bind_some, at_of hy, Option.bind_some, Option.bind_some]
        by_cases h1 : y.Key > x.Key
        · rw [decide_eq_true h1, cond_true, stop]; simp only [cond_true, cond_false, Bool.not_true, Bool.not_false, Bool.not_not, Bool.true_and, Bool.false_and, Bool.and_true, Bool.and_false, Bool.true_or, Bool.false_or, Bool.or_true, Bool.or_false]
        · have h2 : y.Key = x.Key := by omega
          rw [decide_eq_false h1, cond_false, Option.bind_some, at_of hy, Option.bind_some, Bool.false_or, decide_eq_true h2, Bool.true_and]
          by_cases h4 : y.Died = 0
          · rw [show (y.Died == 0) = true by simp [h4], cond_true, decide_eq_true h4, stop]; simp only [cond_true, cond_false, Bool.not_true, Bool.not_false, Bool.not_not, Bool.true_and, Bool.false_and, Bool.and_true, Bool.and_false, Bool.true_or, Bool.false_or, Bool.or_true, Bool.or_false]
          · rw [beqF h4, cond_false, Option.bind_some, at_of hy, Option.bind_some, Option.bind_some, decide_eq_false h4, Bool.false_or]
            by_cases h5 : y.Died > x.Born
            · rw [decide_eq_true h5, stop]; simp only [cond_true, cond_false, Bool.not_true, Bool.not_false, Bool.not_not, Bool.true_and, Bool.false_and, Bool.and_true, Bool.and_false, Bool.true_or, Bool.false_or, Bool.or_true, Bool.or_false]
            · rw [decide_eq_false h5, next]; simp only [cond_true, cond_false, Bool.not_true, Bool.not_false, Bool.not_not, Bool.true_and, Bool.false_and, Bool.and_true, Bool.and_false, Bool.true_or, Bool.false_or, Bool.or_true, Bool.or_false]
      · rw [decide_eq_false h0, cond_false, decide_eq_false (show ¬ y.Key > x.Key by omega), Bool.false_or, decide_eq_false (show ¬ y.Key = x.Key by omega), Bool.false_and, next]; simp only [cond_true, cond_false, Bool.not_true, Bool.not_false, Bool.not_not, Bool.true_and, Bool.false_and, Bool.and_true, Bool.and_false, Bool.true_or, Bool.false_or, Bool.or_true, Bool.or_false]
  · rw [m_spec_VersionsOk_l1, dnlt, cond_false]; rfl
def wb (w : Wr) : Bool := keyB w.Key && (rowOk w.Row && !(w.Gone && decide ((w.Row.length : Int) > 0)))
def wbad (x w : Wr) : Bool := decide (x.Key ≥ w.Key)
def wOk (l : List Wr) : Bool := l.all wb && adjB wbad l
theorem adj_len {l : List Wr} (h : wOk l = true) : l.length ≤ 5 := by
  unfold wOk at h; rw [Bool.and_eq_true, adjB_iff] at h; obtain ⟨h1, h2⟩ := h
  have key : ∀ (k : Nat) (x : Wr), l[k]? = some x → (k : Int) ≤ x.Key := by
    intro k
    induction k with
    | zero =>
      intro x hx; have := List.all_eq_true.1 h1 x (List.mem_of_getElem? hx); unfold wb keyB at this; simp only [Bool.and_eq_true, decide_eq_true_eq] at this; omega
    | succ k ih =>
      intro x hx; have hlt := lt_of_at hx; have hy : l[k]? = some l[k] := List.getElem?_eq_getElem (by omega); have := h2 k _ _ hy hx; unfold wbad at this; rw [decide_eq_false_iff_not] at this; have := ih _ hy; omega
  rcases Nat.lt_or_ge 5 l.length with h5 | h5
  · have hx : l[5]? = some l[5] := List.getElem?_eq_getElem h5
    have a := key 5 _ hx; have := List.all_eq_true.1 h1 _ (List.mem_of_getElem? hx); unfold wb keyB at this; simp only [Bool.and_eq_true, decide_eq_true_eq] at this; omega
  · exact h5
theorem E_impl_WritesOk {l : List Wr} (hl : l.length ≤ 3000000) (hr : ∀ v ∈ l, rSm v.Row) : m_impl_WritesOk l = some (wOk l) := by
  have main : m_impl_WritesOk l = some (l.all wb && adjB wbad l && decide ((l.length : Int) ≤ 5)) := by
    unfold m_impl_WritesOk
    have head : ∀ n (k : Nat) x (c : Bool) (hc : (bif decide ((k : Int) > 0) then ((ckI ((k : Int) - 1)).bind fun x21 => (at? l x21).bind fun x22 => m_impl_WritesOk_j1 (m_impl_WritesOk_l1 n) l l (l.length : Int) (k : Int) (decide (x22.Key ≥ x.Key))) else (m_impl_WritesOk_j1 (m_impl_WritesOk_l1 n) l l (l.length : Int) (k : Int) false)) = m_impl_WritesOk_j1 (m_impl_WritesOk_l1 n) l l (l.length : Int) (k : Int) c), l[k]? = some x → m_impl_WritesOk_l1 (n + 1) l l (l.length : Int) (k : Int) = m_impl_WritesOk_j1 (m_impl_WritesOk_l1 n) l l (l.length : Int) (k : Int) (!(wb x) || c) := by
      intro n k x c hc hx; have hlt := lt_of_at hx; rw [m_impl_WritesOk_l1, dlt hlt, cond_true, at_of hx, Option.bind_some, ltE, E_keyOk, Option.bind_some]; unfold wb; cases keyB x.Key with
      | false => rw [Bool.not_false, cond_true, Bool.false_and, Bool.not_false, Bool.true_or]
      | true =>
        rw [Bool.not_true, cond_false, E_impl_RowOk (hr x (List.mem_of_getElem? hx)), Option.bind_some, Bool.true_and]; cases rowOk x.Row with
        | false => rw [Bool.not_false, cond_true, Bool.false_and, Bool.not_false, Bool.true_or]
        | true =>
          rw [Bool.not_true, cond_false, Bool.true_and, Bool.not_not]; cases x.Gone with
          | true =>
            rw [cond_true, Bool.true_and]
            by_cases h : (x.Row.length : Int) > 0
            · rw [decide_eq_true h, cond_true, Bool.true_or]
            · rw [decide_eq_false h, cond_false, Bool.false_or]; exact hc
          | false => rw [cond_false, Bool.false_and, Bool.false_or]; exact hc
    refine scanPrev (p := wb) (bad := wbad) l (fun n k => m_impl_WritesOk_l1 n l l (l.length : Int) k) (fun n x hx => ?_) (fun n k x y hx hy hp => ?_) (fun n => ?_) _ fuel0
    · show m_impl_WritesOk_l1 (n + 1) l l (l.length : Int) ((0 : Nat) : Int) = _
      rw [head n 0 x false (by rw [dgt00, cond_false]) hx]; unfold m_impl_WritesOk_j1; cases wb x with
      | false => simp only [cond_true, cond_false, Bool.not_true, Bool.not_false, Bool.not_not, Bool.true_and, Bool.false_and, Bool.and_true, Bool.and_false, Bool.true_or, Bool.false_or, Bool.or_true, Bool.or_false]
      | true => simp only [cond_true, cond_false, Bool.not_true, Bool.not_false, Bool.not_not, Bool.true_and, Bool.false_and, Bool.and_true, Bool.and_false, Bool.true_or, Bool.false_or, Bool.or_true, Bool.or_false]; rw [ck1 (by omega), Option.bind_some, nat01]
    · have hlt := lt_of_at hx
      rw [head n (k + 1) x (wbad y x) (by rw [dgt0, cond_true, ckdd (by omega), Option.bind_some, at_of hy, Option.bind_some, wbad]) hx]; unfold m_impl_WritesOk_j1; cases wb x with
      | false => simp only [cond_true, cond_false, Bool.not_true, Bool.not_false, Bool.not_not, Bool.true_and, Bool.false_and, Bool.and_true, Bool.and_false, Bool.true_or, Bool.false_or, Bool.or_true, Bool.or_false]
      | true =>
        rw [Bool.not_true, Bool.false_or, Bool.true_and]; cases wbad y x with
        | true => simp only [cond_true, cond_false, Bool.not_true, Bool.not_false, Bool.not_not, Bool.true_and, Bool.false_and, Bool.and_true, Bool.and_false, Bool.true_or, Bool.false_or, Bool.or_true, Bool.or_false]
        | false => rw [cond_false, ck1 (by omega), Option.bind_some, natS]; simp only [cond_true, cond_false, Bool.not_true, Bool.not_false, Bool.not_not, Bool.true_and, Bool.false_and, Bool.and_true, Bool.and_false, Bool.true_or, Bool.false_or, Bool.or_true, Bool.or_false]
    · rw [m_impl_WritesOk_l1, dnlt, cond_false, m_impl_WritesOk_j2]
  rw [main]
  congr 1
  cases h : wOk l with
  | false => unfold wOk at h; rw [h]; rfl
  | true =>
    have := adj_len h; unfold wOk at h; rw [h, decide_eq_true (by omega)]; rfl
theorem E_spec_WritesOk {l : List Wr} (hl : l.length ≤ 3000000) (hr : ∀ v ∈ l, rSm v.Row) : m_spec_WritesOk l = some (wOk l) := by
  have main : m_spec_WritesOk l = some (l.all wb && adjB wbad l && true) := by
    unfold m_spec_WritesOk
    have head : ∀ n (k : Nat) x (c : Bool) (hc : (bif decide ((k : Int) > 0) then ((ckI ((k : Int) - 1)).bind fun x21 => (at? l x21).bind fun x22 => m_spec_WritesOk_j1 (m_spec_WritesOk_l1 n) l (k : Int) (decide (x22.Key ≥ x.Key))) else (m_spec_WritesOk_j1 (m_spec_WritesOk_l1 n) l (k : Int) false)) = m_spec_WritesOk_j1 (m_spec_WritesOk_l1 n) l (k : Int) c), l[k]? = some x → m_spec_WritesOk_l1 (n + 1) l (k : Int) = m_spec_WritesOk_j1 (m_spec_WritesOk_l1 n) l (k : Int) (!(wb x) || c) := by
      intro n k x c hc hx; have hlt := lt_of_at hx; rw [m_spec_WritesOk_l1, dlt hlt, cond_true, at_of hx, Option.bind_some, ltE, E_l1In, Option.bind_some]; show (bif !(keyB x.Key) then _ else _) = _; unfold wb; cases keyB x.Key with
      | false => rw [Bool.not_false, cond_true, Bool.false_and, Bool.not_false, Bool.true_or]
      | true =>
        rw [Bool.not_true, cond_false, E_spec_RowOk (hr x (List.mem_of_getElem? hx)), Option.bind_some, Bool.true_and]; cases rowOk x.Row with
        | false => rw [Bool.not_false, cond_true, Bool.false_and, Bool.not_false, Bool.true_or]
        | true =>
          rw [Bool.not_true, cond_false, Bool.true_and, Bool.not_not]; cases x.Gone with
          | true =>
            rw [cond_true, Bool.true_and]
            by_cases h : (x.Row.length : Int) > 0
            · rw [decide_eq_true h, cond_true, Bool.true_or]
            · rw [decide_eq_false h, cond_false, Bool.false_or]; exact hc
          | false => rw [cond_false, Bool.false_and, Bool.false_or]; exact hc
    refine scanPrev (p := wb) (bad := wbad) l (fun n k => m_spec_WritesOk_l1 n l k) (fun n x hx => ?_) (fun n k x y hx hy hp => ?_) (fun n => ?_) _ fuel0
    · show m_spec_WritesOk_l1 (n + 1) l ((0 : Nat) : Int) = _
      rw [head n 0 x false (by rw [dgt00, cond_false]) hx]; unfold m_spec_WritesOk_j1; cases wb x with
      | false => simp only [cond_true, cond_false, Bool.not_true, Bool.not_false, Bool.not_not, Bool.true_and, Bool.false_and, Bool.and_true, Bool.and_false, Bool.true_or, Bool.false_or, Bool.or_true, Bool.or_false]
      | true => simp only [cond_true, cond_false, Bool.not_true, Bool.not_false, Bool.not_not, Bool.true_and, Bool.false_and, Bool.and_true, Bool.and_false, Bool.true_or, Bool.false_or, Bool.or_true, Bool.or_false]; rw [ck1 (by omega), Option.bind_some, nat01]
    · have hlt := lt_of_at hx
      rw [head n (k + 1) x (wbad y x) (by rw [dgt0, cond_true, ckdd (by omega), Option.bind_some, at_of hy, Option.bind_some, wbad]) hx]; unfold m_spec_WritesOk_j1; cases wb x with
      | false => simp only [cond_true, cond_false, Bool.not_true, Bool.not_false, Bool.not_not, Bool.true_and, Bool.false_and, Bool.and_true, Bool.and_false, Bool.true_or, Bool.false_or, Bool.or_true, Bool.or_false]
      | true =>
        rw [Bool.not_true, Bool.false_or, Bool.true_and]; cases wbad y x with
        | true => simp only [cond_true, cond_false, Bool.not_true, Bool.not_false, Bool.not_not, Bool.true_and, Bool.false_and, Bool.and_true, Bool.and_false, Bool.true_or, Bool.false_or, Bool.or_true, Bool.or_false]
        | false => rw [cond_false, ck1 (by omega), Option.bind_some, natS]; simp only [cond_true, cond_false, Bool.not_true, Bool.not_false, Bool.not_not, Bool.true_and, Bool.false_and, Bool.and_true, Bool.and_false, Bool.true_or, Bool.false_or, Bool.or_true, Bool.or_false]
    · rw [m_spec_WritesOk_l1, dnlt, cond_false, m_spec_WritesOk_j2]
  rw [main, Bool.and_true]; rfl
def turn1 (key m : Int) (v : Ver) : Int := if v.Key = key then maxI (maxI m v.Born) v.Died else m
def lastT (l : List Ver) (key : Int) : Int := l.foldl (fun m v => turn1 key m v) 0
def keys5 : List Int := [0, 1, 2, 3, 4]
def turnA (l : List Ver) : Int := keys5.foldl (fun m k => maxI m (lastT l k)) 0
theorem keys5_at {k : Nat} {x : Int} (h : keys5[k]? = some x) : x = (k : Int) ∧ k < 5 := by
  have hlt := lt_of_at h; have : k < 5 := hlt; refine ⟨?_, this⟩; unfold keys5 at h
  match k, this with
  | 0, _ => simp at h; omega
  | 1, _ => simp at h; omega
  | 2, _ => simp at h; omega
  | 3, _ => simp at h; omega
  | 4, _ => simp at h; omega
theorem E_impl_lastTurn {l : List Ver} (hl : l.length ≤ 3000000) (key : Int) : m_impl_lastTurn l key = some (lastT l key) := by
  unfold m_impl_lastTurn
  have := scanF (f := fun m v => turn1 key m v) (J := fun s => some s) (fun _ _ => True) l (fun n k s => m_impl_lastTurn_l1 n key s l (l.length : Int) k) (fun n k x s hx _ => ⟨by
    have hlt := lt_of_at hx; rw [m_impl_lastTurn_l1, dlt hlt, cond_true, at_of hx, Option.bind_some, ltE]; unfold m_impl_lastTurn_j1 turn1
    by_cases h : x.Key = key
    · rw [show (x.Key == key) = true by simp [h], cond_true, ck1 (by omega), Option.bind_some, if_pos h]
    · rw [beqF h, cond_false, ck1 (by omega), Option.bind_some, if_neg h], trivial⟩) (fun n s _ => by rw [m_impl_lastTurn_l1, dnlt, cond_false, m_impl_lastTurn_j2]) _ fuel0 0 trivial
  exact this.1
theorem E_spec_LastTurn {l : List Ver} (hl : l.length ≤ 3000000) (hr : ∀ v ∈ l, rSm v.Row) (key : Int) : m_spec_LastTurn l key = some (if verOk l then lastT l key else 0) := by
  unfold m_spec_LastTurn; have hv := E_spec_VersionsOk hl hr
  by_cases hok : verOk l = true
  · rw [if_pos hok]
    rw [hok] at hv
    have := scanF (f := fun m v => turn1 key m v) (J := fun s => some s) (fun _ _ => True) l (fun n k s => m_spec_LastTurn_l1 n l key s k) (fun n k x s hx _ => ⟨by
      have hlt := lt_of_at hx; rw [m_spec_LastTurn_l1, dlt hlt, cond_true, hv, Option.bind_some]; unfold m_spec_LastTurn_j1 m_spec_LastTurn_j2 turn1; rw [cond_true, at_of hx, Option.bind_some]
      by_cases h : x.Key = key
      · rw [show (x.Key == key) = true by simp [h], cond_true, Option.bind_some, Option.bind_some, ck1 (by omega), Option.bind_some, if_pos h]
      · rw [beqF h, cond_false, ck1 (by omega), Option.bind_some, if_neg h], trivial⟩) (fun n s _ => by rw [m_spec_LastTurn_l1, dnlt, cond_false]; unfold m_spec_LastTurn_j1; rw [cond_false, m_spec_LastTurn_j3]) 1000000000 (by omega) 0 trivial
    exact this.1
  · rw [if_neg hok]
    have hok' : verOk l = false := by simpa using hok
    rw [hok'] at hv; rw [show (1000000000 : Nat) = 999999999 + 1 from rfl, m_spec_LastTurn_l1]; unfold m_spec_LastTurn_j1; cases hc : decide ((0 : Int) < (l.length : Int)) with
    | true => rw [cond_true, hv, Option.bind_some, cond_false, m_spec_LastTurn_j3]
    | false => rw [cond_false, cond_false, m_spec_LastTurn_j3]
theorem E_turnAny {l : List Ver} (hl : l.length ≤ 3000000) : m_impl_turnAny l = some (turnA l) := by
  unfold m_impl_turnAny
  have := scanF (f := fun m k => maxI m (lastT l k)) (J := fun s => some s) (fun _ _ => True) keys5 (fun n k s => m_impl_turnAny_l1 n l s k) (fun n k x s hx _ => ⟨by
    obtain ⟨rfl, hk⟩ := keys5_at hx; rw [m_impl_turnAny_l1, decide_eq_true (by omega), cond_true, E_impl_lastTurn hl, Option.bind_some, ck1 (by omega), Option.bind_some], trivial⟩) (fun n s _ => by show m_impl_turnAny_l1 (n + 1) l s 5 = _; rw [m_impl_turnAny_l1, decide_eq_false (by omega), cond_false, m_impl_turnAny_j1]) (((5 : Int) - (0 : Int)).toNat + 1) (by decide) 0 trivial
  exact this.1
theorem maxI_le {a b c : Int} : maxI a b ≤ c ↔ a ≤ c ∧ b ≤ c := by unfold maxI; split <;> omega
theorem turnA_le {l : List Ver} {c : Int} : turnA l ≤ c ↔ 0 ≤ c ∧ ∀ k ∈ keys5, lastT l k ≤ c := by
  have key : ∀ (ks : List Int) (m : Int), ks.foldl (fun m k => maxI m (lastT l k)) m ≤ c ↔ m ≤ c ∧ ∀ k ∈ ks, lastT l k ≤ c := by
    intro ks
    induction ks with
    | nil => intro m; simp
    | cons k ks ih => intro m; rw [List.foldl_cons, ih, maxI_le, and_assoc]; simp
  exact key keys5 0
def seenP (t : Int) (v : Ver) : Bool := decide (v.Born ≤ t) && (decide (v.Died = 0) || decide (v.Died > t))
def seenV (l : List Ver) (key t : Int) : Option Ver := l.find? fun v => decide (v.Key = key) && seenP t v
def ver0 : Ver := ⟨0, 0, 0, []⟩
def seenR (o : Option Ver) : Ver × Bool := match o with | some v => (v, true) | none => (ver0, false)
theorem scanFind {α R : Type} {p : α → Bool} {F : Option α → Option R} (xs : List α) (L : Nat → Int → Option R)
    (hs : ∀ n (k : Nat) x, xs[k]? = some x → L (n + 1) (k : Int) = bif p x then F (some x) else L n ((k : Int) + 1)) (he : ∀ n, L (n + 1) (xs.length : Int) = F none)
    (n : Nat) (hn : xs.length < n) : L n 0 = F (xs.find? p) := by
  have := scanC xs (fun n k (_ : Unit) => L n k) (fun x s k => bif p x then F (some x) else k s) (fun _ => F none) (fun n k x s hx => hs n k x hx) (fun n s => he n) n hn (); rw [this]
  have key : ∀ l : List α, foldC (S := Unit) (fun x s k => bif p x then F (some x) else k s) (fun _ => F none) l () = F (l.find? p) := by
    intro l
    induction l with
    | nil => rfl
    | cons x l ih =>
      rw [foldC, List.find?_cons]; cases p x with
      | true => rw [cond_true]
      | false => rw [cond_false]; exact ih
  exact key xs
theorem E_seen {l : List Ver} (hl : l.length ≤ 3000000) (key t : Int) : m_impl_seen l key t = some (seenR (seenV l key t)) := by
  unfold m_impl_seen seenV; refine scanFind (F := fun o => some (seenR o)) l (fun n k => m_impl_seen_l1 n key t l (l.length : Int) k ver0) (fun n k x hx => ?_) (fun n => ?_) _ fuel0
  · have hlt := lt_of_at hx
    have next : ∀ o9, m_impl_seen_j1 (m_impl_seen_l1 n) key t l (l.length : Int) (k : Int) false ver0 o9 = m_impl_seen_l1 n key t l (l.length : Int) ((k : Int) + 1) ver0 := fun o9 => by unfold m_impl_seen_j1; rw [cond_false, ck1 (by omega), Option.bind_some]
    have stop : ∀ o9, m_impl_seen_j1 (m_impl_seen_l1 n) key t l (l.length : Int) (k : Int) true ver0 o9 = some (o9, true) := fun o9 => by unfold m_impl_seen_j1; rw [cond_true, ltE]
    rw [m_impl_seen_l1, dlt hlt, cond_true, at_of hx, Option.bind_some, ltE]; unfold seenP
    by_cases h1 : x.Key = key
    · rw [show (x.Key == key) = true by simp [h1], cond_true, decide_eq_true h1, Bool.true_and]
      by_cases h2 : x.Born ≤ t
      · rw [decide_eq_true h2, cond_true, Bool.true_and]
        by_cases h3 : x.Died = 0
        · rw [show (x.Died == 0) = true by simp [h3], cond_true, stop, decide_eq_true h3, Bool.true_or, cond_true, seenR]
        · rw [beqF h3, cond_false, decide_eq_false h3, Bool.false_or]
          by_cases h4 : x.Died > t
          · rw [decide_eq_true h4, stop, cond_true, seenR]
          · rw [decide_eq_false h4, next, cond_false]
      · rw [decide_eq_false h2, cond_false, next, Bool.false_and, cond_false]
    · rw [beqF h1, cond_false, next, decide_eq_false h1, Bool.false_and, cond_false]
  · rw [m_impl_seen_l1, dnlt, cond_false, m_impl_seen_j2, ltE]; rfl
theorem seenV_mem {l : List Ver} {key t : Int} {v : Ver} (h : seenV l key t = some v) : v ∈ l := List.mem_of_find?_eq_some h
def markM {α : Type} (mk : Int → α → α) (w : α → Int) : Int → List α → List α
  | _, [] => []
  | c, x :: r => mk c x :: markM mk w (c + w x) r
def endM {α : Type} (w : α → Int) : Int → List α → Int
  | c, [] => c
  | c, x :: r => endM w (c + w x) r
theorem markM_len {α : Type} {mk : Int → α → α} {w : α → Int} : ∀ (c : Int) (l : List α), (markM mk w c l).length = l.length
  | _, [] => rfl
  | c, x :: l => by rw [markM, List.length_cons, List.length_cons, markM_len]
theorem endM_ge {α : Type} {w : α → Int} (hw : ∀ x, 0 ≤ w x) : ∀ (c : Int) (l : List α), c ≤ endM w c l
  | c, [] => Int.le_refl _
  | c, x :: l => by
    have := endM_ge hw (c + w x) l; have := hw x; rw [endM]; omega
theorem endM_sum {α : Type} {w : α → Int} {m : α → Nat} (hm : ∀ x, w x ≤ 3 * (m x : Int)) : ∀ (c : Int) (l : List α), endM w c l ≤ c + 3 * ((l.map m).sum : Int)
  | c, [] => by simp [endM]
  | c, x :: l => by
    have h1 := endM_sum hm (c + w x) l; have h2 := hm x; rw [endM, List.map_cons, List.sum_cons]
    push_cast
    omega
theorem markLoop {α : Type} {mk : Int → α → α} {w : α → Int} {B : Int} {ok : α → Prop} (hw : ∀ x, 0 ≤ w x) (L : Nat → Int → Int → List α → Option (Int × List α))
    (hs : ∀ (f : Nat) (d : List α) (x : α) (r : List α) (c : Int), d.length < 1000000000000 → 0 ≤ c → c + w x ≤ B → ok x → L (f + 1) c (d.length : Int) (d ++ x :: r) = L f (c + w x) ((d.length + 1 : Nat) : Int) (d ++ mk c x :: r))
    (he : ∀ (f : Nat) (c : Int) (o : List α), L (f + 1) c (o.length : Int) o = some (c, o)) :
    ∀ (r d : List α) (c : Int) (f : Nat), r.length < f → (∀ x ∈ r, ok x) → 0 ≤ c → endM w c r ≤ B → d.length + r.length ≤ 900000000000 → L f c (d.length : Int) (d ++ r) = some (endM w c r, d ++ markM mk w c r)
  | [], d, c, f, hf, _, _, _, _ => by
    obtain ⟨f, rfl⟩ : ∃ q, f = q + 1 := ⟨f - 1, by omega⟩; rw [List.append_nil, he]; simp [markM, endM]
  | x :: r, d, c, f, hf, hok, hc, hB, hl => by
    obtain ⟨f, rfl⟩ : ∃ q, f = q + 1 := ⟨f - 1, by omega⟩; rw [endM] at hB ⊢; have h1 := endM_ge hw (c + w x) r; have h2 := hw x; rw [List.length_cons] at hf hl; rw [hs f d x r c (by omega) hc (by omega) (hok x (by simp))]; have ih := markLoop hw L hs he r (d ++ [mk c x]) (c + w x) f (by omega) (fun y hy => hok y (by simp [hy])) (by omega) hB (by rw [List.length_append, List.length_singleton]; omega); rw [List.append_assoc, List.singleton_append, List.length_append, List.length_singleton] at ih; rw [ih, markM, List.append_assoc, List.singleton_append]
theorem heldLoop {α : Type} {mk : Int → α → α} {w : α → Int} {B : Int} {ok : α → Prop} (hw : ∀ x, 0 ≤ w x) (t0 : List α) (L : Nat → Int → Int → Option Int)
    (hs : ∀ (f k : Nat) (c : Int) (x : α), t0[k]? = some (mk c x) → k < 1000000000000 → 0 ≤ c → c + w x ≤ B → ok x → L (f + 1) c (k : Int) = L f (c + w x) ((k + 1 : Nat) : Int))
    (he : ∀ (f : Nat) (c : Int), L (f + 1) c (t0.length : Int) = some c) :
    ∀ (r d : List α) (c : Int) (f : Nat), t0 = d ++ markM mk w c r → r.length < f → (∀ x ∈ r, ok x) → 0 ≤ c → endM w c r ≤ B → d.length + r.length ≤ 900000000000 → L f c (d.length : Int) = some (endM w c r)
  | [], d, c, f, ht, hf, _, _, _, _ => by
    obtain ⟨f, rfl⟩ : ∃ q, f = q + 1 := ⟨f - 1, by omega⟩; rw [markM, List.append_nil] at ht; rw [← ht, he]; rfl
  | x :: r, d, c, f, ht, hf, hok, hc, hB, hl => by
    obtain ⟨f, rfl⟩ : ∃ q, f = q + 1 := ⟨f - 1, by omega⟩; rw [endM] at hB ⊢; have h1 := endM_ge hw (c + w x) r; have h2 := hw x; rw [List.length_cons] at hf hl; rw [markM] at ht; have hx : t0[d.length]? = some (mk c x) := by rw [ht]; simp
    rw [hs f d.length c x hx (by omega) hc (by omega) (hok x (by simp))]; have ih := heldLoop hw t0 L hs he r (d ++ [mk c x]) (c + w x) f (by rw [ht, List.append_assoc, List.singleton_append]) (by omega) (fun y hy => hok y (by simp [hy])) (by omega) hB (by rw [List.length_append, List.length_singleton]; omega); rw [List.length_append, List.length_singleton] at ih; exact ih
theorem T_markText {k : Int} (hk : k ≤ 1000000000000) : Tot (m_laws_markText k) fun _ => True := by
  unfold m_laws_markText; refine Tot.bif (fun _ => Tot.ret trivial) (fun h0 => ?_); have hk0 : 0 < k := by simpa using h0
  have key : ∀ (n : Nat) (t : Int) (a : ByteArray) (f : Nat), t ≤ n → 0 ≤ t → n < f → (a.size : Int) + t ≤ 2000000000000 → Tot (m_laws_markText_l1 f t a) fun _ => True := by
    intro n
    induction n with
    | zero =>
      intro t a f h1 h2 h3 h4; obtain ⟨f, rfl⟩ : ∃ q, f = q + 1 := ⟨f - 1, by omega⟩; rw [m_laws_markText_l1, decide_eq_false (by omega), cond_false]; unfold m_laws_markText_j1; exact Tot.cat (by rw [show ByteArray.size ⟨#[109]⟩ = 1 from rfl]; omega) (Tot.ret trivial)
    | succ n ih =>
      intro t a f h1 h2 h3 h4; obtain ⟨f, rfl⟩ : ∃ q, f = q + 1 := ⟨f - 1, by omega⟩; rw [m_laws_markText_l1]; refine Tot.bif (fun ht => ?_) (fun _ => ?_)
      · have ht' : 0 < t := by simpa using ht
        have e1 : t.tmod 10 = t % 10 := Int.tmod_eq_emod_of_nonneg (by omega); have e2 : t.tdiv 10 = t / 10 := Int.tdiv_eq_ediv_of_nonneg (by omega); refine Tot.rem (by omega) (Tot.ck (by omega) (by omega) (Tot.cat ?_ (Tot.quo (by omega) (by omega) (by omega) ?_)))
        · have : ∀ b : UInt8, (bStr [b]).size = 1 := fun b => rfl
          rw [this]; omega
        · refine ih _ _ f (by omega) (by omega) (by omega) ?_
          have : ∀ b : UInt8, (bStr [b]).size = 1 := fun b => rfl; rw [ByteArray.size_append, this]
          push_cast
          omega
      · unfold m_laws_markText_j1
        exact Tot.cat (by rw [show ByteArray.size ⟨#[109]⟩ = 1 from rfl]; omega) (Tot.ret trivial)
  exact key k.toNat k ⟨#[]⟩ _ (by omega) (by omega) (by omega) (by rw [show ByteArray.size ⟨#[]⟩ = 0 from rfl]; omega)
def mtx (k : Int) : ByteArray := (m_laws_markText k).getD ⟨#[]⟩
theorem E_markText {k : Int} (hk : k ≤ 1000000000000) : m_laws_markText k = some (mtx k) := by
  obtain ⟨t, ht, _⟩ := T_markText hk; unfold mtx; rw [ht]; rfl
def mkV (c : Int) (_ : V) : V := ⟨c, c + 1, mtx (c + 2)⟩
abbrev markV (c : Int) (l : Row) : Row := markM mkV (fun _ => 3) c l
theorem endVl (c : Int) : ∀ l : Row, endM (fun _ : V => 3) c l = c + 3 * l.length
  | [] => by simp [endM]
  | x :: l => by rw [endM, endVl (c + 3) l, List.length_cons]; push_cast; omega
theorem set_at {α : Type} {d r : List α} {x y : α} : (d ++ x :: r).set d.length y = d ++ y :: r := by rw [List.set_append_right _ _ (Nat.le_refl _)]; simp
theorem at_at {α : Type} {d r : List α} {x : α} : at? (d ++ x :: r) (d.length : Int) = some x := at_of (by simp)
theorem lt_at {α : Type} {d r : List α} {x : α} : decide ((d.length : Int) < ((d ++ x :: r).length : Int)) = true := decide_eq_true (by rw [List.length_append, List.length_cons]; omega)
theorem E_markV {l : Row} {k : Int} (hk : 0 ≤ k) (hB : k + 3 * l.length ≤ 1000000000000) : m_laws_markValueS l k = some (k + 3 * l.length, markV k l) := by
  unfold m_laws_markValueS
  have := markLoop (mk := mkV) (w := fun _ => 3) (B := 1000000000000) (ok := fun _ => True) (fun _ => by decide) (fun f c i o => m_laws_markValueS_l1 f c i o) (fun f d x r c hd hc hB _ => by
    rw [m_laws_markValueS_l1, lt_at, cond_true, at_at, Option.bind_some, Option.bind_some, ltE, ckI_of (by omega) (by omega), Option.bind_some, Int.toNat_natCast, set_at, at_at, Option.bind_some, Option.bind_some, ltE, ckI_of (by omega) (by omega), Option.bind_some, E_markText (by omega), Option.bind_some, set_at, at_at, Option.bind_some, Option.bind_some, ltE, ckI_of (by omega) (by omega), Option.bind_some, ckI_of (by omega) (by omega), Option.bind_some, set_at]; unfold mkV; rw [show c + 1 + 1 + 1 = c + 3 by omega, show c + 1 + 1 = c + 2 by omega, show ((d.length : Int) + 1) = ((d.length + 1 : Nat) : Int) by omega]) (fun f c o => by rw [m_laws_markValueS_l1, dnlt]; rfl) l [] k _ fuel0 (fun _ _ => trivial) hk (by rw [endVl]; exact hB) (by simp only [List.length_nil]; omega)
  rw [endVl] at this; exact this
theorem E_heldV {l : Row} {k : Int} (hk : 0 ≤ k) (hB : k + 3 * l.length ≤ 1000000000000) : m_laws_heldValueS (markV k l) k = some (k + 3 * l.length) := by
  unfold m_laws_heldValueS
  have := heldLoop (mk := mkV) (w := fun _ => 3) (B := 1000000000000) (ok := fun _ => True) (fun _ => by decide) (markV k l) (fun f c i => m_laws_heldValueS_l1 f (markV k l) c i) (fun f i c x hx hi hc hB _ => by
    rw [m_laws_heldValueS_l1, dlt (lt_of_at hx), cond_true, at_of hx, Option.bind_some]; unfold mkV; simp only [bne_self_eq_false, cond_false, Option.bind_some]; rw [ckI_of (by omega) (by omega), Option.bind_some]; simp only [bne_self_eq_false, cond_false, Option.bind_some]; rw [ckI_of (by omega) (by omega), Option.bind_some, E_markText (by omega), Option.bind_some, show c + 1 + 1 = c + 2 by omega]; rw [show sEq (mtx (c + 2)) (mtx (c + 2)) = true by rw [sEq_eq]; exact decide_eq_true rfl, Bool.not_true, cond_false, ckI_of (by omega) (by omega), Option.bind_some, ck1 (by omega), Option.bind_some, show c + 2 + 1 = c + 3 by omega]; rfl) (fun f c => by rw [m_laws_heldValueS_l1, dnlt]; rfl) l [] k (((markV k l).length : Int) - 0).toNat.succ rfl (by rw [markM_len]; omega) (fun _ _ => trivial) hk (by rw [endVl]; exact hB) (by simp only [List.length_nil]; omega)
  rw [endVl] at this; exact this
theorem smE_Value {v : S_laws_Value} (h : wt_laws_Value v ≤ 1048576) : vSm (cv_laws_Value v) := by unfold wt_laws_Value at h; unfold vSm cv_laws_Value; simp only; omega
theorem smE_row {l : List S_laws_Value} (h : wt_Llaws_Value l ≤ 1048576) : rSm (cv_Llaws_Value l) := by
  refine ⟨?_, ?_⟩
  · have := wt_Llaws_Value_len (l := l); unfold cv_Llaws_Value; rw [List.length_map]; omega
  · intro v hv
    obtain ⟨x, hx, rfl⟩ := List.mem_map.1 hv; exact smE_Value (by have := wt_Llaws_Value_mem hx; omega)
theorem endM_add {α : Type} {w : α → Int} (c : Int) : ∀ (k : Int) (l : List α), endM w (c + k) l = c + endM w k l
  | k, [] => rfl
  | k, x :: l => by rw [endM, endM, Int.add_assoc, endM_add c (k + w x) l]
def wW (w : Wr) : Int := 3 * w.Row.length + 2
def mkW (c : Int) (w : Wr) : Wr := ⟨c, markV (c + 1) w.Row, (c + 1 + 3 * (w.Row.length : Int)).tmod 3 == 0⟩
theorem E_markW {l : List Wr} {k : Int} (hk : 0 ≤ k) (hB : endM wW k l ≤ 1000000000000) (hl : l.length ≤ 900000000000) : m_laws_markWriteS l k = some (endM wW k l, markM mkW wW k l) := by
  unfold m_laws_markWriteS
  exact markLoop (mk := mkW) (w := wW) (B := 1000000000000) (ok := fun _ => True) (fun x => by unfold wW; omega) (fun f c i o => m_laws_markWriteS_l1 f c i o) (fun f d x r c hd hc hB _ => by
    have hB' : c + (3 * (x.Row.length : Int) + 2) ≤ 1000000000000 := hB; rw [m_laws_markWriteS_l1, lt_at, cond_true, at_at, Option.bind_some, Option.bind_some, ckI_of (by omega) (by omega), Option.bind_some, Int.toNat_natCast, set_at, at_at, Option.bind_some, Option.bind_some, E_markV (by omega) (by show c + 1 + 3 * (x.Row.length : Int) ≤ _; omega), Option.bind_some, lenQ_ok (markM_len _ _), Option.bind_some, ltE]; simp only []; rw [show remI (c + 1 + 3 * (x.Row.length : Int)) 3 = some ((c + 1 + 3 * (x.Row.length : Int)).tmod 3) from rfl, Option.bind_some, set_at, at_at, Option.bind_some, Option.bind_some, ckI_of (by omega) (by omega), Option.bind_some, ckI_of (by omega) (by omega), Option.bind_some, set_at]; unfold mkW wW; rw [show c + 1 + 3 * (x.Row.length : Int) + 1 = c + (3 * (x.Row.length : Int) + 2) by omega, show ((d.length : Int) + 1) = ((d.length + 1 : Nat) : Int) by omega]) (fun f c o => by rw [m_laws_markWriteS_l1, dnlt]; rfl) l [] k _ fuel0 (fun _ _ => trivial) hk hB (by simp only [List.length_nil]; omega)
def wVe (v : Ver) : Int := 3 * v.Row.length + 3
def mkVe (c : Int) (v : Ver) : Ver := ⟨c, c + 1, c + 2, markV (c + 3) v.Row⟩
theorem E_markVe {l : List Ver} {k : Int} (hk : 0 ≤ k) (hB : endM wVe k l ≤ 1000000000000) (hl : l.length ≤ 900000000000) : m_laws_markVersionS l k = some (endM wVe k l, markM mkVe wVe k l) := by
  unfold m_laws_markVersionS
  exact markLoop (mk := mkVe) (w := wVe) (B := 1000000000000) (ok := fun _ => True) (fun x => by unfold wVe; omega) (fun f c i o => m_laws_markVersionS_l1 f c i o) (fun f d x r c hd hc hB _ => by
    have hB' : c + (3 * (x.Row.length : Int) + 3) ≤ 1000000000000 := hB; rw [m_laws_markVersionS_l1, lt_at, cond_true, at_at, Option.bind_some, Option.bind_some, ckI_of (by omega) (by omega), Option.bind_some, Int.toNat_natCast, set_at, at_at, Option.bind_some, Option.bind_some, ckI_of (by omega) (by omega), Option.bind_some, set_at, at_at, Option.bind_some, Option.bind_some, ckI_of (by omega) (by omega), Option.bind_some, set_at, at_at, Option.bind_some, Option.bind_some, E_markV (by omega) (by show c + 1 + 1 + 1 + 3 * (x.Row.length : Int) ≤ _; omega), Option.bind_some, lenQ_ok (markM_len _ _), Option.bind_some, ltE, ckI_of (by omega) (by omega), Option.bind_some, set_at]; unfold mkVe wVe; simp only []; rw [show c + 1 + 1 + 1 = c + 3 by omega, show c + 1 + 1 = c + 2 by omega, show c + 3 + 3 * (x.Row.length : Int) = c + (3 * (x.Row.length : Int) + 3) by omega, show ((d.length : Int) + 1) = ((d.length + 1 : Nat) : Int) by omega]) (fun f c o => by rw [m_laws_markVersionS_l1, dnlt]; rfl) l [] k _ fuel0 (fun _ _ => trivial) hk hB (by simp only [List.length_nil]; omega)
theorem sumL' {α : Type} {f g : α → Nat} : ∀ {l : List α}, (∀ x ∈ l, f x ≤ g x) → (l.map f).sum ≤ (l.map g).sum
  | [], _ => Nat.le_refl _
  | x :: l, h => by
    rw [List.map_cons, List.sum_cons, List.map_cons, List.sum_cons]; have := sumL' (f := f) (g := g) (l := l) fun y hy => h y (by simp [hy]); have := h x (by simp); omega
theorem sum_succ {α : Type} {f : α → Nat} : ∀ l : List α, (l.map fun x => f x + 1).sum = (l.map f).sum + l.length
  | [] => rfl
  | x :: l => by rw [List.map_cons, List.sum_cons, List.map_cons, List.sum_cons, sum_succ l, List.length_cons]; omega
theorem endW_b (c : Int) (ws : List Wr) : endM wW c ws ≤ c + 3 * (wt_Limpl_Write ws : Int) := by
  have h1 := endM_sum (w := wW) (m := fun w => w.Row.length + 1) (fun x => by unfold wW; push_cast; omega) c ws; have h2 : (ws.map fun w : Wr => w.Row.length).sum ≤ (ws.map fun x => wt_impl_Write x).sum := sumL' fun x _ => wt_Limpl_Value_len; have h3 := sum_succ (f := fun w : Wr => w.Row.length) ws; unfold wt_Limpl_Write
  push_cast
  omega
def mkI (c : Int) (_ : Int) : Int := c
def wI (_ : Int) : Int := 1
theorem endI (c : Int) : ∀ l : List Int, endM wI c l = c + l.length
  | [] => by simp [endM]
  | x :: l => by rw [endM, endI (c + wI x) l, List.length_cons]; unfold wI; push_cast; omega
theorem E_markI {l : List Int} {k : Int} (hk : 0 ≤ k) (hB : k + l.length ≤ 1000000000000) (hl : l.length ≤ 900000000000) : m_laws_markIntS l k = some (k + l.length, markM mkI wI k l) := by
  unfold m_laws_markIntS
  have := markLoop (mk := mkI) (w := wI) (B := 1000000000000) (ok := fun _ => True) (fun _ => by unfold wI; decide) (fun f c i o => m_laws_markIntS_l1 f c i o) (fun f d x r c hd hc hB _ => by
    have hB' : c + 1 ≤ 1000000000000 := hB; rw [m_laws_markIntS_l1, lt_at, cond_true, at_at, Option.bind_some, Option.bind_some, ltE, ckI_of (by omega) (by omega), Option.bind_some, ckI_of (by omega) (by omega), Option.bind_some, Int.toNat_natCast, set_at]; unfold mkI wI; rw [show ((d.length : Int) + 1) = ((d.length + 1 : Nat) : Int) by omega]) (fun f c o => by rw [m_laws_markIntS_l1, dnlt]; rfl) l [] k _ fuel0 (fun _ _ => trivial) hk (by rw [endI]; exact hB) (by simp only [List.length_nil]; omega)
  rw [endI] at this; exact this
theorem scanP {α R : Type} {P : Nat → α → Bool} {r0 e : Option R} (xs : List α) (L : Nat → Int → Option R) (hs : ∀ n (k : Nat) x, xs[k]? = some x → L (n + 1) (k : Int) = bif P k x then r0 else L n ((k : Int) + 1)) (he : ∀ n, L (n + 1) (xs.length : Int) = e) (n : Nat) (hn : xs.length < n) :
    ((∀ k x, xs[k]? = some x → P k x = false) → L n 0 = e) ∧ (¬(∀ k x, xs[k]? = some x → P k x = false) → L n 0 = r0) := by
  have key : ∀ (d k n : Nat), k + d = xs.length → d < n → ((∀ j x, k ≤ j → xs[j]? = some x → P j x = false) → L n (k : Int) = e) ∧ (¬(∀ j x, k ≤ j → xs[j]? = some x → P j x = false) → L n (k : Int) = r0) := by
    intro d
    induction d with
    | zero =>
      intro k n hk hn; obtain ⟨m, rfl⟩ : ∃ m, n = m + 1 := ⟨n - 1, by omega⟩; obtain rfl : k = xs.length := by omega
      refine ⟨fun _ => he m, fun h => absurd (fun j x hj hx => ?_) h⟩; rw [List.getElem?_eq_none hj] at hx; cases hx
    | succ d ih =>
      intro k n hk hn; obtain ⟨m, rfl⟩ : ∃ m, n = m + 1 := ⟨n - 1, by omega⟩; have hx : xs[k]? = some xs[k] := List.getElem?_eq_getElem (by omega); rw [hs m k _ hx]; cases hp : P k xs[k] with
      | true =>
        refine ⟨fun h => ?_, fun _ => rfl⟩; rw [h k _ (Nat.le_refl _) hx] at hp; cases hp
      | false =>
        obtain ⟨i1, i2⟩ := ih (k + 1) m (by omega) (by omega); rw [cond_false, show ((k : Int) + 1) = ((k + 1 : Nat) : Int) by omega]; refine ⟨fun h => i1 fun j x hj hjx => h j x (by omega) hjx, fun h => i2 fun h2 => h fun j x hj hjx => ?_⟩; rcases Nat.eq_or_lt_of_le hj with rfl | hj
        · rw [hx] at hjx; cases hjx; exact hp
        · exact h2 j x hj hjx
  obtain ⟨k1, k2⟩ := key xs.length 0 n (by omega) hn; exact ⟨fun h => k1 fun k x _ hx => h k x hx, fun h => k2 fun h2 => h fun k x hx => h2 k x (Nat.zero_le _) hx⟩
theorem idxI_at9 {α : Type} {q : α → Bool} : ∀ {l : List α}, 0 ≤ idxI q l → ∃ x, l[(idxI q l).toNat]? = some x ∧ q x = true ∧ ∀ y ∈ l.take (idxI q l).toNat, q y = false
  | [], h => by simp [idxI] at h
  | x :: l, h => by
    cases hq : q x with
    | true => rw [idxI_pos hq]; exact ⟨x, rfl, hq, by simp⟩
    | false =>
      rw [idxI_neg hq] at h ⊢
      by_cases h0 : idxI q l < 0
      · rw [if_pos h0] at h; omega
      · rw [if_neg h0] at h ⊢
        obtain ⟨y, h1, h2, h3⟩ := idxI_at9 (q := q) (l := l) (by omega); have e : (idxI q l + 1).toNat = (idxI q l).toNat + 1 := by omega
        refine ⟨y, by rw [e]; simpa using h1, h2, fun z hz => ?_⟩; rw [e, List.take_succ_cons] at hz; rcases List.mem_cons.1 hz with rfl | hz
        · exact hq
        · exact h3 z hz
abbrev Txn := S_impl_Txn
abbrev Hs := S_impl_House
def ascBad (a b : Int) : Bool := decide (a ≥ b)
def ascB (l : List Int) : Bool := l.all keyB && adjB ascBad l
theorem E_rising {l : List Int} (hl : l.length ≤ 3000000) : m_impl_rising l 0 4 = some (ascB l) := by
  have main : m_impl_rising l 0 4 = some (l.all keyB && adjB ascBad l && true) := by
    unfold m_impl_rising
    have head : ∀ n (k : Nat) (x : Int) (c : Bool) (hc : (bif decide ((k : Int) > 0) then ((ckI ((k : Int) - 1)).bind fun x16 => (at? l x16).bind fun x17 => m_impl_rising_j1 (m_impl_rising_l1 n) l 0 4 l (l.length : Int) (k : Int) (decide (x17 ≥ x))) else (m_impl_rising_j1 (m_impl_rising_l1 n) l 0 4 l (l.length : Int) (k : Int) false)) = m_impl_rising_j1 (m_impl_rising_l1 n) l 0 4 l (l.length : Int) (k : Int) c), l[k]? = some x → m_impl_rising_l1 (n + 1) l 0 4 l (l.length : Int) (k : Int) = m_impl_rising_j1 (m_impl_rising_l1 n) l 0 4 l (l.length : Int) (k : Int) (!(keyB x) || c) := by
      intro n k x c hc hx; have hlt := lt_of_at hx; rw [m_impl_rising_l1, dlt hlt, cond_true, at_of hx, Option.bind_some, E_between, Option.bind_some]; show (bif !(keyB x) then _ else _) = _; cases keyB x with
      | false => rw [Bool.not_false, cond_true, Bool.true_or]
      | true => rw [Bool.not_true, cond_false, Bool.false_or]; exact hc
    refine scanPrev (p := keyB) (bad := ascBad) l (fun n k => m_impl_rising_l1 n l 0 4 l (l.length : Int) k) (fun n x hx => ?_) (fun n k x y hx hy hp => ?_) (fun n => ?_) _ fuel0
    · show m_impl_rising_l1 (n + 1) l 0 4 l (l.length : Int) ((0 : Nat) : Int) = _
      rw [head n 0 x false (by rw [dgt00, cond_false]) hx]; unfold m_impl_rising_j1; cases keyB x with
      | false => simp only [cond_true, cond_false, Bool.not_true, Bool.not_false, Bool.not_not, Bool.true_and, Bool.false_and, Bool.and_true, Bool.and_false, Bool.true_or, Bool.false_or, Bool.or_true, Bool.or_false]
      | true => simp only [cond_true, cond_false, Bool.not_true, Bool.not_false, Bool.not_not, Bool.true_and, Bool.false_and, Bool.and_true, Bool.and_false, Bool.true_or, Bool.false_or, Bool.or_true, Bool.or_false]; rw [ck1 (by omega), Option.bind_some, nat01]
    · have hlt := lt_of_at hx
      rw [head n (k + 1) x (ascBad y x) (by rw [dgt0, cond_true, ckdd (by omega), Option.bind_some, at_of hy, Option.bind_some, ascBad]) hx]; unfold m_impl_rising_j1; cases keyB x with
      | false => simp only [cond_true, cond_false, Bool.not_true, Bool.not_false, Bool.not_not, Bool.true_and, Bool.false_and, Bool.and_true, Bool.and_false, Bool.true_or, Bool.false_or, Bool.or_true, Bool.or_false]
      | true =>
        rw [Bool.not_true, Bool.false_or, Bool.true_and]; cases ascBad y x with
        | true => simp only [cond_true, cond_false, Bool.not_true, Bool.not_false, Bool.not_not, Bool.true_and, Bool.false_and, Bool.and_true, Bool.and_false, Bool.true_or, Bool.false_or, Bool.or_true, Bool.or_false]
        | false => rw [cond_false, ck1 (by omega), Option.bind_some, natS]; simp only [cond_true, cond_false, Bool.not_true, Bool.not_false, Bool.not_not, Bool.true_and, Bool.false_and, Bool.and_true, Bool.and_false, Bool.true_or, Bool.false_or, Bool.or_true, Bool.or_false]
    · rw [m_impl_rising_l1, dnlt, cond_false, m_impl_rising_j2]
  rw [main, Bool.and_true]; rfl
theorem E_l14Reads {l : List Int} (hl : l.length ≤ 3000000) : m_spec_l14Reads l = some (ascB l) := by
  have main : m_spec_l14Reads l = some (l.all keyB && adjB ascBad l && true) := by
    unfold m_spec_l14Reads
    have head : ∀ n (k : Nat) (x : Int) (c : Bool) (hc : (bif decide ((k : Int) > 0) then ((ckI ((k : Int) - 1)).bind fun x15 => (at? l x15).bind fun x16 => (at? l (k : Int)).bind fun x17 => m_spec_l14Reads_j1 (m_spec_l14Reads_l1 n) l (k : Int) (decide (x16 ≥ x17))) else (m_spec_l14Reads_j1 (m_spec_l14Reads_l1 n) l (k : Int) false)) = m_spec_l14Reads_j1 (m_spec_l14Reads_l1 n) l (k : Int) c), l[k]? = some x → m_spec_l14Reads_l1 (n + 1) l (k : Int) = m_spec_l14Reads_j1 (m_spec_l14Reads_l1 n) l (k : Int) (!(keyB x) || c) := by
      intro n k x c hc hx; have hlt := lt_of_at hx; rw [m_spec_l14Reads_l1, dlt hlt, cond_true, at_of hx, Option.bind_some, E_l1In, Option.bind_some]; rw [at_of hx] at hc; show (bif !(keyB x) then _ else _) = _; cases keyB x with
      | false => rw [Bool.not_false, cond_true, Bool.true_or]
      | true => rw [Bool.not_true, cond_false, Bool.false_or]; exact hc
    refine scanPrev (p := keyB) (bad := ascBad) l (fun n k => m_spec_l14Reads_l1 n l k) (fun n x hx => ?_) (fun n k x y hx hy hp => ?_) (fun n => ?_) _ fuel0
    · show m_spec_l14Reads_l1 (n + 1) l ((0 : Nat) : Int) = _
      rw [head n 0 x false (by rw [dgt00, cond_false]) hx]; unfold m_spec_l14Reads_j1; cases keyB x with
      | false => simp only [cond_true, cond_false, Bool.not_true, Bool.not_false, Bool.not_not, Bool.true_and, Bool.false_and, Bool.and_true, Bool.and_false, Bool.true_or, Bool.false_or, Bool.or_true, Bool.or_false]
      | true => simp only [cond_true, cond_false, Bool.not_true, Bool.not_false, Bool.not_not, Bool.true_and, Bool.false_and, Bool.and_true, Bool.and_false, Bool.true_or, Bool.false_or, Bool.or_true, Bool.or_false]; rw [ck1 (by omega), Option.bind_some, nat01]
    · have hlt := lt_of_at hx
      rw [head n (k + 1) x (ascBad y x) (by rw [dgt0, cond_true, ckdd (by omega), Option.bind_some, at_of hy, Option.bind_some, at_of hx, Option.bind_some, ascBad]) hx]; unfold m_spec_l14Reads_j1; cases keyB x with
      | false => simp only [cond_true, cond_false, Bool.not_true, Bool.not_false, Bool.not_not, Bool.true_and, Bool.false_and, Bool.and_true, Bool.and_false, Bool.true_or, Bool.false_or, Bool.or_true, Bool.or_false]
      | true =>
        rw [Bool.not_true, Bool.false_or, Bool.true_and]; cases ascBad y x with
        | true => simp only [cond_true, cond_false, Bool.not_true, Bool.not_false, Bool.not_not, Bool.true_and, Bool.false_and, Bool.and_true, Bool.and_false, Bool.true_or, Bool.false_or, Bool.or_true, Bool.or_false]
        | false => rw [cond_false, ck1 (by omega), Option.bind_some, natS]; simp only [cond_true, cond_false, Bool.not_true, Bool.not_false, Bool.not_not, Bool.true_and, Bool.false_and, Bool.and_true, Bool.and_false, Bool.true_or, Bool.false_or, Bool.or_true, Bool.or_false]
    · rw [m_spec_l14Reads_l1, dnlt, cond_false, m_spec_l14Reads_j2]
  rw [main, Bool.and_true]; rfl
structure TSm (t : Txn) : Prop where
  rd : t.Reads.length ≤ 3000000
  wr : t.Writes.length ≤ 3000000
  rows : ∀ w ∈ t.Writes, rSm w.Row
def txR (t : Txn) (c : Int) : Bool := (decide (0 ≤ t.Begin) && decide (t.Begin ≤ c)) && (ascB t.Reads && wOk t.Writes)
def txB (t : Txn) (c : Int) : Bool :=
  if t.State = 0 then decide (t.Begin = 0) && (decide (t.End = 0) && (decide ((t.Reads.length : Int) = 0) && decide ((t.Writes.length : Int) = 0)))
  else if t.State = 2 then (decide (t.Begin + 1 ≤ t.End) && decide (t.End ≤ c)) && txR t c
  else if t.State = 1 ∨ t.State = 3 then decide (t.End = 0) && txR t c else false
theorem eqDD (a b : Int) : (a == b) = decide (a = b) := rfl
theorem E_Txn_j3 {t : Txn} {c : Int} (h : TSm t) : m_impl_Txn_ok_j3 c t = some (txR t c) := by
  unfold m_impl_Txn_ok_j3 txR; rw [E_between, Option.bind_some]; cases (decide (0 ≤ t.Begin) && decide (t.Begin ≤ c)) with
  | false => rfl
  | true =>
    rw [cond_true, E_rising h.rd, Option.bind_some]; cases ascB t.Reads with
    | false => rfl
    | true =>
      rw [cond_true, E_impl_WritesOk h.wr h.rows, Option.bind_some]; cases wOk t.Writes <;> rfl
theorem E_Txn_ok {t : Txn} {c : Int} (hc : 0 ≤ c ∧ c ≤ 40) (h : TSm t) : m_impl_Txn_ok t c = some (txB t c) := by
  unfold m_impl_Txn_ok txB
  by_cases s0 : t.State = 0
  · rw [if_pos s0, show (t.State == 0) = true by simp [s0], cond_true]
    simp only [eqDD]; unfold m_impl_Txn_ok_j1; cases decide (t.Begin = 0) <;> cases decide (t.End = 0) <;> cases decide ((t.Reads.length : Int) = 0) <;> rfl
  · rw [if_neg s0, beqF s0, cond_false]
    by_cases s2 : t.State = 2
    · rw [if_pos s2, show (t.State == 2) = true by simp [s2], cond_true, E_between, Option.bind_some, E_Txn_j3 h]
      by_cases hb : 0 ≤ t.Begin ∧ t.Begin ≤ c
      · rw [wrI_of (by omega) (by omega)]
        cases (decide (t.Begin + 1 ≤ t.End) && decide (t.End ≤ c)) with
        | false => rfl
        | true => rw [Bool.not_true, cond_false, Bool.true_and]
      · have hf : txR t c = false := by
          unfold txR
          have : (decide (0 ≤ t.Begin) && decide (t.Begin ≤ c)) = false := by
            rw [Bool.and_eq_false_iff]
            by_cases h0 : 0 ≤ t.Begin
            · exact .inr (decide_eq_false (by omega))
            · exact .inl (decide_eq_false h0)
          rw [this]; rfl
        rw [hf, Bool.and_false]; cases (decide (wrI (t.Begin + 1) ≤ t.End) && decide (t.End ≤ c)) <;> rfl
    · rw [if_neg s2, beqF s2, cond_false]
      by_cases s1 : t.State = 1
      · rw [if_pos (.inl s1), show (t.State == 1) = true by simp [s1], cond_true]
        unfold m_impl_Txn_ok_j2; rw [cond_true, E_Txn_j3 h]
        by_cases he : t.End = 0
        · rw [neF he, cond_false, decide_eq_true he, Bool.true_and]
        · rw [show (t.End != 0) = true by simp [he], cond_true, decide_eq_false he, Bool.false_and]
      · rw [beqF s1, cond_false]
        unfold m_impl_Txn_ok_j2
        by_cases s3 : t.State = 3
        · rw [if_pos (.inr s3), show (t.State == 3) = true by simp [s3], cond_true, E_Txn_j3 h]
          by_cases he : t.End = 0
          · rw [neF he, cond_false, decide_eq_true he, Bool.true_and]
          · rw [show (t.End != 0) = true by simp [he], cond_true, decide_eq_false he, Bool.false_and]
        · rw [if_neg (by simp [s1, s3]), beqF s3, cond_false]
theorem E_l14_j3 {t : Txn} {c s : Int} (hc : 0 ≤ c ∧ c ≤ 40) (h : TSm t) (b : Bool) : m_spec_l14Txn_j3 c t s b = some (bif b then decide (t.End = 0) && txR t c else bif (s == 2) then (decide (t.Begin + 1 ≤ t.End) && decide (t.End ≤ c)) && txR t c else false) := by
  unfold m_spec_l14Txn_j3 txR; simp only [eqDD]; cases b with
  | true =>
    rw [cond_true, cond_true, E_l1In, Option.bind_some]; cases (decide (0 ≤ t.Begin) && decide (t.Begin ≤ c)) with
    | false => rw [Bool.false_and, Bool.and_false]; rfl
    | true =>
      rw [cond_true, Bool.true_and]; cases decide (t.End = 0) with
      | false => rfl
      | true =>
        rw [cond_true, Bool.true_and, E_l14Reads h.rd, Option.bind_some]; cases ascB t.Reads with
        | false => rfl
        | true =>
          rw [cond_true, E_spec_WritesOk h.wr h.rows, Option.bind_some]; cases wOk t.Writes <;> rfl
  | false =>
    rw [cond_false, cond_false]; cases decide (s = 2) with
    | false => rfl
    | true =>
      rw [cond_true, cond_true, E_l1In, Option.bind_some]
      by_cases hb : (decide (0 ≤ t.Begin) && decide (t.Begin ≤ c)) = true
      · have hb' := hb
        rw [Bool.and_eq_true, decide_eq_true_eq, decide_eq_true_eq] at hb'; rw [hb, cond_true, Bool.true_and, ckI_of (by omega) (by omega), Option.bind_some, E_l1In, Option.bind_some]; cases (decide (t.Begin + 1 ≤ t.End) && decide (t.End ≤ c)) with
        | false => rfl
        | true =>
          rw [cond_true, Bool.true_and, E_l14Reads h.rd, Option.bind_some]; cases ascB t.Reads with
          | false => rfl
          | true =>
            rw [cond_true, E_spec_WritesOk h.wr h.rows, Option.bind_some]; cases wOk t.Writes <;> rfl
      · rw [Bool.not_eq_true] at hb
        rw [hb, Bool.false_and, Bool.and_false]; rfl
theorem E_l14Txn {t : Txn} {c : Int} (hc : 0 ≤ c ∧ c ≤ 40) (h : TSm t) : m_spec_l14Txn t c = some (txB t c) := by
  have hj : ∀ b, m_spec_l14Txn_j1 c t b = some (if t.State = 0 then b && decide (t.End = 0) else txB t c) := by
    intro b; unfold m_spec_l14Txn_j1
    by_cases s0 : t.State = 0
    · rw [if_pos s0, show (t.State == 0) = true by simp [s0], cond_true, eqDD]
      unfold m_spec_l14Txn_j2; cases b <;> rfl
    · rw [if_neg s0, beqF s0, cond_false]
      unfold txB; rw [if_neg s0, E_l14_j3 hc h, E_l14_j3 hc h]
      by_cases s2 : t.State = 2
      · rw [if_pos s2, s2]; rfl
      · rw [if_neg s2, beqF s2]
        by_cases s1 : t.State = 1
        · rw [if_pos (.inl s1), s1]; rfl
        · rw [beqF s1]
          by_cases s3 : t.State = 3
          · rw [if_pos (.inr s3), s3]; rfl
          · rw [if_neg (by simp [s1, s3]), beqF s3]; rfl
  unfold m_spec_l14Txn; simp only [hj]
  by_cases s0 : t.State = 0
  · simp only [if_pos s0, eqDD]
    unfold txB; rw [if_pos s0]; cases decide (t.Begin = 0) <;> cases decide (t.End = 0) <;> cases decide ((t.Reads.length : Int) = 0) <;> cases decide ((t.Writes.length : Int) = 0) <;> rfl
  · simp only [if_neg s0]
    cases ((t.Reads.length : Int) == 0) <;> cases ((t.Writes.length : Int) == 0) <;> rfl
structure HSm (h : Hs) : Prop where
  len : h.f_List.length ≤ 3000000
  rows : ∀ v ∈ h.f_List, rSm v.Row
  tl : h.Txns.length ≤ 3000000
  tx : ∀ t ∈ h.Txns, TSm t
def dnT (t : Txn) : Bool := t.State == 2
def badT (h : Hs) (k : Nat) (x : Txn) : Bool := !(txB x h.Clock) || (dnT x && (h.Txns.take k).any fun y => dnT y && decide (x.End = y.End))
structure HOk (h : Hs) : Prop where
  ver : verOk h.f_List = true
  clk : 0 ≤ h.Clock ∧ h.Clock ≤ 40
  turn : turnA h.f_List ≤ h.Clock
  four : h.Txns.length = 4
  txs : ∀ k x, h.Txns[k]? = some x → badT h k x = false
def mets (l : List Txn) : List Int := l.foldl (fun m t => bif dnT t then mapAdd m t.End else m) []
theorem mapAdd_mem {m : List Int} {x y : Int} : y ∈ mapAdd m x ↔ y ∈ m ∨ y = x := by
  unfold mapAdd; cases h : m.contains x with
  | true =>
    have : x ∈ m := by simpa using h
    rw [cond_true]; constructor
    · exact .inl
    · rintro (h | rfl)
      · exact h
      · exact this
  | false => simp
theorem mets_mem : ∀ (l : List Txn) (m : List Int) (e : Int), e ∈ l.foldl (fun m t => bif dnT t then mapAdd m t.End else m) m ↔ e ∈ m ∨ ∃ t ∈ l, dnT t = true ∧ t.End = e
  | [], m, e => by simp
  | t :: l, m, e => by
    rw [List.foldl_cons, mets_mem l]; cases h : dnT t with
    | true =>
      rw [cond_true, mapAdd_mem]; constructor
      · rintro ((h1 | rfl) | ⟨u, hu, h2⟩)
        · exact .inl h1
        · exact .inr ⟨t, by simp, h, rfl⟩
        · exact .inr ⟨u, by simp [hu], h2⟩
      · rintro (h1 | ⟨u, hu, h2, h3⟩)
        · exact .inl (.inl h1)
        · rcases List.mem_cons.1 hu with rfl | hu
          · exact .inl (.inr h3.symm)
          · exact .inr ⟨u, hu, h2, h3⟩
    | false =>
      rw [cond_false]; constructor
      · rintro (h1 | ⟨u, hu, h2⟩)
        · exact .inl h1
        · exact .inr ⟨u, by simp [hu], h2⟩
      · rintro (h1 | ⟨u, hu, h2, h3⟩)
        · exact .inl h1
        · rcases List.mem_cons.1 hu with rfl | hu
          · rw [h] at h2; cases h2
          · exact .inr ⟨u, hu, h2, h3⟩
theorem mets_any (l : List Txn) (e : Int) : (mets l).contains e = l.any fun y => dnT y && decide (e = y.End) := by
  rw [Bool.eq_iff_iff, List.contains_iff_mem]; unfold mets; rw [mets_mem, List.any_eq_true]; constructor
  · rintro (h | ⟨t, ht, h1, h2⟩)
    · cases h
    · exact ⟨t, ht, by rw [h1, decide_eq_true h2.symm]; rfl⟩
  · rintro ⟨t, ht, h⟩
    rw [Bool.and_eq_true, decide_eq_true_eq] at h; exact .inr ⟨t, ht, h.1, h.2.symm⟩
theorem mets_succ {l : List Txn} {k : Nat} {x : Txn} (hx : l[k]? = some x) : mets (l.take (k + 1)) = bif dnT x then mapAdd (mets (l.take k)) x.End else mets (l.take k) := by
  unfold mets; rw [List.take_add_one, hx, List.foldl_append]; rfl
theorem E_impl_HouseOk {h : Hs} (hs : HSm h) : ∃ b, m_impl_HouseOk h = some b ∧ (b = true ↔ HOk h) := by
  unfold m_impl_HouseOk; rw [E_impl_VersionsOk hs.len hs.rows, Option.bind_some]; have no : ∀ {p : Prop}, ¬ p → ∃ b, m_impl_HouseOk_j1 h true = some b ∧ (b = true ↔ p) := fun hp => ⟨false, rfl, fun h => (by cases h), fun h => absurd h hp⟩; cases hv : verOk h.f_List with
  | false => exact no fun H => by have := H.ver; rw [hv] at this; cases this
  | true =>
    rw [Bool.not_true, cond_false, E_between, Option.bind_some]
    by_cases hc : 0 ≤ h.Clock ∧ h.Clock ≤ 40
    case neg =>
      rw [show (decide (0 ≤ h.Clock) && decide (h.Clock ≤ 40)) = false by
        rw [Bool.and_eq_false_iff]
        by_cases h0 : 0 ≤ h.Clock
        · exact .inr (decide_eq_false (by omega))
        · exact .inl (decide_eq_false h0)]
      exact no fun H => hc H.clk
    rw [decide_eq_true hc.1, decide_eq_true hc.2, Bool.true_and, Bool.not_true, cond_false, E_turnAny hs.len, Option.bind_some]
    by_cases ht : turnA h.f_List > h.Clock
    · rw [decide_eq_true ht, cond_true]
      exact no fun H => by have := H.turn; omega
    rw [decide_eq_false ht, cond_false]
    by_cases h4 : (h.Txns.length : Int) = 4
    case neg =>
      rw [show ((h.Txns.length : Int) != 4) = true by simp [h4]]; exact no fun H => h4 (by have := H.four; omega)
    rw [neF h4]; unfold m_impl_HouseOk_j1; rw [cond_false]
    obtain ⟨s1, s2⟩ := scanP (P := badT h) (r0 := some false) (e := some true) h.Txns (fun n k => m_impl_HouseOk_l1 n h (mets (h.Txns.take k.toNat)) h.Txns (h.Txns.length : Int) k) (fun n k x hx => by
      have hlt := lt_of_at hx; have hT := E_Txn_ok hc (hs.tx x (List.mem_of_getElem? hx)); have e2 : ((k : Int) + 1).toNat = k + 1 := by omega
      simp only [Int.toNat_natCast, e2]; rw [m_impl_HouseOk_l1, dlt hlt, cond_true, at_of hx, Option.bind_some, ltE, hT, Option.bind_some]; unfold badT; cases hb : txB x h.Clock with
      | false => rw [Bool.not_false, cond_true, Bool.true_or, cond_true]; rfl
      | true =>
        rw [Bool.not_true, cond_false, Bool.false_or, mets_succ hx, mets_any]
        have j3 : ∀ m, m_impl_HouseOk_j3 (m_impl_HouseOk_l1 n) h m h.Txns (h.Txns.length : Int) (k : Int) = m_impl_HouseOk_l1 n h m h.Txns (h.Txns.length : Int) ((k : Int) + 1) := fun m => by
          unfold m_impl_HouseOk_j3; rw [ck1 (by omega), Option.bind_some]
        have j2 : ∀ m b, m_impl_HouseOk_j2 (m_impl_HouseOk_l1 n) h m h.Txns (h.Txns.length : Int) (k : Int) b x = bif b then some false else m_impl_HouseOk_l1 n h (bif dnT x then mapAdd m x.End else m) h.Txns (h.Txns.length : Int) ((k : Int) + 1) := fun m b => by
          unfold m_impl_HouseOk_j2; rw [j3, j3]; cases b with
          | true => rfl
          | false =>
            rw [cond_false, cond_false]; show (bif dnT x then _ else _) = _; cases dnT x <;> rfl
        rw [j2, j2]; show (bif dnT x then _ else _) = _; cases hd : dnT x with
        | false => rw [cond_false, cond_false, Bool.false_and, cond_false, cond_false]
        | true => rw [cond_true, cond_true, Bool.true_and]) (fun n => by rw [m_impl_HouseOk_l1, dnlt, cond_false]; rfl) (((h.Txns.length : Int) - (0 : Int)).toNat + 1) (by omega)
    simp only [Int.toNat_zero, List.take_zero] at s1 s2
    by_cases hk : ∀ k x, h.Txns[k]? = some x → badT h k x = false
    · exact ⟨true, s1 hk, fun _ => ⟨hv, hc, by omega, by omega, hk⟩, fun _ => rfl⟩
    · exact ⟨false, s2 hk, fun h => (by cases h), fun H => absurd H.txs hk⟩
theorem turn_keys {l : List Ver} {c : Int} (hc : 0 ≤ c) : turnA l ≤ c ↔ ∀ (k : Nat) (x : Int), keys5[k]? = some x → decide (lastT l x > c) = false := by
  rw [turnA_le]; constructor
  · intro h k x hx
    exact decide_eq_false (by have := h.2 x (List.mem_of_getElem? hx); omega)
  · intro h
    refine ⟨hc, fun k hk => ?_⟩; obtain ⟨j, hj⟩ := List.getElem?_of_mem hk; have := h j k hj; rw [decide_eq_false_iff_not] at this; omega
theorem E_spec_txns {h : Hs} (hs : HSm h) (hc : 0 ≤ h.Clock ∧ h.Clock ≤ 40) (h4 : (h.Txns.length : Int) = 4) : ((∀ k x, h.Txns[k]? = some x → badT h k x = false) → m_spec_HouseOk_j2 h = some true) ∧ (¬(∀ k x, h.Txns[k]? = some x → badT h k x = false) → m_spec_HouseOk_j2 h = some false) := by
  unfold m_spec_HouseOk_j2
  exact scanP (P := badT h) (r0 := some false) (e := some true) h.Txns (fun n k => m_spec_HouseOk_l2 n h k) (fun n k x hx => by
    have hlt := lt_of_at hx; rw [m_spec_HouseOk_l2, decide_eq_true (by omega), cond_true, at_of hx, Option.bind_some, E_l14Txn hc (hs.tx x (List.mem_of_getElem? hx)), Option.bind_some]; unfold badT; cases hb : txB x h.Clock with
    | false => simp only [cond_true, cond_false, Bool.not_true, Bool.not_false, Bool.not_not, Bool.true_and, Bool.false_and, Bool.and_true, Bool.and_false, Bool.true_or, Bool.false_or, Bool.or_true, Bool.or_false]
    | true =>
      rw [Bool.not_true, cond_false, Bool.false_or]; have hlen : (h.Txns.take k).length = k := by rw [List.length_take]; omega
      obtain ⟨s1, s2⟩ := scanP (P := fun _ y => dnT x && (dnT y && decide (x.End = y.End))) (r0 := some false) (e := m_spec_HouseOk_l2 n h ((k : Int) + 1)) (h.Txns.take k) (fun m j => m_spec_HouseOk_l3 (m_spec_HouseOk_l2 n) m h (k : Int) j) (fun m j y hy => by
        have hj : j < k := by have := lt_of_at hy; omega
        have hy' : h.Txns[j]? = some y := by rw [List.getElem?_take, if_pos hj] at hy; exact hy
        rw [m_spec_HouseOk_l3, dlt hj, cond_true, at_of hx, Option.bind_some, at_of hy', Option.bind_some, Option.bind_some, Option.bind_some, eqDD x.End]; show (bif dnT x then (bif dnT y then _ else _) else _) = _; unfold m_spec_HouseOk_j3; rw [ck1 (by omega), Option.bind_some]; cases dnT x <;> cases dnT y <;> cases decide (x.End = y.End) <;> rfl) (fun m => by
        rw [hlen, m_spec_HouseOk_l3, dnlt, cond_false, m_spec_HouseOk_j4, ck1 (by omega), Option.bind_some]) (((k : Int) - 0).toNat + 1) (by omega)
      by_cases hall : ∀ (j : Nat) (y : Txn), (h.Txns.take k)[j]? = some y → (dnT x && (dnT y && decide (x.End = y.End))) = false
      · rw [s1 hall]
        have : (dnT x && (h.Txns.take k).any fun y => dnT y && decide (x.End = y.End)) = false := by
          cases hd : dnT x with
          | false => rfl
          | true =>
            rw [Bool.true_and, List.any_eq_false]; intro y hy; obtain ⟨j, hj⟩ := List.getElem?_of_mem hy; have := hall j y hj; rw [hd, Bool.true_and] at this; rw [this]; decide
        rw [this, cond_false]
      · rw [s2 hall]
        have : (dnT x && (h.Txns.take k).any fun y => dnT y && decide (x.End = y.End)) = true := by
          cases hA : (dnT x && (h.Txns.take k).any fun y => dnT y && decide (x.End = y.End)) with
          | true => rfl
          | false =>
            exfalso
            apply hall
            intro j y hy; cases hd : dnT x with
            | false => rfl
            | true =>
              rw [hd, Bool.true_and, List.any_eq_false] at hA; have := hA y (List.mem_of_getElem? hy); rw [Bool.not_eq_true] at this; rw [this]; rfl
        rw [this, cond_true]) (fun n => by rw [show (h.Txns.length : Int) = 4 from h4, m_spec_HouseOk_l2, show decide ((4 : Int) < 4) = false from rfl, cond_false]; rfl) (((4 : Int) - (0 : Int)).toNat + 1) (by rw [show h.Txns.length = 4 by omega]; decide)
theorem E_spec_HouseOk {h : Hs} (hs : HSm h) : ∃ b, m_spec_HouseOk h = some b ∧ (b = true ↔ HOk h) := by
  unfold m_spec_HouseOk; rw [E_spec_VersionsOk hs.len hs.rows, Option.bind_some]; have no : ∀ {p : Prop}, ¬ p → ∃ b, m_spec_HouseOk_j1 h true = some b ∧ (b = true ↔ p) := fun hp => ⟨false, rfl, fun h => (by cases h), fun h => absurd h hp⟩; cases hv : verOk h.f_List with
  | false => exact no fun H => by have := H.ver; rw [hv] at this; cases this
  | true =>
    rw [Bool.not_true, cond_false, E_l1In, Option.bind_some]
    by_cases hc : 0 ≤ h.Clock ∧ h.Clock ≤ 40
    case neg =>
      rw [show (decide (0 ≤ h.Clock) && decide (h.Clock ≤ 40)) = false by
        rw [Bool.and_eq_false_iff]
        by_cases h0 : 0 ≤ h.Clock
        · exact .inr (decide_eq_false (by omega))
        · exact .inl (decide_eq_false h0)]
      exact no fun H => hc H.clk
    rw [decide_eq_true hc.1, decide_eq_true hc.2, Bool.true_and, Bool.not_true, cond_false]
    by_cases h4 : (h.Txns.length : Int) = 4
    case neg =>
      rw [show ((h.Txns.length : Int) != 4) = true by simp [h4]]; exact no fun H => h4 (by have := H.four; omega)
    rw [neF h4]; unfold m_spec_HouseOk_j1; rw [cond_false]
    obtain ⟨s1, s2⟩ := scanP (P := fun _ x => decide (lastT h.f_List x > h.Clock)) (r0 := some false) (e := m_spec_HouseOk_j2 h) keys5 (fun n k => m_spec_HouseOk_l1 n h k) (fun n k x hx => by
      obtain ⟨rfl, hk⟩ := keys5_at hx; rw [m_spec_HouseOk_l1, decide_eq_true (by omega), cond_true, E_spec_LastTurn hs.len hs.rows, Option.bind_some, if_pos hv, ck1 (by omega), Option.bind_some]) (fun n => by
      rw [show (keys5.length : Int) = 5 from rfl, m_spec_HouseOk_l1, show decide ((5 : Int) < 5) = false from rfl, cond_false]) (((5 : Int) - (0 : Int)).toNat + 1) (by decide)
    obtain ⟨t1, t2⟩ := E_spec_txns hs hc h4
    by_cases ht : turnA h.f_List ≤ h.Clock
    · rw [s1 ((turn_keys hc.1).1 ht)]
      by_cases hk : ∀ k x, h.Txns[k]? = some x → badT h k x = false
      · exact ⟨true, t1 hk, fun _ => ⟨hv, hc, ht, by omega, hk⟩, fun _ => rfl⟩
      · exact ⟨false, t2 hk, fun h => (by cases h), fun H => absurd H.txs hk⟩
    · rw [s2 fun h => ht ((turn_keys hc.1).2 h)]
      exact ⟨false, rfl, fun h => (by cases h), fun H => absurd H.turn ht⟩
theorem E_HouseOk {h : Hs} (hs : HSm h) : ∃ b, m_impl_HouseOk h = some b ∧ m_spec_HouseOk h = some b ∧ (b = true ↔ HOk h) := by
  obtain ⟨b, e, i⟩ := E_impl_HouseOk hs; obtain ⟨c, f, j⟩ := E_spec_HouseOk hs; refine ⟨b, e, ?_, i⟩; rw [f]
  congr 1
  rw [Bool.eq_iff_iff, i, j]
theorem E_l13Seen {v : Ver} {t : Int} : m_spec_l13Seen v t = some (seenP t v) := by
  unfold m_spec_l13Seen m_spec_l13Seen_j1 seenP; rw [eqDD, show (decide (v.Died > t)) = decide (t < v.Died) from rfl]; cases decide (v.Born ≤ t) <;> cases decide (v.Died = 0) <;> rfl
theorem E_spec_SeenAt {l : List Ver} (hl : l.length ≤ 3000000) (hr : ∀ v ∈ l, rSm v.Row) (key t : Int) : m_spec_SeenAt l key t = some (if verOk l then ((seenR (seenV l key t)).1.Row, (seenR (seenV l key t)).2) else ([], false)) := by
  unfold m_spec_SeenAt; have hv := E_spec_VersionsOk hl hr; cases h : verOk l with
  | false =>
    rw [h] at hv; rw [show (1000000000 : Nat) = 999999999 + 1 from rfl, m_spec_SeenAt_l1]; have j : ∀ k1 k, m_spec_SeenAt_j1 k1 l key t k false = some ([], false) := fun k1 k => rfl; rw [hv, Option.bind_some, j, if_neg (by decide)]; cases decide ((0 : Int) < (l.length : Int)) <;> rfl
  | true =>
    rw [h] at hv; rw [if_pos rfl]
    have := scanFind (p := fun v => decide (v.Key = key) && seenP t v) (F := fun o => some ((seenR o).1.Row, (seenR o).2)) l (fun n k => m_spec_SeenAt_l1 n l key t k) (fun n k x hx => by
      have hlt := lt_of_at hx; have hx3 := (hr x (List.mem_of_getElem? hx)).1
      have j2 : ∀ b, m_spec_SeenAt_j2 (m_spec_SeenAt_l1 n) l key t (k : Int) b = bif b then some (x.Row, true) else m_spec_SeenAt_l1 n l key t ((k : Int) + 1) := fun b => by
        unfold m_spec_SeenAt_j2; rw [at_of hx, Option.bind_some, E_l3Own (by omega), Option.bind_some, ck1 (by omega), Option.bind_some]
      rw [m_spec_SeenAt_l1, dlt hlt, cond_true, hv, Option.bind_some, m_spec_SeenAt_j1, cond_true, at_of hx, Option.bind_some, Option.bind_some, E_l13Seen, Option.bind_some, j2, j2, eqDD]; cases decide (x.Key = key) with
      | false => rw [cond_false, cond_false, Bool.false_and, cond_false]
      | true => rw [cond_true, Bool.true_and]; rfl) (fun n => by rw [m_spec_SeenAt_l1, dnlt, cond_false]; rfl) 1000000000 (by omega)
    rw [this]; rfl
theorem own_find {t : Txn} (h : t.Writes.length ≤ 3000000) (key : Int) : m_spec_l14Own t key = some (idxI (fun w : Wr => w.Key == key) t.Writes) := by
  unfold m_spec_l14Own
  exact scanI (q := fun w : Wr => w.Key == key) (g := fun i => some i) t.Writes (fun n k => m_spec_l14Own_l1 n key t k) (fun n k x hx => by
    have hlt := lt_of_at hx; rw [m_spec_l14Own_l1, dlt hlt, cond_true, at_of hx, Option.bind_some, ck1 (by omega), Option.bind_some]) (fun n => by rw [m_spec_l14Own_l1, dnlt, cond_false]; rfl) _ fuel0
theorem rS3 {r : Row} (h : rSm r) : r.length ≤ 900000000 := by have := h.1; omega
theorem E_ReadBy {h : Hs} (hs : HSm h) {Q : Row → Prop} (qn : Q []) (qv : ∀ v ∈ h.f_List, Q v.Row) (qt : ∀ t ∈ h.Txns, ∀ w ∈ t.Writes, Q w.Row) (who key : Int) : ∃ r : Row × Bool, m_spec_ReadBy h who key = some r ∧ m_impl_ReadBy h who key = some r ∧ Q r.1 := by
  unfold m_spec_ReadBy m_impl_ReadBy; obtain ⟨b, e1, e2, hb⟩ := E_HouseOk hs; rw [e1, e2, Option.bind_some, Option.bind_some, E_l1In, E_between, Option.bind_some, Option.bind_some]; have nil : rSm ([] : Row) := ⟨by simp, by simp⟩; have no : ∃ r : Row × Bool, m_spec_ReadBy_j1 who key h true = some r ∧ m_impl_ReadBy_j1 who key h true = some r ∧ Q r.1 := ⟨([], false), rfl, rfl, qn⟩; cases b with
  | false => exact no
  | true =>
    have hk := hb.1 rfl; rw [Bool.not_true, cond_false, cond_false]
    by_cases hw : 0 ≤ who ∧ who ≤ 3
    case neg =>
      rw [show (decide (0 ≤ who) && decide (who ≤ 3)) = false by
        rw [Bool.and_eq_false_iff]
        by_cases h0 : 0 ≤ who
        · exact .inr (decide_eq_false (by omega))
        · exact .inl (decide_eq_false h0)]
      exact no
    rw [decide_eq_true hw.1, decide_eq_true hw.2, Bool.true_and, Bool.not_true, cond_false, cond_false]; have h4 := hk.four; obtain ⟨k, rfl⟩ : ∃ k : Nat, who = (k : Int) := ⟨who.toNat, by omega⟩; have hlt : k < h.Txns.length := by omega
    have hx : h.Txns[k]? = some h.Txns[k] := List.getElem?_eq_getElem hlt; generalize h.Txns[k] = t at hx; have htm := List.mem_of_getElem? hx; have ht := hs.tx t htm; rw [at_of hx, Option.bind_some, Option.bind_some]; cases hst : (t.State != 1) with
    | true => exact no
    | false =>
      rw [cond_false, cond_false, E_l1In, E_keyOk, Option.bind_some, Option.bind_some]; show ∃ r : Row × Bool, m_spec_ReadBy_j1 k key h (!(keyB key)) = some r ∧ _ ∧ _; cases keyB key with
      | false => exact no
      | true =>
        rw [Bool.not_true]; unfold m_spec_ReadBy_j1 m_impl_ReadBy_j1; rw [cond_false, cond_false, at_of hx, Option.bind_some, Option.bind_some, ltE, ltE, own_find ht.wr, Option.bind_some]; unfold m_impl_Txn_write; rw [L_slices_IndexFunc_Limpl_Write_impl_Write (p := fun b0_ => m_impl_Txn_write_1 b0_ key) (q := fun w : Wr => w.Key == key) (by have := ht.wr; omega) (fun b _ => rfl), Option.bind_some]
        by_cases hi : 0 ≤ idxI (fun w : Wr => w.Key == key) t.Writes
        · obtain ⟨w, hwx, _, _⟩ := idxI_at9 hi
          have hwr := ht.rows w (List.mem_of_getElem? hwx)
          have ea : at? t.Writes (idxI (fun w : Wr => w.Key == key) t.Writes) = some w := by
            have := at_of hwx; rw [Int.toNat_of_nonneg hi] at this; exact this
          rw [decide_eq_true hi, cond_true, decide_eq_false (by omega), cond_false, ea, Option.bind_some, Option.bind_some, E_l3Own (rS3 hwr), Option.bind_some, Option.bind_some, ltE, Option.bind_some, ltE]; exact ⟨(w.Row, !w.Gone), rfl, by rw [cond_true, E_clone (rS3 hwr), Option.bind_some], qt t htm w (List.mem_of_getElem? hwx)⟩
        · rw [decide_eq_false hi, cond_false, decide_eq_true (by omega), cond_true, ltE, Option.bind_some, ltE, cond_false, E_spec_SeenAt hs.len hs.rows, Option.bind_some, E_seen hs.len, Option.bind_some, ltE, if_pos hk.ver]
          have hrow : rSm (seenR (seenV h.f_List key t.Begin)).1.Row := by
            cases hv : seenV h.f_List key t.Begin with
            | none => exact nil
            | some v => exact hs.rows v (seenV_mem hv)
          have hq : Q (seenR (seenV h.f_List key t.Begin)).1.Row := by
            cases hv : seenV h.f_List key t.Begin with
            | none => exact qn
            | some v => exact qv v (seenV_mem hv)
          exact ⟨((seenR (seenV h.f_List key t.Begin)).1.Row, (seenR (seenV h.f_List key t.Begin)).2), rfl, by rw [E_clone (rS3 hrow), Option.bind_some], hq⟩
def wT (t : Txn) : Int := 3 + t.Reads.length + endM wW 0 t.Writes
def mkT (c : Int) (t : Txn) : Txn := ⟨c, c + 1, c + 2, markM mkI wI (c + 3) t.Reads, markM mkW wW (c + 3 + t.Reads.length) t.Writes⟩
theorem endW_ge (c : Int) (l : List Wr) : c ≤ endM wW c l := endM_ge (w := wW) (fun x => by unfold wW; omega) c l
theorem wT_ge (t : Txn) : 0 ≤ wT t := by have := endW_ge 0 t.Writes; unfold wT; omega
theorem E_markT {l : List Txn} {k : Int} (hk : 0 ≤ k) (hB : endM wT k l ≤ 1000000000000) (hl : l.length ≤ 900000000000) (hw : ∀ t ∈ l, t.Reads.length ≤ 900000000 ∧ t.Writes.length ≤ 900000000) : m_laws_markTxnS l k = some (endM wT k l, markM mkT wT k l) := by
  unfold m_laws_markTxnS
  exact markLoop (mk := mkT) (w := wT) (B := 1000000000000) (ok := fun t => t.Reads.length ≤ 900000000 ∧ t.Writes.length ≤ 900000000) wT_ge (fun f c i o => m_laws_markTxnS_l1 f c i o) (fun f d x r c hd hc hB hx => by
    have h0 := endW_ge 0 x.Writes; have hB' : c + (3 + (x.Reads.length : Int) + endM wW 0 x.Writes) ≤ 1000000000000 := hB
    have e1 : endM wW (c + 3 + (x.Reads.length : Int)) x.Writes = c + (3 + (x.Reads.length : Int) + endM wW 0 x.Writes) := by
      have := endM_add (w := wW) (c + 3 + (x.Reads.length : Int)) 0 x.Writes; rw [Int.add_zero] at this; rw [this]; omega
    rw [m_laws_markTxnS_l1, lt_at, cond_true, at_at, Option.bind_some, Option.bind_some, ckI_of (by omega) (by omega), Option.bind_some, Int.toNat_natCast, set_at, at_at, Option.bind_some, Option.bind_some, ckI_of (by omega) (by omega), Option.bind_some, set_at, at_at, Option.bind_some, Option.bind_some, ckI_of (by omega) (by omega), Option.bind_some, set_at, at_at, Option.bind_some, Option.bind_some, show c + 1 + 1 + 1 = c + 3 by omega, E_markI (by omega) (by show c + 3 + (x.Reads.length : Int) ≤ _; omega) (by show x.Reads.length ≤ _; omega), Option.bind_some, lenQ_ok (markM_len _ _), Option.bind_some, ltE, set_at, at_at, Option.bind_some, Option.bind_some, E_markW (by show 0 ≤ c + 3 + (x.Reads.length : Int); omega) (by show endM wW (c + 3 + (x.Reads.length : Int)) x.Writes ≤ _; omega) (by show x.Writes.length ≤ _; omega), Option.bind_some, lenQ_ok (markM_len _ _), Option.bind_some, ltE, ckI_of (by omega) (by omega), Option.bind_some, set_at, e1, show ((d.length : Int) + 1) = ((d.length + 1 : Nat) : Int) by omega, show c + 1 + 1 = c + 2 by omega]; rfl) (fun f c o => by rw [m_laws_markTxnS_l1, dnlt]; rfl) l [] k _ fuel0 hw hk hB (by simp only [List.length_nil]; omega)
theorem endVe_w (c : Int) (l : List Ver) : endM wVe c l ≤ c + 3 * (wt_Limpl_Version l : Int) := by
  have h := endM_sum (w := wVe) (m := fun v : Ver => wt_impl_Version v + 1) (fun x => by
    have := wt_Limpl_Value_len (l := x.Row); unfold wVe wt_impl_Version
    push_cast
    omega) c l
  rw [sum_succ] at h; show endM wVe c l ≤ c + 3 * ((l.length + (l.map wt_impl_Version).sum : Nat) : Int)
  push_cast at h ⊢
  omega
theorem endT_w (c : Int) (l : List Txn) : endM wT c l ≤ c + 3 * (wt_Limpl_Txn l : Int) := by
  have h := endM_sum (w := wT) (m := fun t : Txn => wt_impl_Txn t + 1) (fun x => by
    have h1 := endW_b 0 x.Writes; unfold wT wt_impl_Txn wt_Lint
    push_cast
    omega) c l
  rw [sum_succ] at h; show endM wT c l ≤ c + 3 * ((l.length + (l.map wt_impl_Txn).sum : Nat) : Int)
  push_cast at h ⊢
  omega
theorem smW_writes {l : List S_laws_Write} (h : wt_Llaws_Write l ≤ 1048576) : (cv_Llaws_Write l).length ≤ 1100000 ∧ ∀ w ∈ cv_Llaws_Write l, rSm w.Row := by
  refine ⟨?_, fun w hw => ?_⟩
  · have := wt_Llaws_Write_len (l := l)
    unfold cv_Llaws_Write; rw [List.length_map]; omega
  · unfold cv_Llaws_Write at hw
    obtain ⟨x, hx, rfl⟩ := List.mem_map.1 hw; have := wt_Llaws_Write_mem hx; exact smE_row (l := x.Row) (by unfold wt_laws_Write at this; omega)
theorem smE_house {a : S_laws_House} (h : wt_laws_House a ≤ 1048576) : HSm (cv_laws_House a) := by
  unfold wt_laws_House at h; have l1 := wt_Llaws_Version_len (l := a.f_List); have l2 := wt_Llaws_Txn_len (l := a.Txns); refine ⟨?_, fun v hv => ?_, ?_, fun t ht => ?_⟩
  · show (cv_Llaws_Version a.f_List).length ≤ _
    unfold cv_Llaws_Version; rw [List.length_map]; omega
  · have hv' : v ∈ cv_Llaws_Version a.f_List := hv
    unfold cv_Llaws_Version at hv'; obtain ⟨x, hx, rfl⟩ := List.mem_map.1 hv'; exact smE_row (l := x.Row) (by have := wt_Llaws_Version_mem hx; unfold wt_laws_Version at this; omega)
  · show (cv_Llaws_Txn a.Txns).length ≤ _
    unfold cv_Llaws_Txn; rw [List.length_map]; omega
  · have ht' : t ∈ cv_Llaws_Txn a.Txns := ht
    unfold cv_Llaws_Txn at ht'; obtain ⟨x, hx, rfl⟩ := List.mem_map.1 ht'; have hm := wt_Llaws_Txn_mem hx; unfold wt_laws_Txn at hm; have r1 := wt_Lint_len (l := x.Reads); have hw := smW_writes (l := x.Writes) (by omega); refine ⟨?_, ?_, hw.2⟩
    · show (cv_Lint x.Reads).length ≤ _
      unfold cv_Lint
      first | (rw [List.length_map]; omega) | omega
    · have := hw.1
      show (cv_Llaws_Write x.Writes).length ≤ _; omega
theorem to_hs {a : S_laws_House} (h : wt_laws_House a ≤ 100000000000) : m_laws_toHouse_s a = some (cv_laws_House a) := by
  have h1 := to_laws_House h; unfold m_laws_toHouse at h1; unfold m_laws_toHouse_s; cases e1 : m_laws_toVersionS a.f_List with
  | none => rw [e1] at h1; cases h1
  | some x =>
    cases e2 : m_laws_toTxnS a.Txns with
    | none => rw [e1, e2] at h1; cases h1
    | some y =>
      rw [e1, e2] at h1; exact h1
theorem pure_FnExactReadBy (a0 : S_laws_House) (a1 : Int) (a2 : Int) (b0 : B_laws_House a0) (b1 : B_int a1) (b2 : B_int a2) : m_laws_FnExactReadBy a0 a1 a2 = some true := by
  unfold m_laws_FnExactReadBy; rw [sz_laws_House b0 (by decide) (by decide), Option.bind_some]
  by_cases h0 : (wt_laws_House a0 : Int) ≤ 1048576
  case neg => rw [szR_lt' h0, cond_true]
  rw [szR_lt h0, cond_false]; have t0 := to_laws_House (a := a0) (by omega); have ts := to_hs (a := a0) (by omega); have wH : wt_impl_House (cv_laws_House a0) ≤ 1048576 := by rw [wc_laws_House]; omega
  have hs := smE_house (a := a0) (by omega); rw [t0, ts, Option.bind_some]; generalize hH : cv_laws_House a0 = H at *
  obtain ⟨r, hr1, hr2, hr3⟩ := E_ReadBy hs (Q := fun r => wt_Limpl_Value r ≤ 1048576) (by decide) (fun v hv => by
    have := wt_Limpl_Version_mem hv; unfold wt_impl_Version at this; unfold wt_impl_House at wH; omega) (fun t ht w hw => by
    have h1 := wt_Limpl_Txn_mem ht; have h2 := wt_Limpl_Write_mem hw; unfold wt_impl_Txn at h1; unfold wt_impl_Write at h2; unfold wt_impl_House at wH; omega) a1 a2
  have hrl := wt_Limpl_Value_len (l := r.1); have eqr : m_laws_eqValueS r.1 r.1 = some true := by rw [eq_Limpl_Value (by omega)]; exact congrArg some (decide_eq_true rfl)
  have eqH : m_laws_eqHouse H H = some true := by rw [eq_impl_House (by omega)]; exact congrArg some (decide_eq_true rfl)
  have hB : endM wVe 1 H.f_List ≤ 1000000000000 ∧ endM wT (endM wVe 1 H.f_List) H.Txns ≤ 1000000000000 := by
    have h1 := endVe_w 1 H.f_List; have h2 := endT_w (endM wVe 1 H.f_List) H.Txns; unfold wt_impl_House at wH; omega
  have g1 := endM_ge (w := wVe) (fun x => by unfold wVe; omega) 1 H.f_List; have g2 := endM_ge (w := wT) wT_ge (endM wVe 1 H.f_List) H.Txns; have hl1 := hs.len; have hl2 := hs.tl
  have eM : m_laws_markHouse H 1 = some (endM wT (endM wVe 1 H.f_List) H.Txns, markM mkVe wVe 1 H.f_List, markM mkT wT (endM wVe 1 H.f_List) H.Txns) := by
    unfold m_laws_markHouse; rw [E_markVe (by decide) hB.1 (by omega), Option.bind_some, lenQ_ok (markM_len _ _), Option.bind_some]; simp only []; rw [E_markT (by omega) hB.2 (by omega) (fun t ht => by have := hs.tx t ht; have := this.rd; have h2 := (hs.tx t ht).wr; omega), Option.bind_some, lenQ_ok (markM_len _ _), Option.bind_some]
  rw [hr1, Option.bind_some, Option.bind_some, ltE]
  dsimp only
  rw [show (⟨H.f_List, H.Clock, H.Txns⟩ : S_impl_House) = H from rfl, hr2, Option.bind_some, eqr, Option.bind_some, Bool.not_true, cond_false, bne_self_eq_false]; unfold m_laws_FnExactReadBy_j1
  dsimp only
  rw [cond_false, ts, Option.bind_some, show (⟨H.f_List, H.Clock, H.Txns⟩ : S_impl_House) = H from rfl, eqH, Option.bind_some, Bool.not_true, cond_false, eM, Option.bind_some]; simp only []; rw [lenQ_ok (markM_len _ _), Option.bind_some, lenQ_ok (markM_len _ _), Option.bind_some, decide_eq_false (by omega), cond_false, eqr, Option.bind_some, Bool.not_true, cond_false, bne_self_eq_false]; unfold m_laws_FnExactReadBy_j2; rw [cond_false, E_markV (by decide) (by omega), Option.bind_some, lenQ_ok (markM_len _ _), Option.bind_some]; simp only []; rw [E_heldV (by decide) (by omega), Option.bind_some, decide_eq_false (by omega), cond_false, bne_self_eq_false, cond_false, ts, Option.bind_some, hr2, Option.bind_some, eqr, Option.bind_some, Bool.not_true, cond_false, bne_self_eq_false]; unfold m_laws_FnExactReadBy_j3; rw [cond_false, E_heldV (by decide) (by omega), Option.bind_some, decide_eq_false (by omega), cond_false, bne_self_eq_false, cond_false]
end Go.Proofs.Ytdkpmckpcejceaa
