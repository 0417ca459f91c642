/- Mirrors of functions, and that the functions return what the mirrors say. -/
import Derived.Test.YtijihchddhikhaaXW2
set_option linter.unusedVariables false
set_option linter.unusedSimpArgs false
set_option linter.unnecessarySimpa false
namespace Go.Proofs.Ytijihchddhikhaa
open Go.Proofs Go.Lift Go.RowKit
theorem cc_slices_Clip_Limpl_Entry_impl_Entry (xs : List LV) : Does Try.prog f_slices_Clip_Limpl_Entry_impl_Entry [.own 0 0 xs.length] [(0, { kind := .fro, sz := 2, elems := xs })] (fun r h => r = .nw 2 xs false ∧ h = []) := by
  refine Does.go [0] F_slices_Clip_Limpl_Entry_impl_Entry rfl e_slices_Clip_Limpl_Entry_impl_Entry n_slices_Clip_Limpl_Entry_impl_Entry rfl (ts := [2]) rfl rfl rfl ?_
  intro w0 ok0 lent ρ0
  refine LWP.seq_k fun N1 hN1 => ?_
  refine LWP.region (l := [_]) ?_
  refine LWo.assign _ rfl (hn := ?_)
  refine LWo.nil (hN1 _ ?_)
  refine LWP.seq_k fun N2 hN2 => ?_
  refine LWP.region (l := [_,_,_,_,_,_,_]) ?_
  refine LWo.move _ rfl (hn := ?_)
  refine LWo.move _ rfl (hn := ?_)
  refine LWo.len u_Limpl_Entry rfl (hn := ?_)
  refine LWo.move _ rfl (hn := ?_)
  refine LWo.len u_Limpl_Entry rfl (hn := ?_)
  refine LWo.cutOwn (l := 0) (h := xs.length) u_Limpl_Entry s_impl_Entry rfl rfl rfl rfl ⟨_, rfl⟩ ⟨_, _, rfl, Nat.le_refl _, Nat.le_refl _⟩ (.inr (by simp)) (Nat.zero_le _) (Nat.le_refl _) rfl rfl (hn := ?_)
  refine LWo.assign _ rfl (hn := ?_)
  refine LWo.nil (hN2 _ ?_)
  refine LWP.ret (QRet.own1 (.inr rfl) rfl rfl rfl rfl (by simp) ⟨?_, rfl⟩)
  clear hN1 hN2
  exact congrArg (fun l => LV.nw 2 l false) (by simp)
def m_slices_Clip_Limpl_Entry_impl_Entry_o (o0 : List S_impl_Entry) : Option (List S_impl_Entry) := some o0
theorem c_slices_Clip_Limpl_Entry_impl_Entry_o (o0 : List S_impl_Entry) (r : List S_impl_Entry) (h : m_slices_Clip_Limpl_Entry_impl_Entry_o o0 = some r) : Does Try.prog f_slices_Clip_Limpl_Entry_impl_Entry [.own 0 0 o0.length] [(0, lob 2 e_impl_Entry o0)] (fun x hh => x = .nw 2 (r.map e_impl_Entry) false ∧ hh = []) := by
  cases h
  have := cc_slices_Clip_Limpl_Entry_impl_Entry (o0.map e_impl_Entry)
  rw [List.length_map] at this
  exact this



def m_slices_Clip_Limpl_Entry_impl_Entry (a0 : (List S_impl_Entry)) : Option (List S_impl_Entry) :=
  (cut3? a0 (0 : Int) (a0.length : Int) (a0.length : Int)).bind fun x3 =>
  some x3
theorem c_slices_Clip_Limpl_Entry_impl_Entry (a0 : (List S_impl_Entry)) (r : (List S_impl_Entry)) (h : m_slices_Clip_Limpl_Entry_impl_Entry a0 = some r) : Ret Try.prog f_slices_Clip_Limpl_Entry_impl_Entry [e_Limpl_Entry a0] (e_Limpl_Entry r) := by
  refine Does.goG [] F_slices_Clip_Limpl_Entry_impl_Entry rfl e_slices_Clip_Limpl_Entry_impl_Entry n_slices_Clip_Limpl_Entry_impl_Entry rfl (rvs := [.tmp 2]) rfl rfl ?_
  intro w0 ok0 lent ρ0
  refine LWP.seq_k fun N1 hN1 => ?_
  refine LWP.region (l := [_]) ?_
  refine LWo.assign _ rfl (hn := ?_)
  refine LWo.weakT 2 (e_Limpl_Entry ([] : (List S_impl_Entry))) rfl .nil ?_
  refine LWo.nil (hN1 _ ?_)
  refine LWP.seq_k fun N2 hN2 => ?_
  refine LWP.region (l := [_,_,_,_,_,_,_]) ?_
  refine LWo.move (e_Limpl_Entry a0) rfl (hn := ?_)
  refine LWo.move (e_Limpl_Entry a0) rfl (hn := ?_)
  refine LWo.lenM (f := e_impl_Entry) (l := a0) u_Limpl_Entry rfl (hn := ?_)
  refine LWo.move (e_Limpl_Entry a0) rfl (hn := ?_)
  refine LWo.lenM (f := e_impl_Entry) (l := a0) u_Limpl_Entry rfl (hn := ?_)
  refine bk h fun x3 e3 h => ?_
  refine LWo.cutM3 (f := e_impl_Entry) e3 u_Limpl_Entry s_impl_Entry rfl rfl ⟨_, rfl⟩ ⟨_, rfl⟩ (hn := ?_)
  refine LWo.assign (e_Limpl_Entry x3) rfl (hn := ?_)
  refine LWo.nil (hN2 _ ?_)
  obtain rfl := Option.some.inj h
  refine LWP.ret (QG.mk (.inr rfl) (.cons (.tmp (x := (e_Limpl_Entry x3)) rfl) (.nil)) (RetOK.one0 (.pure rfl) (by decide)) rfl rfl)

def m_impl_logCopy_j1 (o1003 : (List S_impl_Entry)) : Option (List S_impl_Entry) :=
  (m_slices_Clip_Limpl_Entry_impl_Entry_o o1003).bind fun x18 =>
  some x18
def m_impl_logCopy_l1 : Nat → (List S_impl_Entry) → Int → Int → (List S_impl_Entry) → Option (List S_impl_Entry)
  | 0, _, _, _, _ => none
  | n1 + 1, t6, t7, t8, o1003 =>
    bif decide (t8 < t7) then ((at? t6 t8).bind fun x12 =>
    lt (x12) fun y13 =>
    (m_impl_writesCopy y13.Writes).bind fun x14 =>
    (app? o1003 ([(⟨y13.Time, x14⟩ : S_impl_Entry)] : (List S_impl_Entry))).bind fun x15 =>
    (ckI (t8 + (1 : Int))).bind fun x16 =>
    (m_impl_logCopy_l1  n1) t6 t7 x16 x15)
    else (m_impl_logCopy_j1  o1003)
def m_impl_logCopy (a0 : (List S_impl_Entry)) : Option (List S_impl_Entry) :=
  m_impl_logCopy_l1  (((a0.length : Int) - (0 : Int)).toNat + 1) a0 (a0.length : Int) (0 : Int) ([] : (List S_impl_Entry))
theorem c_impl_logCopy (a0 : (List S_impl_Entry)) (r : (List S_impl_Entry)) (h : m_impl_logCopy a0 = some r) : Ret Try.prog f_impl_logCopy [e_Limpl_Entry a0] (.nw 2 (r.map e_impl_Entry) false) := by
  refine Does.goG [] F_impl_logCopy rfl e_impl_logCopy n_impl_logCopy rfl (rvs := [.tmp 2]) rfl rfl ?_
  intro w0 ok0 lent ρ0
  refine LWP.seq_k fun N1 hN1 => ?_
  refine LWP.region (l := [_]) ?_
  refine LWo.assign _ rfl (hn := ?_)
  refine LWo.ownNil 2 1002 2 rfl rfl rfl ?_
  refine LWo.known 2 (.own 1002 0 ([] : (List S_impl_Entry)).length) rfl ?_
  refine LWo.nil (hN1 _ ?_)
  refine LWP.seq_k fun N2 hN2 => ?_
  refine LWP.region (l := [_]) ?_
  refine LWo.assign _ rfl (hn := ?_)
  refine LWo.ownNil 3 1003 2 rfl rfl rfl ?_
  refine LWo.known 3 (.own 1003 0 ([] : (List S_impl_Entry)).length) rfl ?_
  refine LWo.nil (hN2 _ ?_)
  refine LWP.join (α := (List S_impl_Entry)) (fun z : (List S_impl_Entry) => [(3, (.own 1003 0 (z).length))]) (fun z : (List S_impl_Entry) => [(1003, (lob 2 e_impl_Entry z))]) (fun z : (List S_impl_Entry) => m_impl_logCopy_j1  z) r (fun _ => by simp [hkeys]) ?_ ?_
  ·rintro o1003 h
   replace h : m_impl_logCopy_j1  o1003 = some _ := h
   refine LWP.seq_k fun N17 hN17 => ?_
   refine LWP.region (l := [_,_,_]) ?_
   refine LWo.move (.own 1003 0 (o1003).length) rfl (hn := ?_)
   refine bk h fun x18 e18 h => ?_
   refine LWo.tcallN (e := e_impl_Entry) (e' := e_impl_Entry) 1023 rfl rfl (c_slices_Clip_Limpl_Entry_impl_Entry_o _ _ e18) (fun _ => rfl) rfl rfl rfl rfl (hn := ?_)
   refine LWo.assign (.own 1023 0 (x18).length) rfl (hn := ?_)
   refine LWo.nil (hN17 _ ?_)
   obtain rfl := Option.some.inj h
   refine LWP.ret (QG.mk (.inr rfl) (.cons (.tmp (x := (.own 1023 0 (x18).length)) rfl) (.nil)) (RetOK.one0 (.nwM rfl rfl) (by decide)) rfl rfl)
  ·intro N3 hN3
   refine LWP.seq_k fun N4 hN4 => ?_
   refine LWP.region (l := [_,_,_]) ?_
   refine LWo.move (e_Limpl_Entry a0) rfl (hn := ?_)
   refine LWo.lenM (f := e_impl_Entry) (l := a0) u_Limpl_Entry rfl (hn := ?_)
   refine LWo.move (e_int (0 : Int)) rfl (hn := ?_)
   refine LWo.nil (hN4 _ ?_)
   refine LWP.block ?_
   refine LWP.loopM (α := (List S_impl_Entry) × Int × Int × (List S_impl_Entry)) (fun z : (List S_impl_Entry) × Int × Int × (List S_impl_Entry) => [(3, (.own 1003 0 (z.2.2.2).length)), (6, (e_Limpl_Entry z.1)), (7, (e_int z.2.1)), (8, (e_int z.2.2.1))]) (fun z : (List S_impl_Entry) × Int × Int × (List S_impl_Entry) => [(1003, (lob 2 e_impl_Entry z.2.2.2))]) (fun n1 (z : (List S_impl_Entry) × Int × Int × (List S_impl_Entry)) => m_impl_logCopy_l1  n1 z.1 z.2.1 z.2.2.1 z.2.2.2) r _ (a0, (a0.length : Int), (0 : Int), ([] : (List S_impl_Entry))) h (fun _ => rfl) (fun _ => by simp [hkeys]) ⟨rfl, rfl, rfl, rfl, trivial⟩ ⟨rfl, trivial⟩ ?_
   rintro n1 ⟨t6, t7, t8, o1003⟩ h N5 hN5
   replace h : m_impl_logCopy_l1  (n1 + 1) t6 t7 t8 o1003 = some _ := h
   refine LWP.seq_k fun N7 hN7 => ?_
   refine LWP.region (l := [_]) ?_
   refine LWo.int _ rfl rfl rfl (hn := ?_)
   refine LWo.nil (hN7 _ ?_)
   refine LWP.seq_k fun N8 hN8 => ?_
   refine LWP.cond_split rfl (fun h9 => ?_) (fun h9 => ?_)
   ·have h := bT h9 h
    refine LWP.skip (hN8 _ ?_)
    refine LWP.seq_k fun N10 hN10 => ?_
    refine LWP.block ?_
    refine LWP.seq_k fun N11 hN11 => ?_
    refine LWP.region (l := [_,_,_,_]) ?_
    refine bk h fun x12 e12 h => ?_
    refine LWo.indexM (f := e_impl_Entry) e12 u_Limpl_Entry s_impl_Entry rfl rfl (hn := ?_)
    refine LWo.loadN ((e_impl_Entry x12)).cells g_impl_Entry s_impl_Entry rfl (Nat.le_of_ble_eq_true rfl) rfl (hn := ?_)
    refine LWo.alloc_impl_Entry 5 rfl (hn := ?_)
    refine lk h fun y13 e13 h => ?_
    refine LWo.storeW (y := (⟨(0 : Int), []⟩ : S_impl_Entry)) y13 s_impl_Entry rfl rfl rfl rfl rfl rfl (by rw [e13]; exact .refl) rfl (hn := ?_)
    refine LWo.nil (hN11 _ ?_)
    refine bk h fun x14 e14 h => ?_
    refine bk h fun x15 e15 h => ?_
    refine LWP.drawF (l := [_,_,_,_,_,_,_,_,_,_]) [1003] [3, 5, 6, 7, 8] [([3], []), ([5], []), ([13], [5]), ([5], []), ([15], [5]), ([16], []), ([14, 17], []), ([18], []), ([12, 19], [1003]), ([20], [])] [3, 6, 7, 8] [1003] mixed (by kernel_rfl) rfl (by decide) ?_
    refine dq 12 rfl (fun _ g u h => LWo.move (.own 1003 0 (o1003).length) u.1 (hn := .nil (zn g))) ?_
    refine dq 13 rfl (fun _ g u h => LWo.fieldPtr u_impl_Entry rfl s_int u.1 rfl (hn := .nil (zn g))) ?_
    refine dq 14 rfl (fun _ g u h => LWo.loadV1 (e_int y13.Time)  g_int u.1 h.1 rfl (hn := .nil (zn g))) ?_
    refine dq 15 rfl (fun _ g u h => LWo.fieldPtr u_impl_Entry rfl s_Limpl_Write u.1 rfl (hn := .nil (zn g))) ?_
    refine dq 16 rfl (fun _ g u h => LWo.loadV1 (e_Limpl_Write y13.Writes)  g_Limpl_Write u.1 h.1 rfl (hn := .nil (zn g))) ?_
    refine dq 17 rfl (fun _ g u h => LWo.vcall rfl (av1 u.1) (c_impl_writesCopy _ _ e14) (.same (.nil)) (hn := .nil (zn g))) ?_
    refine dq 18 rfl (fun _ g u h => LWo.build_impl_Entry (parts := [_, _]) (⟨y13.Time, x14⟩ : S_impl_Entry) (pv2 u.1 u.2.1) rfl rfl .refl (hn := .nil (zn g))) ?_
    refine dq 19 rfl (fun _ g u h => LWo.lit (ops := [_]) [(e_impl_Entry (⟨y13.Time, x14⟩ : S_impl_Entry))] u_Limpl_Entry s_impl_Entry z_impl_Entry (lv1 u.1) rfl rfl rfl rfl rfl (hn := .nil (zn g))) ?_
    refine ⟨rfl, .make 20 _ 1003 _, (by exact (goodC rfl goodN)), fun _ g u h => LWo.appendM (f := e_impl_Entry) e15 rfl u_Limpl_Entry u_Limpl_Entry (fun _ h => by cases h) s_impl_Entry i_impl_Entry rfl u.1 h.1 (.sl u.2.1) (lone_of g rfl) rfl (hn := LWo.nil ⟨rfl, .inl rfl, Ef.good_ok (e := .make 20 _ 1003 _) (by exact (goodC rfl goodN)) g⟩), ?_⟩
    refine dq 3 rfl (fun _ g u h => LWo.assign (.own 1003 0 (x15).length) u.1 (hn := .nil (zn g))) ?_
    refine ⟨rfl, by kernel_rfl, hN10 _ ?_⟩
    refine LWP.region (l := [_,_]) ?_
    refine bk h fun x16 e16 h => ?_
    refine LWo.int _ rfl rfl (add_ck e16) (hn := ?_)
    refine LWo.move (e_int x16) rfl (hn := ?_)
    refine LWo.nil (hN5 (t6, t7, x16, x15) _ ⟨rfl, rfl, rfl, rfl, trivial⟩ ⟨rfl, trivial⟩ h)
   ·have h := bF h9 h
    refine LWP.exit (hN3 o1003 _ ⟨rfl, trivial⟩ ⟨rfl, trivial⟩ h)

def m_impl_logCut (a0 : (List S_impl_Entry)) (a1 : Int) : Option (List S_impl_Entry) :=
  (m_slices_Clone_Limpl_Entry_impl_Entry a0).bind fun x3 =>
  (m_slices_DeleteFunc_Limpl_Entry_impl_Entry x3 (fun b0_ => m_impl_logCut_1 b0_ a1)).bind fun x4 =>
  (m_impl_logCopy x4).bind fun x5 =>
  some x5
theorem c_impl_logCut (a0 : (List S_impl_Entry)) (a1 : Int) (r : (List S_impl_Entry)) (h : m_impl_logCut a0 a1 = some r) : Ret Try.prog f_impl_logCut [e_Limpl_Entry a0, e_int a1] (.nw 2 (r.map e_impl_Entry) false) := by
  refine Does.goG [] F_impl_logCut rfl e_impl_logCut n_impl_logCut rfl (rvs := [.tmp 4]) rfl rfl ?_
  intro w0 ok0 lent ρ0
  refine LWP.seq_k fun N1 hN1 => ?_
  refine LWP.region (l := [_,_]) ?_
  refine LWo.boxF (e_int a1) rfl rfl rfl (hn := ?_)
  refine LWo.assign _ rfl (hn := ?_)
  refine LWo.ownNil 4 1004 2 rfl rfl rfl ?_
  refine LWo.known 4 (.own 1004 0 ([] : (List S_impl_Entry)).length) rfl ?_
  refine LWo.nil (hN1 _ ?_)
  refine LWP.seq_k fun N2 hN2 => ?_
  refine LWP.region (l := [_,_,_,_,_,_]) ?_
  refine LWo.move (e_Limpl_Entry a0) rfl (hn := ?_)
  refine bk h fun x3 e3 h => ?_
  refine LWo.ncall (e := e_impl_Entry) 1006 rfl rfl (c_slices_Clone_Limpl_Entry_impl_Entry _ _ e3) (.same (.nil)) rfl (hn := ?_)
  refine LWo.makeFuncM [(.fp (e_int a1).cells)] rfl rfl (hn := ?_)
  refine bk h fun x4 e4 h => ?_
  refine LWo.tcallN (e := e_impl_Entry) (e' := e_impl_Entry) 1008 rfl rfl (c_slices_DeleteFunc_Limpl_Entry_impl_Entry _ _ f_impl_logCut_1 [(.fp (e_int a1).cells)] (fun _ => rfl) (fun b0_ v hv => c_impl_logCut_1 b0_ a1 v hv) _ e4) (fun _ => rfl) rfl rfl rfl rfl (hn := ?_)
  refine bk h fun x5 e5 h => ?_
  refine LWo.frzL (f := e_impl_Entry) (l := x4) [8] 1008 rfl rfl ⟨rfl, trivial⟩ ?_
  refine LWo.ncall (e := e_impl_Entry) 1009 rfl rfl (c_impl_logCopy _ _ e5) (.same (.nil)) rfl (hn := ?_)
  refine LWo.assign (.own 1009 0 (x5).length) rfl (hn := ?_)
  refine LWo.nil (hN2 _ ?_)
  obtain rfl := Option.some.inj h
  refine LWP.ret (QG.mk (.inr rfl) (.cons (.tmp (x := (.own 1009 0 (x5).length)) rfl) (.nil)) (RetOK.one0 (.nwM rfl rfl) (by decide)) rfl rfl)

def m_impl_LogCut (a0 : (List S_impl_Entry)) (a1 : Int) : Option (List S_impl_Entry) :=
  (m_impl_LogOk a0).bind fun x4 =>
  bif (!x4) then (some ([] : (List S_impl_Entry)))
  else ((m_impl_logCut a0 a1).bind fun x8 =>
  some x8)
theorem c_impl_LogCut (a0 : (List S_impl_Entry)) (a1 : Int) (r : (List S_impl_Entry)) (h : m_impl_LogCut a0 a1 = some r) : Ret Try.prog f_impl_LogCut [e_Limpl_Entry a0, e_int a1] (.nw 2 (r.map e_impl_Entry) false) := by
  refine Does.goG [] F_impl_LogCut rfl e_impl_LogCut n_impl_LogCut rfl (rvs := [.tmp 4]) rfl rfl ?_
  intro w0 ok0 lent ρ0
  refine LWP.seq_k fun N1 hN1 => ?_
  refine LWP.region (l := [_]) ?_
  refine LWo.assign _ rfl (hn := ?_)
  refine LWo.ownNil 4 1004 2 rfl rfl rfl ?_
  refine LWo.known 4 (.own 1004 0 ([] : (List S_impl_Entry)).length) rfl ?_
  refine LWo.nil (hN1 _ ?_)
  refine LWP.seq_k fun N2 hN2 => ?_
  refine LWP.seq_k fun N3 hN3 => ?_
  refine LWP.region (l := [_,_,_]) ?_
  refine LWo.move (e_Limpl_Entry a0) rfl (hn := ?_)
  refine bk h fun x4 e4 h => ?_
  refine LWo.vcall rfl rfl (c_impl_LogOk _ _ e4) (.same (.nil)) (hn := ?_)
  refine LWo.not rfl (hn := ?_)
  refine LWo.nil (hN3 _ ?_)
  refine LWP.cond_split rfl (fun h5 => ?_) (fun h5 => ?_)
  ·have h := bT h5 h
   refine LWP.seq_k fun N6 hN6 => ?_
   refine LWP.region (l := [_]) ?_
   refine LWo.assign _ rfl (hn := ?_)
   refine LWo.ownNil 4 1004 2 rfl rfl rfl ?_
   refine LWo.known 4 (.own 1004 0 ([] : (List S_impl_Entry)).length) rfl ?_
   refine LWo.nil (hN6 _ ?_)
   obtain rfl := Option.some.inj h
   refine LWP.ret (QG.mk (.inr rfl) (.cons (.tmp (x := (.own 1004 0 (([] : (List S_impl_Entry))).length)) rfl) (.nil)) (RetOK.one0 (.nwM rfl rfl) (by decide)) rfl rfl)
  ·have h := bF h5 h
   refine LWP.skip (hN2 _ ?_)
   refine LWP.seq_k fun N7 hN7 => ?_
   refine LWP.region (l := [_,_,_,_]) ?_
   refine LWo.move (e_Limpl_Entry a0) rfl (hn := ?_)
   refine LWo.move (e_int a1) rfl (hn := ?_)
   refine bk h fun x8 e8 h => ?_
   refine LWo.ncall (e := e_impl_Entry) 1010 rfl rfl (c_impl_logCut _ _ _ e8) (.same (.same (.nil))) rfl (hn := ?_)
   refine LWo.assign (.own 1010 0 (x8).length) rfl (hn := ?_)
   refine LWo.nil (hN7 _ ?_)
   obtain rfl := Option.some.inj h
   refine LWP.ret (QG.mk (.inr rfl) (.cons (.tmp (x := (.own 1010 0 (x8).length)) rfl) (.nil)) (RetOK.one0 (.nwM rfl rfl) (by decide)) rfl rfl)

def m_spec_l1In_j1 (t6 : Bool) : Option Bool :=
  some t6
def m_spec_l1In (a0 : Int) (a1 : Int) (a2 : Int) : Option Bool :=
  bif decide (a0 ≥ a1) then (m_spec_l1In_j1  (decide (a0 ≤ a2)))
  else (m_spec_l1In_j1  false)
theorem c_spec_l1In (a0 : Int) (a1 : Int) (a2 : Int) (r : Bool) (h : m_spec_l1In a0 a1 a2 = some r) : Ret Try.prog f_spec_l1In [e_int a0, e_int a1, e_int a2] (e_bool r) := by
  refine Does.goG [] F_spec_l1In rfl e_spec_l1In n_spec_l1In rfl (rvs := [.tmp 6]) rfl rfl ?_
  intro w0 ok0 lent ρ0
  refine LWP.seq_k fun N1 hN1 => ?_
  refine LWP.region (l := [_]) ?_
  refine LWo.assign (e_bool false) rfl (hn := ?_)
  refine LWo.nil (hN1 _ ?_)
  refine LWP.join (α := Bool) (fun z : Bool => [(6, (e_bool z))]) (fun z : Bool => []) (fun z : Bool => m_spec_l1In_j1  z) r (fun _ => by simp [hkeys]) ?_ ?_
  ·rintro t6 h
   replace h : m_spec_l1In_j1  t6 = some _ := h
   obtain rfl := Option.some.inj h
   refine LWP.ret (QG.mk (.inr rfl) (.cons (.tmp (x := (e_bool t6)) rfl) (.nil)) (RetOK.one0 (.pure rfl) (by decide)) rfl rfl)
  ·intro N2 hN2
   refine LWP.region (l := [_,_,_,_,_,_,_,_,_]) ?_
   refine LWo.move (e_int a0) rfl (hn := ?_)
   refine LWo.move (e_int a1) rfl (hn := ?_)
   refine LWo.int _ rfl rfl rfl (hn := ?_)
   refine LWo.move (e_bool (decide (a0 ≥ a1))) rfl (hn := ?_)
   refine LWo.byCases (t := 10) _ rfl (fun h3 => ?_) (fun h3 => ?_)
   ·have h := bT h3 h
    refine LWo.guardY (t := 10) rfl h3 rfl rfl ?_
    refine LWo.move (e_int a0) rfl (hn := ?_)
    refine LWo.guardY (t := 10) rfl h3 rfl rfl ?_
    refine LWo.move (e_int a2) rfl (hn := ?_)
    refine LWo.guardY (t := 10) rfl h3 rfl rfl ?_
    refine LWo.int _ rfl rfl rfl (hn := ?_)
    refine LWo.pickTM (e_bool (decide (a0 ≤ a2))) rfl h3 rfl (hn := ?_)
    refine LWo.assign (e_bool (decide (a0 ≤ a2))) rfl (hn := ?_)
    refine LWo.nil (hN2 (decide (a0 ≤ a2)) _ ⟨rfl, trivial⟩ trivial h)
   ·have h := bF h3 h
    refine LWo.guardNU (t := 10) rfl h3 rfl rfl rfl rfl rfl ?_
    refine LWo.guardNU (t := 10) rfl h3 rfl rfl rfl rfl rfl ?_
    refine LWo.guardNU (t := 10) rfl h3 rfl rfl rfl rfl rfl ?_
    refine LWo.pickFM (e_bool false) rfl h3 rfl (hn := ?_)
    refine LWo.assign (e_bool false) rfl (hn := ?_)
    refine LWo.nil (hN2 false _ ⟨rfl, trivial⟩ trivial h)

def m_spec_l1Text_j2 (t0 : ByteArray) : Option Bool :=
  some (decide ((t0.size : Int) ≤ (6 : Int)))
def m_spec_l1Text_j1 (k1 : ByteArray → Int → Option Bool) (t0 : ByteArray) (t3 : Int) (t19 : Bool) : Option Bool :=
  bif t19 then (some false)
  else ((ckI (t3 + (1 : Int))).bind fun x16 =>
  k1 t0 x16)
def m_spec_l1Text_l1 : Nat → ByteArray → Int → Option Bool
  | 0, _, _ => none
  | n1 + 1, t0, t3 =>
    bif decide (t3 < (t0.size : Int)) then ((sAt? t0 t3).bind fun x11 =>
    bif decide ((x11.toNat : Int) < ((97 : UInt8).toNat : Int)) then (m_spec_l1Text_j1  (m_spec_l1Text_l1  n1) t0 t3 true)
    else ((sAt? t0 t3).bind fun x13 =>
      m_spec_l1Text_j1  (m_spec_l1Text_l1  n1) t0 t3 (decide ((x13.toNat : Int) > ((122 : UInt8).toNat : Int)))))
    else (m_spec_l1Text_j2  t0)
def m_spec_l1Text (a0 : ByteArray) : Option Bool :=
  m_spec_l1Text_l1  (((a0.size : Int) - (0 : Int)).toNat + 1) a0 (0 : Int)
theorem c_spec_l1Text (a0 : ByteArray) (r : Bool) (h : m_spec_l1Text a0 = some r) : Ret Try.prog f_spec_l1Text [e_string a0] (e_bool r) := by
  refine Does.goG [] F_spec_l1Text rfl e_spec_l1Text n_spec_l1Text rfl (rvs := [.tmp 2]) rfl rfl ?_
  intro w0 ok0 lent ρ0
  refine LWP.seq_k fun N1 hN1 => ?_
  refine LWP.region (l := [_]) ?_
  refine LWo.assign (e_bool false) rfl (hn := ?_)
  refine LWo.nil (hN1 _ ?_)
  refine LWP.join (α := ByteArray) (fun z : ByteArray => [(0, (e_string z))]) (fun z : ByteArray => []) (fun z : ByteArray => m_spec_l1Text_j2  z) r (fun _ => by simp [hkeys]) ?_ ?_
  ·rintro t0 h
   replace h : m_spec_l1Text_j2  t0 = some _ := h
   refine LWP.seq_k fun N17 hN17 => ?_
   refine LWP.region (l := [_,_,_,_]) ?_
   refine LWo.move (e_string t0) rfl (hn := ?_)
   refine LWo.lenS u_string rfl (hn := ?_)
   refine LWo.int _ rfl rfl rfl (hn := ?_)
   refine LWo.assign (e_bool (decide ((t0.size : Int) ≤ (6 : Int)))) rfl (hn := ?_)
   refine LWo.nil (hN17 _ ?_)
   obtain rfl := Option.some.inj h
   refine LWP.ret (QG.mk (.inr rfl) (.cons (.tmp (x := (e_bool (decide ((t0.size : Int) ≤ (6 : Int))))) rfl) (.nil)) (RetOK.one0 (.pure rfl) (by decide)) rfl rfl)
  ·intro N2 hN2
   refine LWP.seq_k fun N3 hN3 => ?_
   refine LWP.region (l := [_]) ?_
   refine LWo.assign (e_int (0 : Int)) rfl (hn := ?_)
   refine LWo.nil (hN3 _ ?_)
   refine LWP.block ?_
   refine LWP.loopM (α := ByteArray × Int) (fun z : ByteArray × Int => [(0, (e_string z.1)), (3, (e_int z.2))]) (fun z : ByteArray × Int => []) (fun n1 (z : ByteArray × Int) => m_spec_l1Text_l1  n1 z.1 z.2) r _ (a0, (0 : Int)) h (fun _ => rfl) (fun _ => by simp [hkeys]) ⟨rfl, rfl, trivial⟩ trivial ?_
   rintro n1 ⟨t0, t3⟩ h N4 hN4
   replace h : m_spec_l1Text_l1  (n1 + 1) t0 t3 = some _ := h
   refine LWP.seq_k fun N6 hN6 => ?_
   refine LWP.seq_k fun N7 hN7 => ?_
   refine LWP.region (l := [_,_,_,_]) ?_
   refine LWo.move (e_int t3) rfl (hn := ?_)
   refine LWo.move (e_string t0) rfl (hn := ?_)
   refine LWo.lenS u_string rfl (hn := ?_)
   refine LWo.int _ rfl rfl rfl (hn := ?_)
   refine LWo.nil (hN7 _ ?_)
   refine LWP.cond_split rfl (fun h8 => ?_) (fun h8 => ?_)
   ·have h := bT h8 h
    refine LWP.skip (hN6 _ ?_)
    refine LWP.seq_k fun N9 hN9 => ?_
    refine LWP.block ?_
    refine LWP.join (α := ByteArray × Int × Bool) (fun z : ByteArray × Int × Bool => [(0, (e_string z.1)), (3, (e_int z.2.1)), (19, (e_bool z.2.2))]) (fun z : ByteArray × Int × Bool => []) (fun z : ByteArray × Int × Bool => m_spec_l1Text_j1  (m_spec_l1Text_l1  n1) z.1 z.2.1 z.2.2) r (fun _ => by simp [hkeys]) ?_ ?_
    ·rintro ⟨t0, t3, t19⟩ h
     replace h : m_spec_l1Text_j1  (m_spec_l1Text_l1  n1) t0 t3 t19 = some _ := h
     refine LWP.cond_split rfl (fun h14 => ?_) (fun h14 => ?_)
     ·have h := bT h14 h
      refine LWP.seq_k fun N15 hN15 => ?_
      refine LWP.region (l := [_]) ?_
      refine LWo.assign (e_bool false) rfl (hn := ?_)
      refine LWo.nil (hN15 _ ?_)
      obtain rfl := Option.some.inj h
      refine LWP.ret (QG.mk (.inr rfl) (.cons (.tmp (x := (e_bool false)) rfl) (.nil)) (RetOK.one0 (.pure rfl) (by decide)) rfl rfl)
     ·have h := bF h14 h
      refine LWP.skip (hN9 _ ?_)
      refine LWP.region (l := [_,_,_]) ?_
      refine LWo.move (e_int t3) rfl (hn := ?_)
      refine bk h fun x16 e16 h => ?_
      refine LWo.int _ rfl rfl (add_ck e16) (hn := ?_)
      refine LWo.assign (e_int x16) rfl (hn := ?_)
      refine LWo.nil (hN4 (t0, x16) _ ⟨rfl, rfl, trivial⟩ trivial h)
    ·intro N10 hN10
     refine LWP.region (l := [_,_,_,_,_,_,_,_,_,_]) ?_
     refine LWo.move (e_string t0) rfl (hn := ?_)
     refine LWo.move (e_int t3) rfl (hn := ?_)
     refine bk h fun x11 e11 h => ?_
     refine LWo.indexStr u_string rfl rfl (sAt_0 e11) (sAt_g e11) (hn := ?_)
     refine LWo.int _ rfl rfl rfl (hn := ?_)
     refine LWo.move (e_bool (decide ((x11.toNat : Int) < ((97 : UInt8).toNat : Int)))) rfl (hn := ?_)
     refine LWo.byCases (t := 14) _ rfl (fun h12 => ?_) (fun h12 => ?_)
     ·have h := bT h12 h
      refine LWo.guardNU (t := 14) rfl h12 rfl rfl rfl rfl rfl ?_
      refine LWo.guardNU (t := 14) rfl h12 rfl rfl rfl rfl rfl ?_
      refine LWo.guardNU (t := 14) rfl h12 rfl rfl rfl rfl rfl ?_
      refine LWo.guardNU (t := 14) rfl h12 rfl rfl rfl rfl rfl ?_
      refine LWo.pickTM (e_bool true) rfl h12 rfl (hn := ?_)
      refine LWo.nil (hN10 (t0, t3, true) _ ⟨rfl, rfl, rfl, trivial⟩ trivial h)
     ·have h := bF h12 h
      refine LWo.guardY (t := 14) rfl h12 rfl rfl ?_
      refine LWo.move (e_string t0) rfl (hn := ?_)
      refine LWo.guardY (t := 14) rfl h12 rfl rfl ?_
      refine LWo.move (e_int t3) rfl (hn := ?_)
      refine bk h fun x13 e13 h => ?_
      refine LWo.guardY (t := 14) rfl h12 rfl rfl ?_
      refine LWo.indexStr u_string rfl rfl (sAt_0 e13) (sAt_g e13) (hn := ?_)
      refine LWo.guardY (t := 14) rfl h12 rfl rfl ?_
      refine LWo.int _ rfl rfl rfl (hn := ?_)
      refine LWo.pickFM (e_bool (decide ((x13.toNat : Int) > ((122 : UInt8).toNat : Int)))) rfl h12 rfl (hn := ?_)
      refine LWo.nil (hN10 (t0, t3, decide ((x13.toNat : Int) > ((122 : UInt8).toNat : Int))) _ ⟨rfl, rfl, rfl, trivial⟩ trivial h)
   ·have h := bF h8 h
    refine LWP.exit (hN2 t0 _ ⟨rfl, trivial⟩ trivial h)

def m_spec_ValueOk_j1 (t2 : Bool) : Option Bool :=
  some t2
def m_spec_ValueOk_j2 (t2 : Bool) : Option Bool :=
  some t2
def m_spec_ValueOk_j3 (t2 : Bool) : Option Bool :=
  some t2
def m_spec_ValueOk_j4 (t2 : Bool) : Option Bool :=
  some t2
def m_spec_ValueOk (a0 : S_impl_Value) : Option Bool :=
  bif (a0.Kind == (0 : Int)) then (bif (a0.N == (0 : Int)) then (m_spec_ValueOk_j1  (sEq a0.S (⟨#[]⟩ : ByteArray)))
    else (m_spec_ValueOk_j1  false))
  else (bif (a0.Kind == (1 : Int)) then ((m_spec_l1In a0.N (-9999 : Int) (9999 : Int)).bind fun x11 =>
      bif x11 then (m_spec_ValueOk_j2  (sEq a0.S (⟨#[]⟩ : ByteArray)))
      else (m_spec_ValueOk_j2  false))
    else (bif (a0.Kind == (2 : Int)) then (bif (a0.N == (0 : Int)) then ((m_spec_l1Text a0.S).bind fun x17 =>
          m_spec_ValueOk_j3  x17)
        else (m_spec_ValueOk_j3  false))
      else (bif (a0.Kind == (3 : Int)) then ((m_spec_l1In a0.N (0 : Int) (1 : Int)).bind fun x21 =>
          bif x21 then (m_spec_ValueOk_j4  (sEq a0.S (⟨#[]⟩ : ByteArray)))
          else (m_spec_ValueOk_j4  false))
        else (some false))))
theorem c_spec_ValueOk (a0 : S_impl_Value) (r : Bool) (h : m_spec_ValueOk a0 = some r) : Ret Try.prog f_spec_ValueOk [e_impl_Value a0] (e_bool r) := by
  refine Does.goG [] F_spec_ValueOk rfl e_spec_ValueOk n_spec_ValueOk rfl (rvs := [.tmp 2]) rfl rfl ?_
  intro w0 ok0 lent ρ0
  refine LWP.seq_k fun N1 hN1 => ?_
  refine LWP.region (l := [_,_]) ?_
  refine LWo.boxF (e_impl_Value a0) rfl rfl rfl (hn := ?_)
  refine LWo.assign (e_bool false) rfl (hn := ?_)
  refine LWo.nil (hN1 _ ?_)
  refine LWP.seq_k fun N2 hN2 => ?_
  refine LWP.seq_k fun N3 hN3 => ?_
  refine LWP.region (l := [_,_]) ?_
  refine LWo.fieldAddr _ u_impl_Value rfl s_int rfl rfl (hn := ?_)
  refine LWo.load1 (c := (e_int a0.Kind)) g_int rfl (hn := ?_)
  refine LWo.nil (hN3 _ ?_)
  refine LWP.block ?_
  refine LWP.seq_k fun N4 hN4 => ?_
  refine LWP.region (l := [_,_]) ?_
  refine LWo.int _ rfl rfl rfl (hn := ?_)
  refine LWo.assign (e_bool (a0.Kind == (0 : Int))) rfl (hn := ?_)
  refine LWo.nil (hN4 _ ?_)
  refine LWP.cond_split rfl (fun h5 => ?_) (fun h5 => ?_)
  ·have h := bT h5 h
   refine LWP.join (α := Bool) (fun z : Bool => [(2, (e_bool z))]) (fun z : Bool => []) (fun z : Bool => m_spec_ValueOk_j1  z) r (fun _ => by simp [hkeys]) ?_ ?_
   ·rintro t2 h
    replace h : m_spec_ValueOk_j1  t2 = some _ := h
    obtain rfl := Option.some.inj h
    refine LWP.ret (QG.mk (.inr rfl) (.cons (.tmp (x := (e_bool t2)) rfl) (.nil)) (RetOK.one0 (.pure rfl) (by decide)) rfl rfl)
   ·intro N6 hN6
    refine LWP.region (l := [_,_,_,_,_,_,_,_,_]) ?_
    refine LWo.fieldAddr _ u_impl_Value rfl s_int rfl rfl (hn := ?_)
    refine LWo.load1 (c := (e_int a0.N)) g_int rfl (hn := ?_)
    refine LWo.int _ rfl rfl rfl (hn := ?_)
    refine LWo.move (e_bool (a0.N == (0 : Int))) rfl (hn := ?_)
    refine LWo.byCases (t := 10) _ rfl (fun h7 => ?_) (fun h7 => ?_)
    ·have h := bT h7 h
     refine LWo.guardY (t := 10) rfl h7 rfl rfl ?_
     refine LWo.fieldAddr _ u_impl_Value rfl s_string rfl rfl (hn := ?_)
     refine LWo.guardY (t := 10) rfl h7 rfl rfl ?_
     refine LWo.load1 (c := (e_string a0.S)) g_string rfl (hn := ?_)
     refine LWo.guardY (t := 10) rfl h7 rfl rfl ?_
     refine LWo.str _ rfl rfl rfl (hn := ?_)
     refine LWo.pickTM (e_bool (sEq a0.S (⟨#[]⟩ : ByteArray))) rfl h7 rfl (hn := ?_)
     refine LWo.assign (e_bool (sEq a0.S (⟨#[]⟩ : ByteArray))) rfl (hn := ?_)
     refine LWo.nil (hN6 (sEq a0.S (⟨#[]⟩ : ByteArray)) _ ⟨rfl, trivial⟩ trivial h)
    ·have h := bF h7 h
     refine LWo.guardNU (t := 10) rfl h7 rfl rfl rfl rfl rfl ?_
     refine LWo.guardNU (t := 10) rfl h7 rfl rfl rfl rfl rfl ?_
     refine LWo.guardNU (t := 10) rfl h7 rfl rfl rfl rfl rfl ?_
     refine LWo.pickFM (e_bool false) rfl h7 rfl (hn := ?_)
     refine LWo.assign (e_bool false) rfl (hn := ?_)
     refine LWo.nil (hN6 false _ ⟨rfl, trivial⟩ trivial h)
  ·have h := bF h5 h
   refine LWP.seq_k fun N8 hN8 => ?_
   refine LWP.region (l := [_,_]) ?_
   refine LWo.int _ rfl rfl rfl (hn := ?_)
   refine LWo.assign (e_bool (a0.Kind == (1 : Int))) rfl (hn := ?_)
   refine LWo.nil (hN8 _ ?_)
   refine LWP.cond_split rfl (fun h9 => ?_) (fun h9 => ?_)
   ·have h := bT h9 h
    refine LWP.join (α := Bool) (fun z : Bool => [(2, (e_bool z))]) (fun z : Bool => []) (fun z : Bool => m_spec_ValueOk_j2  z) r (fun _ => by simp [hkeys]) ?_ ?_
    ·rintro t2 h
     replace h : m_spec_ValueOk_j2  t2 = some _ := h
     obtain rfl := Option.some.inj h
     refine LWP.ret (QG.mk (.inr rfl) (.cons (.tmp (x := (e_bool t2)) rfl) (.nil)) (RetOK.one0 (.pure rfl) (by decide)) rfl rfl)
    ·intro N10 hN10
     refine LWP.region (l := [_,_,_,_,_,_,_,_,_]) ?_
     refine LWo.fieldAddr _ u_impl_Value rfl s_int rfl rfl (hn := ?_)
     refine LWo.load1 (c := (e_int a0.N)) g_int rfl (hn := ?_)
     refine bk h fun x11 e11 h => ?_
     refine LWo.vcall rfl rfl (c_spec_l1In _ _ _ _ e11) (.same (.same (.same (.nil)))) (hn := ?_)
     refine LWo.move (e_bool x11) rfl (hn := ?_)
     refine LWo.byCases (t := 20) _ rfl (fun h12 => ?_) (fun h12 => ?_)
     ·have h := bT h12 h
      refine LWo.guardY (t := 20) rfl h12 rfl rfl ?_
      refine LWo.fieldAddr _ u_impl_Value rfl s_string rfl rfl (hn := ?_)
      refine LWo.guardY (t := 20) rfl h12 rfl rfl ?_
      refine LWo.load1 (c := (e_string a0.S)) g_string rfl (hn := ?_)
      refine LWo.guardY (t := 20) rfl h12 rfl rfl ?_
      refine LWo.str _ rfl rfl rfl (hn := ?_)
      refine LWo.pickTM (e_bool (sEq a0.S (⟨#[]⟩ : ByteArray))) rfl h12 rfl (hn := ?_)
      refine LWo.assign (e_bool (sEq a0.S (⟨#[]⟩ : ByteArray))) rfl (hn := ?_)
      refine LWo.nil (hN10 (sEq a0.S (⟨#[]⟩ : ByteArray)) _ ⟨rfl, trivial⟩ trivial h)
     ·have h := bF h12 h
      refine LWo.guardNU (t := 20) rfl h12 rfl rfl rfl rfl rfl ?_
      refine LWo.guardNU (t := 20) rfl h12 rfl rfl rfl rfl rfl ?_
      refine LWo.guardNU (t := 20) rfl h12 rfl rfl rfl rfl rfl ?_
      refine LWo.pickFM (e_bool false) rfl h12 rfl (hn := ?_)
      refine LWo.assign (e_bool false) rfl (hn := ?_)
      refine LWo.nil (hN10 false _ ⟨rfl, trivial⟩ trivial h)
   ·have h := bF h9 h
    refine LWP.seq_k fun N13 hN13 => ?_
    refine LWP.region (l := [_,_]) ?_
    refine LWo.int _ rfl rfl rfl (hn := ?_)
    refine LWo.assign (e_bool (a0.Kind == (2 : Int))) rfl (hn := ?_)
    refine LWo.nil (hN13 _ ?_)
    refine LWP.cond_split rfl (fun h14 => ?_) (fun h14 => ?_)
    ·have h := bT h14 h
     refine LWP.join (α := Bool) (fun z : Bool => [(2, (e_bool z))]) (fun z : Bool => []) (fun z : Bool => m_spec_ValueOk_j3  z) r (fun _ => by simp [hkeys]) ?_ ?_
     ·rintro t2 h
      replace h : m_spec_ValueOk_j3  t2 = some _ := h
      obtain rfl := Option.some.inj h
      refine LWP.ret (QG.mk (.inr rfl) (.cons (.tmp (x := (e_bool t2)) rfl) (.nil)) (RetOK.one0 (.pure rfl) (by decide)) rfl rfl)
     ·intro N15 hN15
      refine LWP.region (l := [_,_,_,_,_,_,_,_,_]) ?_
      refine LWo.fieldAddr _ u_impl_Value rfl s_int rfl rfl (hn := ?_)
      refine LWo.load1 (c := (e_int a0.N)) g_int rfl (hn := ?_)
      refine LWo.int _ rfl rfl rfl (hn := ?_)
      refine LWo.move (e_bool (a0.N == (0 : Int))) rfl (hn := ?_)
      refine LWo.byCases (t := 30) _ rfl (fun h16 => ?_) (fun h16 => ?_)
      ·have h := bT h16 h
       refine LWo.guardY (t := 30) rfl h16 rfl rfl ?_
       refine LWo.fieldAddr _ u_impl_Value rfl s_string rfl rfl (hn := ?_)
       refine LWo.guardY (t := 30) rfl h16 rfl rfl ?_
       refine LWo.load1 (c := (e_string a0.S)) g_string rfl (hn := ?_)
       refine bk h fun x17 e17 h => ?_
       refine LWo.guardY (t := 30) rfl h16 rfl rfl ?_
       refine LWo.vcall rfl rfl (c_spec_l1Text _ _ e17) (.same (.nil)) (hn := ?_)
       refine LWo.pickTM (e_bool x17) rfl h16 rfl (hn := ?_)
       refine LWo.assign (e_bool x17) rfl (hn := ?_)
       refine LWo.nil (hN15 x17 _ ⟨rfl, trivial⟩ trivial h)
      ·have h := bF h16 h
       refine LWo.guardNU (t := 30) rfl h16 rfl rfl rfl rfl rfl ?_
       refine LWo.guardNU (t := 30) rfl h16 rfl rfl rfl rfl rfl ?_
       refine LWo.guardNU (t := 30) rfl h16 rfl rfl rfl rfl rfl ?_
       refine LWo.pickFM (e_bool false) rfl h16 rfl (hn := ?_)
       refine LWo.assign (e_bool false) rfl (hn := ?_)
       refine LWo.nil (hN15 false _ ⟨rfl, trivial⟩ trivial h)
    ·have h := bF h14 h
     refine LWP.seq_k fun N18 hN18 => ?_
     refine LWP.region (l := [_,_]) ?_
     refine LWo.int _ rfl rfl rfl (hn := ?_)
     refine LWo.assign (e_bool (a0.Kind == (3 : Int))) rfl (hn := ?_)
     refine LWo.nil (hN18 _ ?_)
     refine LWP.cond_split rfl (fun h19 => ?_) (fun h19 => ?_)
     ·have h := bT h19 h
      refine LWP.join (α := Bool) (fun z : Bool => [(2, (e_bool z))]) (fun z : Bool => []) (fun z : Bool => m_spec_ValueOk_j4  z) r (fun _ => by simp [hkeys]) ?_ ?_
      ·rintro t2 h
       replace h : m_spec_ValueOk_j4  t2 = some _ := h
       obtain rfl := Option.some.inj h
       refine LWP.ret (QG.mk (.inr rfl) (.cons (.tmp (x := (e_bool t2)) rfl) (.nil)) (RetOK.one0 (.pure rfl) (by decide)) rfl rfl)
      ·intro N20 hN20
       refine LWP.region (l := [_,_,_,_,_,_,_,_,_]) ?_
       refine LWo.fieldAddr _ u_impl_Value rfl s_int rfl rfl (hn := ?_)
       refine LWo.load1 (c := (e_int a0.N)) g_int rfl (hn := ?_)
       refine bk h fun x21 e21 h => ?_
       refine LWo.vcall rfl rfl (c_spec_l1In _ _ _ _ e21) (.same (.same (.same (.nil)))) (hn := ?_)
       refine LWo.move (e_bool x21) rfl (hn := ?_)
       refine LWo.byCases (t := 40) _ rfl (fun h22 => ?_) (fun h22 => ?_)
       ·have h := bT h22 h
        refine LWo.guardY (t := 40) rfl h22 rfl rfl ?_
        refine LWo.fieldAddr _ u_impl_Value rfl s_string rfl rfl (hn := ?_)
        refine LWo.guardY (t := 40) rfl h22 rfl rfl ?_
        refine LWo.load1 (c := (e_string a0.S)) g_string rfl (hn := ?_)
        refine LWo.guardY (t := 40) rfl h22 rfl rfl ?_
        refine LWo.str _ rfl rfl rfl (hn := ?_)
        refine LWo.pickTM (e_bool (sEq a0.S (⟨#[]⟩ : ByteArray))) rfl h22 rfl (hn := ?_)
        refine LWo.assign (e_bool (sEq a0.S (⟨#[]⟩ : ByteArray))) rfl (hn := ?_)
        refine LWo.nil (hN20 (sEq a0.S (⟨#[]⟩ : ByteArray)) _ ⟨rfl, trivial⟩ trivial h)
       ·have h := bF h22 h
        refine LWo.guardNU (t := 40) rfl h22 rfl rfl rfl rfl rfl ?_
        refine LWo.guardNU (t := 40) rfl h22 rfl rfl rfl rfl rfl ?_
        refine LWo.guardNU (t := 40) rfl h22 rfl rfl rfl rfl rfl ?_
        refine LWo.pickFM (e_bool false) rfl h22 rfl (hn := ?_)
        refine LWo.assign (e_bool false) rfl (hn := ?_)
        refine LWo.nil (hN20 false _ ⟨rfl, trivial⟩ trivial h)
     ·have h := bF h19 h
      refine LWP.skip (hN2 _ ?_)
      refine LWP.seq_k fun N23 hN23 => ?_
      refine LWP.region (l := [_]) ?_
      refine LWo.assign (e_bool false) rfl (hn := ?_)
      refine LWo.nil (hN23 _ ?_)
      obtain rfl := Option.some.inj h
      refine LWP.ret (QG.mk (.inr rfl) (.cons (.tmp (x := (e_bool false)) rfl) (.nil)) (RetOK.one0 (.pure rfl) (by decide)) rfl rfl)

def m_spec_RowOk_j1 (t0 : (List S_impl_Value)) : Option Bool :=
  some (decide ((t0.length : Int) ≤ (4 : Int)))
def m_spec_RowOk_l1 : Nat → (List S_impl_Value) → Int → Option Bool
  | 0, _, _ => none
  | n1 + 1, t0, t3 =>
    bif decide (t3 < (t0.length : Int)) then ((at? t0 t3).bind fun x11 =>
    (m_spec_ValueOk x11).bind fun x12 =>
    bif (!x12) then (some false)
    else ((ckI (t3 + (1 : Int))).bind fun x15 =>
    (m_spec_RowOk_l1  n1) t0 x15))
    else (m_spec_RowOk_j1  t0)
def m_spec_RowOk (a0 : (List S_impl_Value)) : Option Bool :=
  m_spec_RowOk_l1  (((a0.length : Int) - (0 : Int)).toNat + 1) a0 (0 : Int)
theorem c_spec_RowOk (a0 : (List S_impl_Value)) (r : Bool) (h : m_spec_RowOk a0 = some r) : Ret Try.prog f_spec_RowOk [e_Limpl_Value a0] (e_bool r) := by
  refine Does.goG [] F_spec_RowOk rfl e_spec_RowOk n_spec_RowOk rfl (rvs := [.tmp 2]) rfl rfl ?_
  intro w0 ok0 lent ρ0
  refine LWP.seq_k fun N1 hN1 => ?_
  refine LWP.region (l := [_]) ?_
  refine LWo.assign (e_bool false) rfl (hn := ?_)
  refine LWo.nil (hN1 _ ?_)
  refine LWP.join (α := (List S_impl_Value)) (fun z : (List S_impl_Value) => [(0, (e_Limpl_Value z))]) (fun z : (List S_impl_Value) => []) (fun z : (List S_impl_Value) => m_spec_RowOk_j1  z) r (fun _ => by simp [hkeys]) ?_ ?_
  ·rintro t0 h
   replace h : m_spec_RowOk_j1  t0 = some _ := h
   refine LWP.seq_k fun N16 hN16 => ?_
   refine LWP.region (l := [_,_,_,_]) ?_
   refine LWo.move (e_Limpl_Value t0) rfl (hn := ?_)
   refine LWo.lenM (f := e_impl_Value) (l := t0) u_Limpl_Value rfl (hn := ?_)
   refine LWo.int _ rfl rfl rfl (hn := ?_)
   refine LWo.assign (e_bool (decide ((t0.length : Int) ≤ (4 : Int)))) rfl (hn := ?_)
   refine LWo.nil (hN16 _ ?_)
   obtain rfl := Option.some.inj h
   refine LWP.ret (QG.mk (.inr rfl) (.cons (.tmp (x := (e_bool (decide ((t0.length : Int) ≤ (4 : Int))))) rfl) (.nil)) (RetOK.one0 (.pure rfl) (by decide)) rfl rfl)
  ·intro N2 hN2
   refine LWP.seq_k fun N3 hN3 => ?_
   refine LWP.region (l := [_]) ?_
   refine LWo.assign (e_int (0 : Int)) rfl (hn := ?_)
   refine LWo.nil (hN3 _ ?_)
   refine LWP.block ?_
   refine LWP.loopM (α := (List S_impl_Value) × Int) (fun z : (List S_impl_Value) × Int => [(0, (e_Limpl_Value z.1)), (3, (e_int z.2))]) (fun z : (List S_impl_Value) × Int => []) (fun n1 (z : (List S_impl_Value) × Int) => m_spec_RowOk_l1  n1 z.1 z.2) r _ (a0, (0 : Int)) h (fun _ => rfl) (fun _ => by simp [hkeys]) ⟨rfl, rfl, trivial⟩ trivial ?_
   rintro n1 ⟨t0, t3⟩ h N4 hN4
   replace h : m_spec_RowOk_l1  (n1 + 1) t0 t3 = some _ := h
   refine LWP.seq_k fun N6 hN6 => ?_
   refine LWP.seq_k fun N7 hN7 => ?_
   refine LWP.region (l := [_,_,_,_]) ?_
   refine LWo.move (e_int t3) rfl (hn := ?_)
   refine LWo.move (e_Limpl_Value t0) rfl (hn := ?_)
   refine LWo.lenM (f := e_impl_Value) (l := t0) u_Limpl_Value rfl (hn := ?_)
   refine LWo.int _ rfl rfl rfl (hn := ?_)
   refine LWo.nil (hN7 _ ?_)
   refine LWP.cond_split rfl (fun h8 => ?_) (fun h8 => ?_)
   ·have h := bT h8 h
    refine LWP.skip (hN6 _ ?_)
    refine LWP.seq_k fun N9 hN9 => ?_
    refine LWP.block ?_
    refine LWP.seq_k fun N10 hN10 => ?_
    refine LWP.region (l := [_,_,_,_,_,_]) ?_
    refine LWo.move (e_Limpl_Value t0) rfl (hn := ?_)
    refine LWo.move (e_int t3) rfl (hn := ?_)
    refine bk h fun x11 e11 h => ?_
    refine LWo.indexM (f := e_impl_Value) e11 u_Limpl_Value s_impl_Value rfl rfl (hn := ?_)
    refine LWo.loadN ((e_impl_Value x11)).cells g_impl_Value s_impl_Value rfl (Nat.le_of_ble_eq_true rfl) rfl (hn := ?_)
    refine bk h fun x12 e12 h => ?_
    refine LWo.vcall rfl rfl (c_spec_ValueOk _ _ e12) (.same (.nil)) (hn := ?_)
    refine LWo.not rfl (hn := ?_)
    refine LWo.nil (hN10 _ ?_)
    refine LWP.cond_split rfl (fun h13 => ?_) (fun h13 => ?_)
    ·have h := bT h13 h
     refine LWP.seq_k fun N14 hN14 => ?_
     refine LWP.region (l := [_]) ?_
     refine LWo.assign (e_bool false) rfl (hn := ?_)
     refine LWo.nil (hN14 _ ?_)
     obtain rfl := Option.some.inj h
     refine LWP.ret (QG.mk (.inr rfl) (.cons (.tmp (x := (e_bool false)) rfl) (.nil)) (RetOK.one0 (.pure rfl) (by decide)) rfl rfl)
    ·have h := bF h13 h
     refine LWP.skip (hN9 _ ?_)
     refine LWP.region (l := [_,_,_]) ?_
     refine LWo.move (e_int t3) rfl (hn := ?_)
     refine bk h fun x15 e15 h => ?_
     refine LWo.int _ rfl rfl (add_ck e15) (hn := ?_)
     refine LWo.assign (e_int x15) rfl (hn := ?_)
     refine LWo.nil (hN4 (t0, x15) _ ⟨rfl, rfl, trivial⟩ trivial h)
   ·have h := bF h8 h
    refine LWP.exit (hN2 t0 _ ⟨rfl, trivial⟩ trivial h)

def m_spec_WritesOk_j2  : Option Bool :=
  some true
def m_spec_WritesOk_j1 (k1 : (List S_impl_Write) → Int → Option Bool) (t0 : (List S_impl_Write)) (t3 : Int) (t49 : Bool) : Option Bool :=
  bif t49 then (some false)
  else ((ckI (t3 + (1 : Int))).bind fun x28 =>
  k1 t0 x28)
def m_spec_WritesOk_l1 : Nat → (List S_impl_Write) → Int → Option Bool
  | 0, _, _ => none
  | n1 + 1, t0, t3 =>
    bif decide (t3 < (t0.length : Int)) then ((at? t0 t3).bind fun x11 =>
    lt (x11) fun y12 =>
    (m_spec_l1In y12.Key (0 : Int) (4 : Int)).bind fun x14 =>
    bif (!x14) then (m_spec_WritesOk_j1  (m_spec_WritesOk_l1  n1) t0 t3 true)
    else ((m_spec_RowOk y12.Row).bind fun x16 =>
      bif (!x16) then (m_spec_WritesOk_j1  (m_spec_WritesOk_l1  n1) t0 t3 true)
      else (bif y12.Gone then (bif decide ((y12.Row.length : Int) > (0 : Int)) then (m_spec_WritesOk_j1  (m_spec_WritesOk_l1  n1) t0 t3 true)
          else (bif decide (t3 > (0 : Int)) then ((ckI (t3 - (1 : Int))).bind fun x21 =>
              (at? t0 x21).bind fun x22 =>
              m_spec_WritesOk_j1  (m_spec_WritesOk_l1  n1) t0 t3 (decide (x22.Key ≥ y12.Key)))
            else (m_spec_WritesOk_j1  (m_spec_WritesOk_l1  n1) t0 t3 false)))
        else (bif decide (t3 > (0 : Int)) then ((ckI (t3 - (1 : Int))).bind fun x24 =>
            (at? t0 x24).bind fun x25 =>
            m_spec_WritesOk_j1  (m_spec_WritesOk_l1  n1) t0 t3 (decide (x25.Key ≥ y12.Key)))
          else (m_spec_WritesOk_j1  (m_spec_WritesOk_l1  n1) t0 t3 false)))))
    else (m_spec_WritesOk_j2  )
def m_spec_WritesOk (a0 : (List S_impl_Write)) : Option Bool :=
  m_spec_WritesOk_l1  (((a0.length : Int) - (0 : Int)).toNat + 1) a0 (0 : Int)
theorem c_spec_WritesOk (a0 : (List S_impl_Write)) (r : Bool) (h : m_spec_WritesOk a0 = some r) : Ret Try.prog f_spec_WritesOk [e_Limpl_Write a0] (e_bool r) := by
  refine Does.goG [] F_spec_WritesOk rfl e_spec_WritesOk n_spec_WritesOk rfl (rvs := [.tmp 2]) rfl rfl ?_
  intro w0 ok0 lent ρ0
  refine LWP.seq_k fun N1 hN1 => ?_
  refine LWP.region (l := [_]) ?_
  refine LWo.assign (e_bool false) rfl (hn := ?_)
  refine LWo.nil (hN1 _ ?_)
  refine LWP.join (α := Unit) (fun z : Unit => []) (fun z : Unit => []) (fun z : Unit => m_spec_WritesOk_j2  ) r (fun _ => by simp [hkeys]) ?_ ?_
  ·rintro _ h
   replace h : m_spec_WritesOk_j2   = some _ := h
   refine LWP.seq_k fun N29 hN29 => ?_
   refine LWP.region (l := [_]) ?_
   refine LWo.assign (e_bool true) rfl (hn := ?_)
   refine LWo.nil (hN29 _ ?_)
   obtain rfl := Option.some.inj h
   refine LWP.ret (QG.mk (.inr rfl) (.cons (.tmp (x := (e_bool true)) rfl) (.nil)) (RetOK.one0 (.pure rfl) (by decide)) rfl rfl)
  ·intro N2 hN2
   refine LWP.seq_k fun N3 hN3 => ?_
   refine LWP.region (l := [_]) ?_
   refine LWo.assign (e_int (0 : Int)) rfl (hn := ?_)
   refine LWo.nil (hN3 _ ?_)
   refine LWP.block ?_
   refine LWP.loopM (α := (List S_impl_Write) × Int) (fun z : (List S_impl_Write) × Int => [(0, (e_Limpl_Write z.1)), (3, (e_int z.2))]) (fun z : (List S_impl_Write) × Int => []) (fun n1 (z : (List S_impl_Write) × Int) => m_spec_WritesOk_l1  n1 z.1 z.2) r _ (a0, (0 : Int)) h (fun _ => rfl) (fun _ => by simp [hkeys]) ⟨rfl, rfl, trivial⟩ trivial ?_
   rintro n1 ⟨t0, t3⟩ h N4 hN4
   replace h : m_spec_WritesOk_l1  (n1 + 1) t0 t3 = some _ := h
   refine LWP.seq_k fun N6 hN6 => ?_
   refine LWP.seq_k fun N7 hN7 => ?_
   refine LWP.region (l := [_,_,_,_]) ?_
   refine LWo.move (e_int t3) rfl (hn := ?_)
   refine LWo.move (e_Limpl_Write t0) rfl (hn := ?_)
   refine LWo.lenM (f := e_impl_Write) (l := t0) u_Limpl_Write rfl (hn := ?_)
   refine LWo.int _ rfl rfl rfl (hn := ?_)
   refine LWo.nil (hN7 _ ?_)
   refine LWP.cond_split rfl (fun h8 => ?_) (fun h8 => ?_)
   ·have h := bT h8 h
    refine LWP.skip (hN6 _ ?_)
    refine LWP.seq_k fun N9 hN9 => ?_
    refine LWP.block ?_
    refine LWP.seq_k fun N10 hN10 => ?_
    refine LWP.region (l := [_,_,_,_,_,_]) ?_
    refine LWo.move (e_Limpl_Write t0) rfl (hn := ?_)
    refine LWo.move (e_int t3) rfl (hn := ?_)
    refine bk h fun x11 e11 h => ?_
    refine LWo.indexM (f := e_impl_Write) e11 u_Limpl_Write s_impl_Write rfl rfl (hn := ?_)
    refine LWo.loadN ((e_impl_Write x11)).cells g_impl_Write s_impl_Write rfl (Nat.le_of_ble_eq_true rfl) rfl (hn := ?_)
    refine LWo.alloc_impl_Write 4 rfl (hn := ?_)
    refine lk h fun y12 e12 h => ?_
    refine LWo.storeW (y := (⟨(0 : Int), [], false⟩ : S_impl_Write)) y12 s_impl_Write rfl rfl rfl rfl rfl rfl (by rw [e12]; exact .refl) rfl (hn := ?_)
    refine LWo.nil (hN10 _ ?_)
    refine LWP.join (α := (List S_impl_Write) × Int × Bool) (fun z : (List S_impl_Write) × Int × Bool => [(0, (e_Limpl_Write z.1)), (3, (e_int z.2.1)), (49, (e_bool z.2.2))]) (fun z : (List S_impl_Write) × Int × Bool => []) (fun z : (List S_impl_Write) × Int × Bool => m_spec_WritesOk_j1  (m_spec_WritesOk_l1  n1) z.1 z.2.1 z.2.2) r (fun _ => by simp [hkeys]) ?_ ?_
    ·rintro ⟨t0, t3, t49⟩ h
     replace h : m_spec_WritesOk_j1  (m_spec_WritesOk_l1  n1) t0 t3 t49 = some _ := h
     refine LWP.cond_split rfl (fun h26 => ?_) (fun h26 => ?_)
     ·have h := bT h26 h
      refine LWP.seq_k fun N27 hN27 => ?_
      refine LWP.region (l := [_]) ?_
      refine LWo.assign (e_bool false) rfl (hn := ?_)
      refine LWo.nil (hN27 _ ?_)
      obtain rfl := Option.some.inj h
      refine LWP.ret (QG.mk (.inr rfl) (.cons (.tmp (x := (e_bool false)) rfl) (.nil)) (RetOK.one0 (.pure rfl) (by decide)) rfl rfl)
     ·have h := bF h26 h
      refine LWP.skip (hN9 _ ?_)
      refine LWP.region (l := [_,_,_]) ?_
      refine LWo.move (e_int t3) rfl (hn := ?_)
      refine bk h fun x28 e28 h => ?_
      refine LWo.int _ rfl rfl (add_ck e28) (hn := ?_)
      refine LWo.assign (e_int x28) rfl (hn := ?_)
      refine LWo.nil (hN4 (t0, x28) _ ⟨rfl, rfl, trivial⟩ trivial h)
    ·intro N13 hN13
     refine bk h fun x14 e14 h => ?_
     refine bS ((!x14)) (fun h15 => ?_) (fun h15 => ?_)
     ·have h := bT h15 h
      refine LWP.drawF (l := [_,_,_,_,_,_,_,_,_,_,_,_,_,_,_,_,_,_,_,_,_,_,_,_,_,_,_,_,_,_,_,_,_,_,_]) [] [0, 3, 4] [([4], []), ([15], [4]), ([16], []), ([17], []), ([18], []), ([4, 19], []), ([19, 20], []), ([19, 21], []), ([19, 22], []), ([19, 23], []), ([24], []), ([4, 25], []), ([25, 26], []), ([25, 27], []), ([4, 28], []), ([28, 29], []), ([28, 30], []), ([28, 31], []), ([25, 28, 32], []), ([25, 33], []), ([34], []), ([3, 35], []), ([35, 36], []), ([35, 37], []), ([0, 38], []), ([3, 38], []), ([38, 40], []), ([38, 39, 41], []), ([38, 42], []), ([38, 43], []), ([4, 38], []), ([38, 45], []), ([38, 44, 46], []), ([35, 38, 47], []), ([35, 48], [])] [0, 3, 49] [] mixed (by kernel_rfl) rfl (by decide) ?_
      refine dq 15 rfl (fun _ g u h => LWo.fieldPtr u_impl_Write rfl s_int u.1 rfl (hn := .nil (zn g))) ?_
      refine dq 16 rfl (fun _ g u h => LWo.loadV1 (e_int y12.Key)  g_int u.1 h.1 rfl (hn := .nil (zn g))) ?_
      refine dq 17 rfl (fun _ g u h => LWo.vcall rfl (av3 u.1 rfl rfl) (c_spec_l1In _ _ _ _ e14) (.same (.same (.same (.nil)))) (hn := .nil (zn g))) ?_
      refine dq 18 rfl (fun _ g u h => LWo.not u.1 (hn := .nil (zn g))) ?_
      refine dq 19 rfl (fun _ g u h => LWo.move (e_bool (!x14)) u.1 (hn := .nil (zn g))) ?_
      refine dq 20 rfl (fun _ g u h => LWo.guardNU (t := 19) u.2.1 h15 rfl rfl rfl rfl rfl (.nil (zn g))) ?_
      refine dq 21 rfl (fun _ g u h => LWo.guardNU (t := 19) u.1 h15 rfl rfl rfl rfl rfl (.nil (zn g))) ?_
      refine dq 22 rfl (fun _ g u h => LWo.guardNU (t := 19) u.1 h15 rfl rfl rfl rfl rfl (.nil (zn g))) ?_
      refine dq 23 rfl (fun _ g u h => LWo.guardNU (t := 19) u.1 h15 rfl rfl rfl rfl rfl (.nil (zn g))) ?_
      refine dq 24 rfl (fun _ g u h => LWo.pickTM (e_bool true) u.1 h15 rfl (hn := .nil (zn g))) ?_
      refine dq 25 rfl (fun _ g u h => LWo.move (e_bool true) u.1 (hn := .nil (zn g))) ?_
      refine dq 26 rfl (fun _ g u h => LWo.guardNU (t := 25) u.2.1 rfl rfl rfl rfl rfl rfl (.nil (zn g))) ?_
      refine dq 27 rfl (fun _ g u h => LWo.guardNU (t := 25) u.1 rfl rfl rfl rfl rfl rfl (.nil (zn g))) ?_
      refine dq 28 rfl (fun _ g u h => LWo.guardNU (t := 25) u.1 rfl rfl rfl rfl rfl rfl (.nil (zn g))) ?_
      refine dq 29 rfl (fun _ g u h => LWo.guardU (t := 28) u.2.1 rfl rfl rfl rfl (.nil (zn g))) ?_
      refine dq 30 rfl (fun _ g u h => LWo.guardU (t := 28) u.1 rfl rfl rfl rfl (.nil (zn g))) ?_
      refine dq 31 rfl (fun _ g u h => LWo.guardU (t := 28) u.1 rfl rfl rfl rfl (.nil (zn g))) ?_
      refine dq 32 rfl (fun _ g u h => LWo.guardU (t := 28) u.1 rfl rfl rfl rfl (.nil (zn g))) ?_
      refine dq 33 rfl (fun _ g u h => LWo.guardNU (t := 25) u.1 rfl rfl rfl rfl rfl rfl (.nil (zn g))) ?_
      refine dq 34 rfl (fun _ g u h => LWo.pickTM (e_bool true) u.1 rfl rfl (hn := .nil (zn g))) ?_
      refine dq 35 rfl (fun _ g u h => LWo.move (e_bool true) u.1 (hn := .nil (zn g))) ?_
      refine dq 36 rfl (fun _ g u h => LWo.guardNU (t := 35) u.2.1 rfl rfl rfl rfl rfl rfl (.nil (zn g))) ?_
      refine dq 37 rfl (fun _ g u h => LWo.guardNU (t := 35) u.1 rfl rfl rfl rfl rfl rfl (.nil (zn g))) ?_
      refine dq 38 rfl (fun _ g u h => LWo.guardNU (t := 35) u.1 rfl rfl rfl rfl rfl rfl (.nil (zn g))) ?_
      refine dq 39 rfl (fun _ g u h => LWo.guardU (t := 38) u.2.1 rfl rfl rfl rfl (.nil (zn g))) ?_
      refine dq 40 rfl (fun _ g u h => LWo.guardU (t := 38) u.2.1 rfl rfl rfl rfl (.nil (zn g))) ?_
      refine dq 41 rfl (fun _ g u h => LWo.guardU (t := 38) u.1 rfl rfl rfl rfl (.nil (zn g))) ?_
      refine dq 42 rfl (fun _ g u h => LWo.guardU (t := 38) u.1 rfl rfl rfl rfl (.nil (zn g))) ?_
      refine dq 43 rfl (fun _ g u h => LWo.guardU (t := 38) u.1 rfl rfl rfl rfl (.nil (zn g))) ?_
      refine dq 44 rfl (fun _ g u h => LWo.guardU (t := 38) u.1 rfl rfl rfl rfl (.nil (zn g))) ?_
      refine dq 45 rfl (fun _ g u h => LWo.guardU (t := 38) u.2.1 rfl rfl rfl rfl (.nil (zn g))) ?_
      refine dq 46 rfl (fun _ g u h => LWo.guardU (t := 38) u.1 rfl rfl rfl rfl (.nil (zn g))) ?_
      refine dq 47 rfl (fun _ g u h => LWo.guardU (t := 38) u.1 rfl rfl rfl rfl (.nil (zn g))) ?_
      refine dq 48 rfl (fun _ g u h => LWo.guardNU (t := 35) u.1 rfl rfl rfl rfl rfl rfl (.nil (zn g))) ?_
      refine dq 49 rfl (fun _ g u h => LWo.pickTM (e_bool true) u.1 rfl rfl (hn := .nil (zn g))) ?_
      refine ⟨rfl, by kernel_rfl, hN13 (t0, t3, true) _ ⟨rfl, rfl, rfl, trivial⟩ trivial h⟩
     ·have h := bF h15 h
      refine bk h fun x16 e16 h => ?_
      refine bS ((!x16)) (fun h17 => ?_) (fun h17 => ?_)
      ·have h := bT h17 h
       refine LWP.drawF (l := [_,_,_,_,_,_,_,_,_,_,_,_,_,_,_,_,_,_,_,_,_,_,_,_,_,_,_,_,_,_,_,_,_,_,_]) [] [0, 3, 4] [([4], []), ([15], [4]), ([16], []), ([17], []), ([18], []), ([4, 19], []), ([19, 20], [4]), ([19, 21], []), ([19, 22], []), ([19, 23], []), ([24], []), ([4, 25], []), ([25, 26], []), ([25, 27], []), ([4, 28], []), ([28, 29], []), ([28, 30], []), ([28, 31], []), ([25, 28, 32], []), ([25, 33], []), ([34], []), ([3, 35], []), ([35, 36], []), ([35, 37], []), ([0, 38], []), ([3, 38], []), ([38, 40], []), ([38, 39, 41], []), ([38, 42], []), ([38, 43], []), ([4, 38], []), ([38, 45], []), ([38, 44, 46], []), ([35, 38, 47], []), ([35, 48], [])] [0, 3, 49] [] mixed (by kernel_rfl) rfl (by decide) ?_
       refine dq 15 rfl (fun _ g u h => LWo.fieldPtr u_impl_Write rfl s_int u.1 rfl (hn := .nil (zn g))) ?_
       refine dq 16 rfl (fun _ g u h => LWo.loadV1 (e_int y12.Key)  g_int u.1 h.1 rfl (hn := .nil (zn g))) ?_
       refine dq 17 rfl (fun _ g u h => LWo.vcall rfl (av3 u.1 rfl rfl) (c_spec_l1In _ _ _ _ e14) (.same (.same (.same (.nil)))) (hn := .nil (zn g))) ?_
       refine dq 18 rfl (fun _ g u h => LWo.not u.1 (hn := .nil (zn g))) ?_
       refine dq 19 rfl (fun _ g u h => LWo.move (e_bool (!x14)) u.1 (hn := .nil (zn g))) ?_
       refine dq 20 rfl (fun _ g u h => LWo.guardY (t := 19) u.2.1 h15 rfl rfl (LWo.fieldPtr u_impl_Write rfl s_Limpl_Value u.1 rfl (hn := .nil (zn g)))) ?_
       refine dq 21 rfl (fun _ g u h => LWo.guardY (t := 19) u.1 h15 rfl rfl (LWo.loadV1 (e_Limpl_Value y12.Row)  g_Limpl_Value u.2.1 h.1 rfl (hn := .nil (zn g)))) ?_
       refine dq 22 rfl (fun _ g u h => LWo.guardY (t := 19) u.1 h15 rfl rfl (LWo.vcall rfl (av1 u.2.1) (c_spec_RowOk _ _ e16) (.same (.nil)) (hn := .nil (zn g)))) ?_
       refine dq 23 rfl (fun _ g u h => LWo.guardY (t := 19) u.1 h15 rfl rfl (LWo.not u.2.1 (hn := .nil (zn g)))) ?_
       refine dq 24 rfl (fun _ g u h => LWo.pickFM (e_bool (!x16)) u.1 h15 u.2.1 (hn := .nil (zn g))) ?_
       refine dq 25 rfl (fun _ g u h => LWo.move (e_bool (!x16)) u.1 (hn := .nil (zn g))) ?_
       refine dq 26 rfl (fun _ g u h => LWo.guardNU (t := 25) u.2.1 h17 rfl rfl rfl rfl rfl (.nil (zn g))) ?_
       refine dq 27 rfl (fun _ g u h => LWo.guardNU (t := 25) u.1 h17 rfl rfl rfl rfl rfl (.nil (zn g))) ?_
       refine dq 28 rfl (fun _ g u h => LWo.guardNU (t := 25) u.1 h17 rfl rfl rfl rfl rfl (.nil (zn g))) ?_
       refine dq 29 rfl (fun _ g u h => LWo.guardU (t := 28) u.2.1 rfl rfl rfl rfl (.nil (zn g))) ?_
       refine dq 30 rfl (fun _ g u h => LWo.guardU (t := 28) u.1 rfl rfl rfl rfl (.nil (zn g))) ?_
       refine dq 31 rfl (fun _ g u h => LWo.guardU (t := 28) u.1 rfl rfl rfl rfl (.nil (zn g))) ?_
       refine dq 32 rfl (fun _ g u h => LWo.guardU (t := 28) u.1 rfl rfl rfl rfl (.nil (zn g))) ?_
       refine dq 33 rfl (fun _ g u h => LWo.guardNU (t := 25) u.1 h17 rfl rfl rfl rfl rfl (.nil (zn g))) ?_
       refine dq 34 rfl (fun _ g u h => LWo.pickTM (e_bool true) u.1 h17 rfl (hn := .nil (zn g))) ?_
       refine dq 35 rfl (fun _ g u h => LWo.move (e_bool true) u.1 (hn := .nil (zn g))) ?_
       refine dq 36 rfl (fun _ g u h => LWo.guardNU (t := 35) u.2.1 rfl rfl rfl rfl rfl rfl (.nil (zn g))) ?_
       refine dq 37 rfl (fun _ g u h => LWo.guardNU (t := 35) u.1 rfl rfl rfl rfl rfl rfl (.nil (zn g))) ?_
       refine dq 38 rfl (fun _ g u h => LWo.guardNU (t := 35) u.1 rfl rfl rfl rfl rfl rfl (.nil (zn g))) ?_
       refine dq 39 rfl (fun _ g u h => LWo.guardU (t := 38) u.2.1 rfl rfl rfl rfl (.nil (zn g))) ?_
       refine dq 40 rfl (fun _ g u h => LWo.guardU (t := 38) u.2.1 rfl rfl rfl rfl (.nil (zn g))) ?_
       refine dq 41 rfl (fun _ g u h => LWo.guardU (t := 38) u.1 rfl rfl rfl rfl (.nil (zn g))) ?_
       refine dq 42 rfl (fun _ g u h => LWo.guardU (t := 38) u.1 rfl rfl rfl rfl (.nil (zn g))) ?_
       refine dq 43 rfl (fun _ g u h => LWo.guardU (t := 38) u.1 rfl rfl rfl rfl (.nil (zn g))) ?_
       refine dq 44 rfl (fun _ g u h => LWo.guardU (t := 38) u.1 rfl rfl rfl rfl (.nil (zn g))) ?_
       refine dq 45 rfl (fun _ g u h => LWo.guardU (t := 38) u.2.1 rfl rfl rfl rfl (.nil (zn g))) ?_
       refine dq 46 rfl (fun _ g u h => LWo.guardU (t := 38) u.1 rfl rfl rfl rfl (.nil (zn g))) ?_
       refine dq 47 rfl (fun _ g u h => LWo.guardU (t := 38) u.1 rfl rfl rfl rfl (.nil (zn g))) ?_
       refine dq 48 rfl (fun _ g u h => LWo.guardNU (t := 35) u.1 rfl rfl rfl rfl rfl rfl (.nil (zn g))) ?_
       refine dq 49 rfl (fun _ g u h => LWo.pickTM (e_bool true) u.1 rfl rfl (hn := .nil (zn g))) ?_
       refine ⟨rfl, by kernel_rfl, hN13 (t0, t3, true) _ ⟨rfl, rfl, rfl, trivial⟩ trivial h⟩
      ·have h := bF h17 h
       refine bS (y12.Gone) (fun h18 => ?_) (fun h18 => ?_)
       ·have h := bT h18 h
        refine bS (decide ((y12.Row.length : Int) > (0 : Int))) (fun h19 => ?_) (fun h19 => ?_)
        ·have h := bT h19 h
         refine LWP.drawF (l := [_,_,_,_,_,_,_,_,_,_,_,_,_,_,_,_,_,_,_,_,_,_,_,_,_,_,_,_,_,_,_,_,_,_,_]) [] [0, 3, 4] [([4], []), ([15], [4]), ([16], []), ([17], []), ([18], []), ([4, 19], []), ([19, 20], [4]), ([19, 21], []), ([19, 22], []), ([19, 23], []), ([24], []), ([4, 25], []), ([25, 26], [4]), ([25, 27], []), ([4, 28], []), ([28, 29], [4]), ([28, 30], []), ([28, 31], []), ([25, 28, 32], []), ([25, 33], []), ([34], []), ([3, 35], []), ([35, 36], []), ([35, 37], []), ([0, 38], []), ([3, 38], []), ([38, 40], []), ([38, 39, 41], []), ([38, 42], []), ([38, 43], []), ([4, 38], []), ([38, 45], []), ([38, 44, 46], []), ([35, 38, 47], []), ([35, 48], [])] [0, 3, 49] [] mixed (by kernel_rfl) rfl (by decide) ?_
         refine dq 15 rfl (fun _ g u h => LWo.fieldPtr u_impl_Write rfl s_int u.1 rfl (hn := .nil (zn g))) ?_
         refine dq 16 rfl (fun _ g u h => LWo.loadV1 (e_int y12.Key)  g_int u.1 h.1 rfl (hn := .nil (zn g))) ?_
         refine dq 17 rfl (fun _ g u h => LWo.vcall rfl (av3 u.1 rfl rfl) (c_spec_l1In _ _ _ _ e14) (.same (.same (.same (.nil)))) (hn := .nil (zn g))) ?_
         refine dq 18 rfl (fun _ g u h => LWo.not u.1 (hn := .nil (zn g))) ?_
         refine dq 19 rfl (fun _ g u h => LWo.move (e_bool (!x14)) u.1 (hn := .nil (zn g))) ?_
         refine dq 20 rfl (fun _ g u h => LWo.guardY (t := 19) u.2.1 h15 rfl rfl (LWo.fieldPtr u_impl_Write rfl s_Limpl_Value u.1 rfl (hn := .nil (zn g)))) ?_
         refine dq 21 rfl (fun _ g u h => LWo.guardY (t := 19) u.1 h15 rfl rfl (LWo.loadV1 (e_Limpl_Value y12.Row)  g_Limpl_Value u.2.1 h.1 rfl (hn := .nil (zn g)))) ?_
         refine dq 22 rfl (fun _ g u h => LWo.guardY (t := 19) u.1 h15 rfl rfl (LWo.vcall rfl (av1 u.2.1) (c_spec_RowOk _ _ e16) (.same (.nil)) (hn := .nil (zn g)))) ?_
         refine dq 23 rfl (fun _ g u h => LWo.guardY (t := 19) u.1 h15 rfl rfl (LWo.not u.2.1 (hn := .nil (zn g)))) ?_
         refine dq 24 rfl (fun _ g u h => LWo.pickFM (e_bool (!x16)) u.1 h15 u.2.1 (hn := .nil (zn g))) ?_
         refine dq 25 rfl (fun _ g u h => LWo.move (e_bool (!x16)) u.1 (hn := .nil (zn g))) ?_
         refine dq 26 rfl (fun _ g u h => LWo.guardY (t := 25) u.2.1 h17 rfl rfl (LWo.fieldPtr u_impl_Write rfl s_bool u.1 rfl (hn := .nil (zn g)))) ?_
         refine dq 27 rfl (fun _ g u h => LWo.guardY (t := 25) u.1 h17 rfl rfl (LWo.loadV1 (e_bool y12.Gone)  g_bool u.2.1 h.1 rfl (hn := .nil (zn g)))) ?_
         refine dq 28 rfl (fun _ g u h => LWo.guardY (t := 25) u.1 h17 rfl rfl (LWo.move (e_bool y12.Gone) u.2.1 (hn := .nil (zn g)))) ?_
         refine dq 29 rfl (fun _ g u h => LWo.guardY (t := 28) u.2.1 h18 rfl rfl (LWo.fieldPtr u_impl_Write rfl s_Limpl_Value u.1 rfl (hn := .nil (zn g)))) ?_
         refine dq 30 rfl (fun _ g u h => LWo.guardY (t := 28) u.1 h18 rfl rfl (LWo.loadV1 (e_Limpl_Value y12.Row)  g_Limpl_Value u.2.1 h.1 rfl (hn := .nil (zn g)))) ?_
         refine dq 31 rfl (fun _ g u h => LWo.guardY (t := 28) u.1 h18 rfl rfl (LWo.lenM (f := e_impl_Value) (l := y12.Row) u_Limpl_Value u.2.1 (hn := .nil (zn g)))) ?_
         refine dq 32 rfl (fun _ g u h => LWo.guardY (t := 28) u.1 h18 rfl rfl (LWo.int _ u.2.1 rfl rfl (hn := .nil (zn g)))) ?_
         refine dq 33 rfl (fun _ g u h => LWo.guardY (t := 25) u.1 h17 rfl rfl (LWo.pickTM (e_bool (decide ((y12.Row.length : Int) > (0 : Int)))) u.2.1 h18 u.2.2.1 (hn := .nil (zn g)))) ?_
         refine dq 34 rfl (fun _ g u h => LWo.pickFM (e_bool (decide ((y12.Row.length : Int) > (0 : Int)))) u.1 h17 u.2.1 (hn := .nil (zn g))) ?_
         refine dq 35 rfl (fun _ g u h => LWo.move (e_bool (decide ((y12.Row.length : Int) > (0 : Int)))) u.1 (hn := .nil (zn g))) ?_
         refine dq 36 rfl (fun _ g u h => LWo.guardNU (t := 35) u.2.1 h19 rfl rfl rfl rfl rfl (.nil (zn g))) ?_
         refine dq 37 rfl (fun _ g u h => LWo.guardNU (t := 35) u.1 h19 rfl rfl rfl rfl rfl (.nil (zn g))) ?_
         refine dq 38 rfl (fun _ g u h => LWo.guardNU (t := 35) u.1 h19 rfl rfl rfl rfl rfl (.nil (zn g))) ?_
         refine dq 39 rfl (fun _ g u h => LWo.guardU (t := 38) u.2.1 rfl rfl rfl rfl (.nil (zn g))) ?_
         refine dq 40 rfl (fun _ g u h => LWo.guardU (t := 38) u.2.1 rfl rfl rfl rfl (.nil (zn g))) ?_
         refine dq 41 rfl (fun _ g u h => LWo.guardU (t := 38) u.1 rfl rfl rfl rfl (.nil (zn g))) ?_
         refine dq 42 rfl (fun _ g u h => LWo.guardU (t := 38) u.1 rfl rfl rfl rfl (.nil (zn g))) ?_
         refine dq 43 rfl (fun _ g u h => LWo.guardU (t := 38) u.1 rfl rfl rfl rfl (.nil (zn g))) ?_
         refine dq 44 rfl (fun _ g u h => LWo.guardU (t := 38) u.1 rfl rfl rfl rfl (.nil (zn g))) ?_
         refine dq 45 rfl (fun _ g u h => LWo.guardU (t := 38) u.2.1 rfl rfl rfl rfl (.nil (zn g))) ?_
         refine dq 46 rfl (fun _ g u h => LWo.guardU (t := 38) u.1 rfl rfl rfl rfl (.nil (zn g))) ?_
         refine dq 47 rfl (fun _ g u h => LWo.guardU (t := 38) u.1 rfl rfl rfl rfl (.nil (zn g))) ?_
         refine dq 48 rfl (fun _ g u h => LWo.guardNU (t := 35) u.1 h19 rfl rfl rfl rfl rfl (.nil (zn g))) ?_
         refine dq 49 rfl (fun _ g u h => LWo.pickTM (e_bool true) u.1 h19 rfl (hn := .nil (zn g))) ?_
         refine ⟨rfl, by kernel_rfl, hN13 (t0, t3, true) _ ⟨rfl, rfl, rfl, trivial⟩ trivial h⟩
        ·have h := bF h19 h
         refine bS (decide (t3 > (0 : Int))) (fun h20 => ?_) (fun h20 => ?_)
         ·have h := bT h20 h
          refine bk h fun x21 e21 h => ?_
          refine bk h fun x22 e22 h => ?_
          refine LWP.drawF (l := [_,_,_,_,_,_,_,_,_,_,_,_,_,_,_,_,_,_,_,_,_,_,_,_,_,_,_,_,_,_,_,_,_,_,_]) [] [0, 3, 4] [([4], []), ([15], [4]), ([16], []), ([17], []), ([18], []), ([4, 19], []), ([19, 20], [4]), ([19, 21], []), ([19, 22], []), ([19, 23], []), ([24], []), ([4, 25], []), ([25, 26], [4]), ([25, 27], []), ([4, 28], []), ([28, 29], [4]), ([28, 30], []), ([28, 31], []), ([25, 28, 32], []), ([25, 33], []), ([34], []), ([3, 35], []), ([35, 36], []), ([35, 37], []), ([0, 38], []), ([3, 38], []), ([38, 40], []), ([38, 39, 41], []), ([38, 42], []), ([38, 43], []), ([4, 38], []), ([38, 45], [4]), ([38, 44, 46], []), ([35, 38, 47], []), ([35, 48], [])] [0, 3, 49] [] mixed (by kernel_rfl) rfl (by decide) ?_
          refine dq 15 rfl (fun _ g u h => LWo.fieldPtr u_impl_Write rfl s_int u.1 rfl (hn := .nil (zn g))) ?_
          refine dq 16 rfl (fun _ g u h => LWo.loadV1 (e_int y12.Key)  g_int u.1 h.1 rfl (hn := .nil (zn g))) ?_
          refine dq 17 rfl (fun _ g u h => LWo.vcall rfl (av3 u.1 rfl rfl) (c_spec_l1In _ _ _ _ e14) (.same (.same (.same (.nil)))) (hn := .nil (zn g))) ?_
          refine dq 18 rfl (fun _ g u h => LWo.not u.1 (hn := .nil (zn g))) ?_
          refine dq 19 rfl (fun _ g u h => LWo.move (e_bool (!x14)) u.1 (hn := .nil (zn g))) ?_
          refine dq 20 rfl (fun _ g u h => LWo.guardY (t := 19) u.2.1 h15 rfl rfl (LWo.fieldPtr u_impl_Write rfl s_Limpl_Value u.1 rfl (hn := .nil (zn g)))) ?_
          refine dq 21 rfl (fun _ g u h => LWo.guardY (t := 19) u.1 h15 rfl rfl (LWo.loadV1 (e_Limpl_Value y12.Row)  g_Limpl_Value u.2.1 h.1 rfl (hn := .nil (zn g)))) ?_
          refine dq 22 rfl (fun _ g u h => LWo.guardY (t := 19) u.1 h15 rfl rfl (LWo.vcall rfl (av1 u.2.1) (c_spec_RowOk _ _ e16) (.same (.nil)) (hn := .nil (zn g)))) ?_
          refine dq 23 rfl (fun _ g u h => LWo.guardY (t := 19) u.1 h15 rfl rfl (LWo.not u.2.1 (hn := .nil (zn g)))) ?_
          refine dq 24 rfl (fun _ g u h => LWo.pickFM (e_bool (!x16)) u.1 h15 u.2.1 (hn := .nil (zn g))) ?_
          refine dq 25 rfl (fun _ g u h => LWo.move (e_bool (!x16)) u.1 (hn := .nil (zn g))) ?_
          refine dq 26 rfl (fun _ g u h => LWo.guardY (t := 25) u.2.1 h17 rfl rfl (LWo.fieldPtr u_impl_Write rfl s_bool u.1 rfl (hn := .nil (zn g)))) ?_
          refine dq 27 rfl (fun _ g u h => LWo.guardY (t := 25) u.1 h17 rfl rfl (LWo.loadV1 (e_bool y12.Gone)  g_bool u.2.1 h.1 rfl (hn := .nil (zn g)))) ?_
          refine dq 28 rfl (fun _ g u h => LWo.guardY (t := 25) u.1 h17 rfl rfl (LWo.move (e_bool y12.Gone) u.2.1 (hn := .nil (zn g)))) ?_
          refine dq 29 rfl (fun _ g u h => LWo.guardY (t := 28) u.2.1 h18 rfl rfl (LWo.fieldPtr u_impl_Write rfl s_Limpl_Value u.1 rfl (hn := .nil (zn g)))) ?_
          refine dq 30 rfl (fun _ g u h => LWo.guardY (t := 28) u.1 h18 rfl rfl (LWo.loadV1 (e_Limpl_Value y12.Row)  g_Limpl_Value u.2.1 h.1 rfl (hn := .nil (zn g)))) ?_
          refine dq 31 rfl (fun _ g u h => LWo.guardY (t := 28) u.1 h18 rfl rfl (LWo.lenM (f := e_impl_Value) (l := y12.Row) u_Limpl_Value u.2.1 (hn := .nil (zn g)))) ?_
          refine dq 32 rfl (fun _ g u h => LWo.guardY (t := 28) u.1 h18 rfl rfl (LWo.int _ u.2.1 rfl rfl (hn := .nil (zn g)))) ?_
          refine dq 33 rfl (fun _ g u h => LWo.guardY (t := 25) u.1 h17 rfl rfl (LWo.pickTM (e_bool (decide ((y12.Row.length : Int) > (0 : Int)))) u.2.1 h18 u.2.2.1 (hn := .nil (zn g)))) ?_
          refine dq 34 rfl (fun _ g u h => LWo.pickFM (e_bool (decide ((y12.Row.length : Int) > (0 : Int)))) u.1 h17 u.2.1 (hn := .nil (zn g))) ?_
          refine dq 35 rfl (fun _ g u h => LWo.move (e_bool (decide ((y12.Row.length : Int) > (0 : Int)))) u.1 (hn := .nil (zn g))) ?_
          refine dq 36 rfl (fun _ g u h => LWo.guardY (t := 35) u.2.1 h19 rfl rfl (LWo.move (e_int t3) u.1 (hn := .nil (zn g)))) ?_
          refine dq 37 rfl (fun _ g u h => LWo.guardY (t := 35) u.1 h19 rfl rfl (LWo.int _ u.2.1 rfl rfl (hn := .nil (zn g)))) ?_
          refine dq 38 rfl (fun _ g u h => LWo.guardY (t := 35) u.1 h19 rfl rfl (LWo.move (e_bool (decide (t3 > (0 : Int)))) u.2.1 (hn := .nil (zn g)))) ?_
          refine dq 39 rfl (fun _ g u h => LWo.guardY (t := 38) u.2.1 h20 rfl rfl (LWo.move (e_Limpl_Write t0) u.1 (hn := .nil (zn g)))) ?_
          refine dq 40 rfl (fun _ g u h => LWo.guardY (t := 38) u.2.1 h20 rfl rfl (LWo.move (e_int t3) u.1 (hn := .nil (zn g)))) ?_
          refine dq 41 rfl (fun _ g u h => LWo.guardY (t := 38) u.1 h20 rfl rfl (LWo.int _ u.2.1 rfl (sub_ck e21) (hn := .nil (zn g)))) ?_
          refine dq 42 rfl (fun _ g u h => LWo.guardY (t := 38) u.1 h20 rfl rfl (LWo.indexM (f := e_impl_Write) e22 u_Limpl_Write s_impl_Write u.2.1 u.2.2.1 (hn := .nil (zn g)))) ?_
          refine dq 43 rfl (fun _ g u h => LWo.guardY (t := 38) u.1 h20 rfl rfl (LWo.fieldAddr _ u_impl_Write rfl s_int u.2.1 rfl (hn := .nil (zn g)))) ?_
          refine dq 44 rfl (fun _ g u h => LWo.guardY (t := 38) u.1 h20 rfl rfl (LWo.load1 (c := (e_int x22.Key)) g_int u.2.1 (hn := .nil (zn g)))) ?_
          refine dq 45 rfl (fun _ g u h => LWo.guardY (t := 38) u.2.1 h20 rfl rfl (LWo.fieldPtr u_impl_Write rfl s_int u.1 rfl (hn := .nil (zn g)))) ?_
          refine dq 46 rfl (fun _ g u h => LWo.guardY (t := 38) u.1 h20 rfl rfl (LWo.loadV1 (e_int y12.Key)  g_int u.2.1 h.1 rfl (hn := .nil (zn g)))) ?_
          refine dq 47 rfl (fun _ g u h => LWo.guardY (t := 38) u.1 h20 rfl rfl (LWo.int _ u.2.1 u.2.2.1 rfl (hn := .nil (zn g)))) ?_
          refine dq 48 rfl (fun _ g u h => LWo.guardY (t := 35) u.1 h19 rfl rfl (LWo.pickTM (e_bool (decide (x22.Key ≥ y12.Key))) u.2.1 h20 u.2.2.1 (hn := .nil (zn g)))) ?_
          refine dq 49 rfl (fun _ g u h => LWo.pickFM (e_bool (decide (x22.Key ≥ y12.Key))) u.1 h19 u.2.1 (hn := .nil (zn g))) ?_
          refine ⟨rfl, by kernel_rfl, hN13 (t0, t3, decide (x22.Key ≥ y12.Key)) _ ⟨rfl, rfl, rfl, trivial⟩ trivial h⟩
         ·have h := bF h20 h
          refine LWP.drawF (l := [_,_,_,_,_,_,_,_,_,_,_,_,_,_,_,_,_,_,_,_,_,_,_,_,_,_,_,_,_,_,_,_,_,_,_]) [] [0, 3, 4] [([4], []), ([15], [4]), ([16], []), ([17], []), ([18], []), ([4, 19], []), ([19, 20], [4]), ([19, 21], []), ([19, 22], []), ([19, 23], []), ([24], []), ([4, 25], []), ([25, 26], [4]), ([25, 27], []), ([4, 28], []), ([28, 29], [4]), ([28, 30], []), ([28, 31], []), ([25, 28, 32], []), ([25, 33], []), ([34], []), ([3, 35], []), ([35, 36], []), ([35, 37], []), ([0, 38], []), ([3, 38], []), ([38, 40], []), ([38, 39, 41], []), ([38, 42], []), ([38, 43], []), ([4, 38], []), ([38, 45], []), ([38, 44, 46], []), ([35, 38, 47], []), ([35, 48], [])] [0, 3, 49] [] mixed (by kernel_rfl) rfl (by decide) ?_
          refine dq 15 rfl (fun _ g u h => LWo.fieldPtr u_impl_Write rfl s_int u.1 rfl (hn := .nil (zn g))) ?_
          refine dq 16 rfl (fun _ g u h => LWo.loadV1 (e_int y12.Key)  g_int u.1 h.1 rfl (hn := .nil (zn g))) ?_
          refine dq 17 rfl (fun _ g u h => LWo.vcall rfl (av3 u.1 rfl rfl) (c_spec_l1In _ _ _ _ e14) (.same (.same (.same (.nil)))) (hn := .nil (zn g))) ?_
          refine dq 18 rfl (fun _ g u h => LWo.not u.1 (hn := .nil (zn g))) ?_
          refine dq 19 rfl (fun _ g u h => LWo.move (e_bool (!x14)) u.1 (hn := .nil (zn g))) ?_
          refine dq 20 rfl (fun _ g u h => LWo.guardY (t := 19) u.2.1 h15 rfl rfl (LWo.fieldPtr u_impl_Write rfl s_Limpl_Value u.1 rfl (hn := .nil (zn g)))) ?_
          refine dq 21 rfl (fun _ g u h => LWo.guardY (t := 19) u.1 h15 rfl rfl (LWo.loadV1 (e_Limpl_Value y12.Row)  g_Limpl_Value u.2.1 h.1 rfl (hn := .nil (zn g)))) ?_
          refine dq 22 rfl (fun _ g u h => LWo.guardY (t := 19) u.1 h15 rfl rfl (LWo.vcall rfl (av1 u.2.1) (c_spec_RowOk _ _ e16) (.same (.nil)) (hn := .nil (zn g)))) ?_
          refine dq 23 rfl (fun _ g u h => LWo.guardY (t := 19) u.1 h15 rfl rfl (LWo.not u.2.1 (hn := .nil (zn g)))) ?_
          refine dq 24 rfl (fun _ g u h => LWo.pickFM (e_bool (!x16)) u.1 h15 u.2.1 (hn := .nil (zn g))) ?_
          refine dq 25 rfl (fun _ g u h => LWo.move (e_bool (!x16)) u.1 (hn := .nil (zn g))) ?_
          refine dq 26 rfl (fun _ g u h => LWo.guardY (t := 25) u.2.1 h17 rfl rfl (LWo.fieldPtr u_impl_Write rfl s_bool u.1 rfl (hn := .nil (zn g)))) ?_
          refine dq 27 rfl (fun _ g u h => LWo.guardY (t := 25) u.1 h17 rfl rfl (LWo.loadV1 (e_bool y12.Gone)  g_bool u.2.1 h.1 rfl (hn := .nil (zn g)))) ?_
          refine dq 28 rfl (fun _ g u h => LWo.guardY (t := 25) u.1 h17 rfl rfl (LWo.move (e_bool y12.Gone) u.2.1 (hn := .nil (zn g)))) ?_
          refine dq 29 rfl (fun _ g u h => LWo.guardY (t := 28) u.2.1 h18 rfl rfl (LWo.fieldPtr u_impl_Write rfl s_Limpl_Value u.1 rfl (hn := .nil (zn g)))) ?_
          refine dq 30 rfl (fun _ g u h => LWo.guardY (t := 28) u.1 h18 rfl rfl (LWo.loadV1 (e_Limpl_Value y12.Row)  g_Limpl_Value u.2.1 h.1 rfl (hn := .nil (zn g)))) ?_
          refine dq 31 rfl (fun _ g u h => LWo.guardY (t := 28) u.1 h18 rfl rfl (LWo.lenM (f := e_impl_Value) (l := y12.Row) u_Limpl_Value u.2.1 (hn := .nil (zn g)))) ?_
          refine dq 32 rfl (fun _ g u h => LWo.guardY (t := 28) u.1 h18 rfl rfl (LWo.int _ u.2.1 rfl rfl (hn := .nil (zn g)))) ?_
          refine dq 33 rfl (fun _ g u h => LWo.guardY (t := 25) u.1 h17 rfl rfl (LWo.pickTM (e_bool (decide ((y12.Row.length : Int) > (0 : Int)))) u.2.1 h18 u.2.2.1 (hn := .nil (zn g)))) ?_
          refine dq 34 rfl (fun _ g u h => LWo.pickFM (e_bool (decide ((y12.Row.length : Int) > (0 : Int)))) u.1 h17 u.2.1 (hn := .nil (zn g))) ?_
          refine dq 35 rfl (fun _ g u h => LWo.move (e_bool (decide ((y12.Row.length : Int) > (0 : Int)))) u.1 (hn := .nil (zn g))) ?_
          refine dq 36 rfl (fun _ g u h => LWo.guardY (t := 35) u.2.1 h19 rfl rfl (LWo.move (e_int t3) u.1 (hn := .nil (zn g)))) ?_
          refine dq 37 rfl (fun _ g u h => LWo.guardY (t := 35) u.1 h19 rfl rfl (LWo.int _ u.2.1 rfl rfl (hn := .nil (zn g)))) ?_
          refine dq 38 rfl (fun _ g u h => LWo.guardY (t := 35) u.1 h19 rfl rfl (LWo.move (e_bool (decide (t3 > (0 : Int)))) u.2.1 (hn := .nil (zn g)))) ?_
          refine dq 39 rfl (fun _ g u h => LWo.guardNU (t := 38) u.2.1 h20 rfl rfl rfl rfl rfl (.nil (zn g))) ?_
          refine dq 40 rfl (fun _ g u h => LWo.guardNU (t := 38) u.2.1 h20 rfl rfl rfl rfl rfl (.nil (zn g))) ?_
          refine dq 41 rfl (fun _ g u h => LWo.guardNU (t := 38) u.1 h20 rfl rfl rfl rfl rfl (.nil (zn g))) ?_
          refine dq 42 rfl (fun _ g u h => LWo.guardNU (t := 38) u.1 h20 rfl rfl rfl rfl rfl (.nil (zn g))) ?_
          refine dq 43 rfl (fun _ g u h => LWo.guardNU (t := 38) u.1 h20 rfl rfl rfl rfl rfl (.nil (zn g))) ?_
          refine dq 44 rfl (fun _ g u h => LWo.guardNU (t := 38) u.1 h20 rfl rfl rfl rfl rfl (.nil (zn g))) ?_
          refine dq 45 rfl (fun _ g u h => LWo.guardNU (t := 38) u.2.1 h20 rfl rfl rfl rfl rfl (.nil (zn g))) ?_
          refine dq 46 rfl (fun _ g u h => LWo.guardNU (t := 38) u.1 h20 rfl rfl rfl rfl rfl (.nil (zn g))) ?_
          refine dq 47 rfl (fun _ g u h => LWo.guardNU (t := 38) u.1 h20 rfl rfl rfl rfl rfl (.nil (zn g))) ?_
          refine dq 48 rfl (fun _ g u h => LWo.guardY (t := 35) u.1 h19 rfl rfl (LWo.pickFM (e_bool false) u.2.1 h20 rfl (hn := .nil (zn g)))) ?_
          refine dq 49 rfl (fun _ g u h => LWo.pickFM (e_bool false) u.1 h19 u.2.1 (hn := .nil (zn g))) ?_
          refine ⟨rfl, by kernel_rfl, hN13 (t0, t3, false) _ ⟨rfl, rfl, rfl, trivial⟩ trivial h⟩
       ·have h := bF h18 h
        refine bS (decide (t3 > (0 : Int))) (fun h23 => ?_) (fun h23 => ?_)
        ·have h := bT h23 h
         refine bk h fun x24 e24 h => ?_
         refine bk h fun x25 e25 h => ?_
         refine LWP.drawF (l := [_,_,_,_,_,_,_,_,_,_,_,_,_,_,_,_,_,_,_,_,_,_,_,_,_,_,_,_,_,_,_,_,_,_,_]) [] [0, 3, 4] [([4], []), ([15], [4]), ([16], []), ([17], []), ([18], []), ([4, 19], []), ([19, 20], [4]), ([19, 21], []), ([19, 22], []), ([19, 23], []), ([24], []), ([4, 25], []), ([25, 26], [4]), ([25, 27], []), ([4, 28], []), ([28, 29], []), ([28, 30], []), ([28, 31], []), ([25, 28, 32], []), ([25, 33], []), ([34], []), ([3, 35], []), ([35, 36], []), ([35, 37], []), ([0, 38], []), ([3, 38], []), ([38, 40], []), ([38, 39, 41], []), ([38, 42], []), ([38, 43], []), ([4, 38], []), ([38, 45], [4]), ([38, 44, 46], []), ([35, 38, 47], []), ([35, 48], [])] [0, 3, 49] [] mixed (by kernel_rfl) rfl (by decide) ?_
         refine dq 15 rfl (fun _ g u h => LWo.fieldPtr u_impl_Write rfl s_int u.1 rfl (hn := .nil (zn g))) ?_
         refine dq 16 rfl (fun _ g u h => LWo.loadV1 (e_int y12.Key)  g_int u.1 h.1 rfl (hn := .nil (zn g))) ?_
         refine dq 17 rfl (fun _ g u h => LWo.vcall rfl (av3 u.1 rfl rfl) (c_spec_l1In _ _ _ _ e14) (.same (.same (.same (.nil)))) (hn := .nil (zn g))) ?_
         refine dq 18 rfl (fun _ g u h => LWo.not u.1 (hn := .nil (zn g))) ?_
         refine dq 19 rfl (fun _ g u h => LWo.move (e_bool (!x14)) u.1 (hn := .nil (zn g))) ?_
         refine dq 20 rfl (fun _ g u h => LWo.guardY (t := 19) u.2.1 h15 rfl rfl (LWo.fieldPtr u_impl_Write rfl s_Limpl_Value u.1 rfl (hn := .nil (zn g)))) ?_
         refine dq 21 rfl (fun _ g u h => LWo.guardY (t := 19) u.1 h15 rfl rfl (LWo.loadV1 (e_Limpl_Value y12.Row)  g_Limpl_Value u.2.1 h.1 rfl (hn := .nil (zn g)))) ?_
         refine dq 22 rfl (fun _ g u h => LWo.guardY (t := 19) u.1 h15 rfl rfl (LWo.vcall rfl (av1 u.2.1) (c_spec_RowOk _ _ e16) (.same (.nil)) (hn := .nil (zn g)))) ?_
         refine dq 23 rfl (fun _ g u h => LWo.guardY (t := 19) u.1 h15 rfl rfl (LWo.not u.2.1 (hn := .nil (zn g)))) ?_
         refine dq 24 rfl (fun _ g u h => LWo.pickFM (e_bool (!x16)) u.1 h15 u.2.1 (hn := .nil (zn g))) ?_
         refine dq 25 rfl (fun _ g u h => LWo.move (e_bool (!x16)) u.1 (hn := .nil (zn g))) ?_
         refine dq 26 rfl (fun _ g u h => LWo.guardY (t := 25) u.2.1 h17 rfl rfl (LWo.fieldPtr u_impl_Write rfl s_bool u.1 rfl (hn := .nil (zn g)))) ?_
         refine dq 27 rfl (fun _ g u h => LWo.guardY (t := 25) u.1 h17 rfl rfl (LWo.loadV1 (e_bool y12.Gone)  g_bool u.2.1 h.1 rfl (hn := .nil (zn g)))) ?_
         refine dq 28 rfl (fun _ g u h => LWo.guardY (t := 25) u.1 h17 rfl rfl (LWo.move (e_bool y12.Gone) u.2.1 (hn := .nil (zn g)))) ?_
         refine dq 29 rfl (fun _ g u h => LWo.guardNU (t := 28) u.2.1 h18 rfl rfl rfl rfl rfl (.nil (zn g))) ?_
         refine dq 30 rfl (fun _ g u h => LWo.guardNU (t := 28) u.1 h18 rfl rfl rfl rfl rfl (.nil (zn g))) ?_
         refine dq 31 rfl (fun _ g u h => LWo.guardNU (t := 28) u.1 h18 rfl rfl rfl rfl rfl (.nil (zn g))) ?_
         refine dq 32 rfl (fun _ g u h => LWo.guardNU (t := 28) u.1 h18 rfl rfl rfl rfl rfl (.nil (zn g))) ?_
         refine dq 33 rfl (fun _ g u h => LWo.guardY (t := 25) u.1 h17 rfl rfl (LWo.pickFM (e_bool false) u.2.1 h18 rfl (hn := .nil (zn g)))) ?_
         refine dq 34 rfl (fun _ g u h => LWo.pickFM (e_bool false) u.1 h17 u.2.1 (hn := .nil (zn g))) ?_
         refine dq 35 rfl (fun _ g u h => LWo.move (e_bool false) u.1 (hn := .nil (zn g))) ?_
         refine dq 36 rfl (fun _ g u h => LWo.guardY (t := 35) u.2.1 rfl rfl rfl (LWo.move (e_int t3) u.1 (hn := .nil (zn g)))) ?_
         refine dq 37 rfl (fun _ g u h => LWo.guardY (t := 35) u.1 rfl rfl rfl (LWo.int _ u.2.1 rfl rfl (hn := .nil (zn g)))) ?_
         refine dq 38 rfl (fun _ g u h => LWo.guardY (t := 35) u.1 rfl rfl rfl (LWo.move (e_bool (decide (t3 > (0 : Int)))) u.2.1 (hn := .nil (zn g)))) ?_
         refine dq 39 rfl (fun _ g u h => LWo.guardY (t := 38) u.2.1 h23 rfl rfl (LWo.move (e_Limpl_Write t0) u.1 (hn := .nil (zn g)))) ?_
         refine dq 40 rfl (fun _ g u h => LWo.guardY (t := 38) u.2.1 h23 rfl rfl (LWo.move (e_int t3) u.1 (hn := .nil (zn g)))) ?_
         refine dq 41 rfl (fun _ g u h => LWo.guardY (t := 38) u.1 h23 rfl rfl (LWo.int _ u.2.1 rfl (sub_ck e24) (hn := .nil (zn g)))) ?_
         refine dq 42 rfl (fun _ g u h => LWo.guardY (t := 38) u.1 h23 rfl rfl (LWo.indexM (f := e_impl_Write) e25 u_Limpl_Write s_impl_Write u.2.1 u.2.2.1 (hn := .nil (zn g)))) ?_
         refine dq 43 rfl (fun _ g u h => LWo.guardY (t := 38) u.1 h23 rfl rfl (LWo.fieldAddr _ u_impl_Write rfl s_int u.2.1 rfl (hn := .nil (zn g)))) ?_
         refine dq 44 rfl (fun _ g u h => LWo.guardY (t := 38) u.1 h23 rfl rfl (LWo.load1 (c := (e_int x25.Key)) g_int u.2.1 (hn := .nil (zn g)))) ?_
         refine dq 45 rfl (fun _ g u h => LWo.guardY (t := 38) u.2.1 h23 rfl rfl (LWo.fieldPtr u_impl_Write rfl s_int u.1 rfl (hn := .nil (zn g)))) ?_
         refine dq 46 rfl (fun _ g u h => LWo.guardY (t := 38) u.1 h23 rfl rfl (LWo.loadV1 (e_int y12.Key)  g_int u.2.1 h.1 rfl (hn := .nil (zn g)))) ?_
         refine dq 47 rfl (fun _ g u h => LWo.guardY (t := 38) u.1 h23 rfl rfl (LWo.int _ u.2.1 u.2.2.1 rfl (hn := .nil (zn g)))) ?_
         refine dq 48 rfl (fun _ g u h => LWo.guardY (t := 35) u.1 rfl rfl rfl (LWo.pickTM (e_bool (decide (x25.Key ≥ y12.Key))) u.2.1 h23 u.2.2.1 (hn := .nil (zn g)))) ?_
         refine dq 49 rfl (fun _ g u h => LWo.pickFM (e_bool (decide (x25.Key ≥ y12.Key))) u.1 rfl u.2.1 (hn := .nil (zn g))) ?_
         refine ⟨rfl, by kernel_rfl, hN13 (t0, t3, decide (x25.Key ≥ y12.Key)) _ ⟨rfl, rfl, rfl, trivial⟩ trivial h⟩
        ·have h := bF h23 h
         refine LWP.drawF (l := [_,_,_,_,_,_,_,_,_,_,_,_,_,_,_,_,_,_,_,_,_,_,_,_,_,_,_,_,_,_,_,_,_,_,_]) [] [0, 3, 4] [([4], []), ([15], [4]), ([16], []), ([17], []), ([18], []), ([4, 19], []), ([19, 20], [4]), ([19, 21], []), ([19, 22], []), ([19, 23], []), ([24], []), ([4, 25], []), ([25, 26], [4]), ([25, 27], []), ([4, 28], []), ([28, 29], []), ([28, 30], []), ([28, 31], []), ([25, 28, 32], []), ([25, 33], []), ([34], []), ([3, 35], []), ([35, 36], []), ([35, 37], []), ([0, 38], []), ([3, 38], []), ([38, 40], []), ([38, 39, 41], []), ([38, 42], []), ([38, 43], []), ([4, 38], []), ([38, 45], []), ([38, 44, 46], []), ([35, 38, 47], []), ([35, 48], [])] [0, 3, 49] [] mixed (by kernel_rfl) rfl (by decide) ?_
         refine dq 15 rfl (fun _ g u h => LWo.fieldPtr u_impl_Write rfl s_int u.1 rfl (hn := .nil (zn g))) ?_
         refine dq 16 rfl (fun _ g u h => LWo.loadV1 (e_int y12.Key)  g_int u.1 h.1 rfl (hn := .nil (zn g))) ?_
         refine dq 17 rfl (fun _ g u h => LWo.vcall rfl (av3 u.1 rfl rfl) (c_spec_l1In _ _ _ _ e14) (.same (.same (.same (.nil)))) (hn := .nil (zn g))) ?_
         refine dq 18 rfl (fun _ g u h => LWo.not u.1 (hn := .nil (zn g))) ?_
         refine dq 19 rfl (fun _ g u h => LWo.move (e_bool (!x14)) u.1 (hn := .nil (zn g))) ?_
         refine dq 20 rfl (fun _ g u h => LWo.guardY (t := 19) u.2.1 h15 rfl rfl (LWo.fieldPtr u_impl_Write rfl s_Limpl_Value u.1 rfl (hn := .nil (zn g)))) ?_
         refine dq 21 rfl (fun _ g u h => LWo.guardY (t := 19) u.1 h15 rfl rfl (LWo.loadV1 (e_Limpl_Value y12.Row)  g_Limpl_Value u.2.1 h.1 rfl (hn := .nil (zn g)))) ?_
         refine dq 22 rfl (fun _ g u h => LWo.guardY (t := 19) u.1 h15 rfl rfl (LWo.vcall rfl (av1 u.2.1) (c_spec_RowOk _ _ e16) (.same (.nil)) (hn := .nil (zn g)))) ?_
         refine dq 23 rfl (fun _ g u h => LWo.guardY (t := 19) u.1 h15 rfl rfl (LWo.not u.2.1 (hn := .nil (zn g)))) ?_
         refine dq 24 rfl (fun _ g u h => LWo.pickFM (e_bool (!x16)) u.1 h15 u.2.1 (hn := .nil (zn g))) ?_
         refine dq 25 rfl (fun _ g u h => LWo.move (e_bool (!x16)) u.1 (hn := .nil (zn g))) ?_
         refine dq 26 rfl (fun _ g u h => LWo.guardY (t := 25) u.2.1 h17 rfl rfl (LWo.fieldPtr u_impl_Write rfl s_bool u.1 rfl (hn := .nil (zn g)))) ?_
         refine dq 27 rfl (fun _ g u h => LWo.guardY (t := 25) u.1 h17 rfl rfl (LWo.loadV1 (e_bool y12.Gone)  g_bool u.2.1 h.1 rfl (hn := .nil (zn g)))) ?_
         refine dq 28 rfl (fun _ g u h => LWo.guardY (t := 25) u.1 h17 rfl rfl (LWo.move (e_bool y12.Gone) u.2.1 (hn := .nil (zn g)))) ?_
         refine dq 29 rfl (fun _ g u h => LWo.guardNU (t := 28) u.2.1 h18 rfl rfl rfl rfl rfl (.nil (zn g))) ?_
         refine dq 30 rfl (fun _ g u h => LWo.guardNU (t := 28) u.1 h18 rfl rfl rfl rfl rfl (.nil (zn g))) ?_
         refine dq 31 rfl (fun _ g u h => LWo.guardNU (t := 28) u.1 h18 rfl rfl rfl rfl rfl (.nil (zn g))) ?_
         refine dq 32 rfl (fun _ g u h => LWo.guardNU (t := 28) u.1 h18 rfl rfl rfl rfl rfl (.nil (zn g))) ?_
         refine dq 33 rfl (fun _ g u h => LWo.guardY (t := 25) u.1 h17 rfl rfl (LWo.pickFM (e_bool false) u.2.1 h18 rfl (hn := .nil (zn g)))) ?_
         refine dq 34 rfl (fun _ g u h => LWo.pickFM (e_bool false) u.1 h17 u.2.1 (hn := .nil (zn g))) ?_
         refine dq 35 rfl (fun _ g u h => LWo.move (e_bool false) u.1 (hn := .nil (zn g))) ?_
         refine dq 36 rfl (fun _ g u h => LWo.guardY (t := 35) u.2.1 rfl rfl rfl (LWo.move (e_int t3) u.1 (hn := .nil (zn g)))) ?_
         refine dq 37 rfl (fun _ g u h => LWo.guardY (t := 35) u.1 rfl rfl rfl (LWo.int _ u.2.1 rfl rfl (hn := .nil (zn g)))) ?_
         refine dq 38 rfl (fun _ g u h => LWo.guardY (t := 35) u.1 rfl rfl rfl (LWo.move (e_bool (decide (t3 > (0 : Int)))) u.2.1 (hn := .nil (zn g)))) ?_
         refine dq 39 rfl (fun _ g u h => LWo.guardNU (t := 38) u.2.1 h23 rfl rfl rfl rfl rfl (.nil (zn g))) ?_
         refine dq 40 rfl (fun _ g u h => LWo.guardNU (t := 38) u.2.1 h23 rfl rfl rfl rfl rfl (.nil (zn g))) ?_
         refine dq 41 rfl (fun _ g u h => LWo.guardNU (t := 38) u.1 h23 rfl rfl rfl rfl rfl (.nil (zn g))) ?_
         refine dq 42 rfl (fun _ g u h => LWo.guardNU (t := 38) u.1 h23 rfl rfl rfl rfl rfl (.nil (zn g))) ?_
         refine dq 43 rfl (fun _ g u h => LWo.guardNU (t := 38) u.1 h23 rfl rfl rfl rfl rfl (.nil (zn g))) ?_
         refine dq 44 rfl (fun _ g u h => LWo.guardNU (t := 38) u.1 h23 rfl rfl rfl rfl rfl (.nil (zn g))) ?_
         refine dq 45 rfl (fun _ g u h => LWo.guardNU (t := 38) u.2.1 h23 rfl rfl rfl rfl rfl (.nil (zn g))) ?_
         refine dq 46 rfl (fun _ g u h => LWo.guardNU (t := 38) u.1 h23 rfl rfl rfl rfl rfl (.nil (zn g))) ?_
         refine dq 47 rfl (fun _ g u h => LWo.guardNU (t := 38) u.1 h23 rfl rfl rfl rfl rfl (.nil (zn g))) ?_
         refine dq 48 rfl (fun _ g u h => LWo.guardY (t := 35) u.1 rfl rfl rfl (LWo.pickFM (e_bool false) u.2.1 h23 rfl (hn := .nil (zn g)))) ?_
         refine dq 49 rfl (fun _ g u h => LWo.pickFM (e_bool false) u.1 rfl u.2.1 (hn := .nil (zn g))) ?_
         refine ⟨rfl, by kernel_rfl, hN13 (t0, t3, false) _ ⟨rfl, rfl, rfl, trivial⟩ trivial h⟩
   ·have h := bF h8 h
    refine LWP.exit (hN2 () _ trivial trivial h)

def m_spec_LogOk_j2 (t0 : (List S_impl_Entry)) : Option Bool :=
  some (decide ((t0.length : Int) ≤ (12 : Int)))
def m_spec_LogOk_j1 (k1 : (List S_impl_Entry) → Int → Option Bool) (t0 : (List S_impl_Entry)) (t3 : Int) (t43 : Bool) : Option Bool :=
  bif t43 then (some false)
  else ((ckI (t3 + (1 : Int))).bind fun x23 =>
  k1 t0 x23)
def m_spec_LogOk_l1 : Nat → (List S_impl_Entry) → Int → Option Bool
  | 0, _, _ => none
  | n1 + 1, t0, t3 =>
    bif decide (t3 < (t0.length : Int)) then ((at? t0 t3).bind fun x11 =>
    (m_spec_l1In x11.Time (1 : Int) (40 : Int)).bind fun x12 =>
    bif (!x12) then (m_spec_LogOk_j1  (m_spec_LogOk_l1  n1) t0 t3 true)
    else ((at? t0 t3).bind fun x14 =>
      (m_spec_WritesOk x14.Writes).bind fun x15 =>
      bif (!x15) then (m_spec_LogOk_j1  (m_spec_LogOk_l1  n1) t0 t3 true)
      else (bif decide (t3 > (0 : Int)) then ((ckI (t3 - (1 : Int))).bind fun x18 =>
          (at? t0 x18).bind fun x19 =>
          (at? t0 t3).bind fun x20 =>
          m_spec_LogOk_j1  (m_spec_LogOk_l1  n1) t0 t3 (decide (x19.Time ≥ x20.Time)))
        else (m_spec_LogOk_j1  (m_spec_LogOk_l1  n1) t0 t3 false))))
    else (m_spec_LogOk_j2  t0)
def m_spec_LogOk (a0 : (List S_impl_Entry)) : Option Bool :=
  m_spec_LogOk_l1  (((a0.length : Int) - (0 : Int)).toNat + 1) a0 (0 : Int)
theorem c_spec_LogOk (a0 : (List S_impl_Entry)) (r : Bool) (h : m_spec_LogOk a0 = some r) : Ret Try.prog f_spec_LogOk [e_Limpl_Entry a0] (e_bool r) := by
  refine Does.goG [] F_spec_LogOk rfl e_spec_LogOk n_spec_LogOk rfl (rvs := [.tmp 2]) rfl rfl ?_
  intro w0 ok0 lent ρ0
  refine LWP.seq_k fun N1 hN1 => ?_
  refine LWP.region (l := [_]) ?_
  refine LWo.assign (e_bool false) rfl (hn := ?_)
  refine LWo.nil (hN1 _ ?_)
  refine LWP.join (α := (List S_impl_Entry)) (fun z : (List S_impl_Entry) => [(0, (e_Limpl_Entry z))]) (fun z : (List S_impl_Entry) => []) (fun z : (List S_impl_Entry) => m_spec_LogOk_j2  z) r (fun _ => by simp [hkeys]) ?_ ?_
  ·rintro t0 h
   replace h : m_spec_LogOk_j2  t0 = some _ := h
   refine LWP.seq_k fun N24 hN24 => ?_
   refine LWP.region (l := [_,_,_,_]) ?_
   refine LWo.move (e_Limpl_Entry t0) rfl (hn := ?_)
   refine LWo.lenM (f := e_impl_Entry) (l := t0) u_Limpl_Entry rfl (hn := ?_)
   refine LWo.int _ rfl rfl rfl (hn := ?_)
   refine LWo.assign (e_bool (decide ((t0.length : Int) ≤ (12 : Int)))) rfl (hn := ?_)
   refine LWo.nil (hN24 _ ?_)
   obtain rfl := Option.some.inj h
   refine LWP.ret (QG.mk (.inr rfl) (.cons (.tmp (x := (e_bool (decide ((t0.length : Int) ≤ (12 : Int))))) rfl) (.nil)) (RetOK.one0 (.pure rfl) (by decide)) rfl rfl)
  ·intro N2 hN2
   refine LWP.seq_k fun N3 hN3 => ?_
   refine LWP.region (l := [_]) ?_
   refine LWo.assign (e_int (0 : Int)) rfl (hn := ?_)
   refine LWo.nil (hN3 _ ?_)
   refine LWP.block ?_
   refine LWP.loopM (α := (List S_impl_Entry) × Int) (fun z : (List S_impl_Entry) × Int => [(0, (e_Limpl_Entry z.1)), (3, (e_int z.2))]) (fun z : (List S_impl_Entry) × Int => []) (fun n1 (z : (List S_impl_Entry) × Int) => m_spec_LogOk_l1  n1 z.1 z.2) r _ (a0, (0 : Int)) h (fun _ => rfl) (fun _ => by simp [hkeys]) ⟨rfl, rfl, trivial⟩ trivial ?_
   rintro n1 ⟨t0, t3⟩ h N4 hN4
   replace h : m_spec_LogOk_l1  (n1 + 1) t0 t3 = some _ := h
   refine LWP.seq_k fun N6 hN6 => ?_
   refine LWP.seq_k fun N7 hN7 => ?_
   refine LWP.region (l := [_,_,_,_]) ?_
   refine LWo.move (e_int t3) rfl (hn := ?_)
   refine LWo.move (e_Limpl_Entry t0) rfl (hn := ?_)
   refine LWo.lenM (f := e_impl_Entry) (l := t0) u_Limpl_Entry rfl (hn := ?_)
   refine LWo.int _ rfl rfl rfl (hn := ?_)
   refine LWo.nil (hN7 _ ?_)
   refine LWP.cond_split rfl (fun h8 => ?_) (fun h8 => ?_)
   ·have h := bT h8 h
    refine LWP.skip (hN6 _ ?_)
    refine LWP.seq_k fun N9 hN9 => ?_
    refine LWP.block ?_
    refine LWP.join (α := (List S_impl_Entry) × Int × Bool) (fun z : (List S_impl_Entry) × Int × Bool => [(0, (e_Limpl_Entry z.1)), (3, (e_int z.2.1)), (43, (e_bool z.2.2))]) (fun z : (List S_impl_Entry) × Int × Bool => []) (fun z : (List S_impl_Entry) × Int × Bool => m_spec_LogOk_j1  (m_spec_LogOk_l1  n1) z.1 z.2.1 z.2.2) r (fun _ => by simp [hkeys]) ?_ ?_
    ·rintro ⟨t0, t3, t43⟩ h
     replace h : m_spec_LogOk_j1  (m_spec_LogOk_l1  n1) t0 t3 t43 = some _ := h
     refine LWP.cond_split rfl (fun h21 => ?_) (fun h21 => ?_)
     ·have h := bT h21 h
      refine LWP.seq_k fun N22 hN22 => ?_
      refine LWP.region (l := [_]) ?_
      refine LWo.assign (e_bool false) rfl (hn := ?_)
      refine LWo.nil (hN22 _ ?_)
      obtain rfl := Option.some.inj h
      refine LWP.ret (QG.mk (.inr rfl) (.cons (.tmp (x := (e_bool false)) rfl) (.nil)) (RetOK.one0 (.pure rfl) (by decide)) rfl rfl)
     ·have h := bF h21 h
      refine LWP.skip (hN9 _ ?_)
      refine LWP.region (l := [_,_,_]) ?_
      refine LWo.move (e_int t3) rfl (hn := ?_)
      refine bk h fun x23 e23 h => ?_
      refine LWo.int _ rfl rfl (add_ck e23) (hn := ?_)
      refine LWo.assign (e_int x23) rfl (hn := ?_)
      refine LWo.nil (hN4 (t0, x23) _ ⟨rfl, rfl, trivial⟩ trivial h)
    ·intro N10 hN10
     refine bk h fun x11 e11 h => ?_
     refine bk h fun x12 e12 h => ?_
     refine bS ((!x12)) (fun h13 => ?_) (fun h13 => ?_)
     ·have h := bT h13 h
      refine LWP.drawF (l := [_,_,_,_,_,_,_,_,_,_,_,_,_,_,_,_,_,_,_,_,_,_,_,_,_,_,_,_,_,_,_,_,_,_]) [] [0, 3] [([0], []), ([3], []), ([10, 11], []), ([12], []), ([13], []), ([14], []), ([15], []), ([16], []), ([0, 17], []), ([3, 17], []), ([17, 18, 19], []), ([17, 20], []), ([17, 21], []), ([17, 22], []), ([17, 23], []), ([17, 24], []), ([25], []), ([3, 26], []), ([26, 27], []), ([26, 28], []), ([0, 29], []), ([3, 29], []), ([29, 31], []), ([29, 30, 32], []), ([29, 33], []), ([29, 34], []), ([0, 29], []), ([3, 29], []), ([29, 36, 37], []), ([29, 38], []), ([29, 39], []), ([29, 35, 40], []), ([26, 29, 41], []), ([26, 42], [])] [0, 3, 43] [] mixed (by kernel_rfl) rfl (by decide) ?_
      refine dq 10 rfl (fun _ g u h => LWo.move (e_Limpl_Entry t0) u.1 (hn := .nil (zn g))) ?_
      refine dq 11 rfl (fun _ g u h => LWo.move (e_int t3) u.1 (hn := .nil (zn g))) ?_
      refine dq 12 rfl (fun _ g u h => LWo.indexM (f := e_impl_Entry) e11 u_Limpl_Entry s_impl_Entry u.1 u.2.1 (hn := .nil (zn g))) ?_
      refine dq 13 rfl (fun _ g u h => LWo.fieldAddr _ u_impl_Entry rfl s_int u.1 rfl (hn := .nil (zn g))) ?_
      refine dq 14 rfl (fun _ g u h => LWo.load1 (c := (e_int x11.Time)) g_int u.1 (hn := .nil (zn g))) ?_
      refine dq 15 rfl (fun _ g u h => LWo.vcall rfl (av3 u.1 rfl rfl) (c_spec_l1In _ _ _ _ e12) (.same (.same (.same (.nil)))) (hn := .nil (zn g))) ?_
      refine dq 16 rfl (fun _ g u h => LWo.not u.1 (hn := .nil (zn g))) ?_
      refine dq 17 rfl (fun _ g u h => LWo.move (e_bool (!x12)) u.1 (hn := .nil (zn g))) ?_
      refine dq 18 rfl (fun _ g u h => LWo.guardNU (t := 17) u.2.1 h13 rfl rfl rfl rfl rfl (.nil (zn g))) ?_
      refine dq 19 rfl (fun _ g u h => LWo.guardNU (t := 17) u.2.1 h13 rfl rfl rfl rfl rfl (.nil (zn g))) ?_
      refine dq 20 rfl (fun _ g u h => LWo.guardNU (t := 17) u.1 h13 rfl rfl rfl rfl rfl (.nil (zn g))) ?_
      refine dq 21 rfl (fun _ g u h => LWo.guardNU (t := 17) u.1 h13 rfl rfl rfl rfl rfl (.nil (zn g))) ?_
      refine dq 22 rfl (fun _ g u h => LWo.guardNU (t := 17) u.1 h13 rfl rfl rfl rfl rfl (.nil (zn g))) ?_
      refine dq 23 rfl (fun _ g u h => LWo.guardNU (t := 17) u.1 h13 rfl rfl rfl rfl rfl (.nil (zn g))) ?_
      refine dq 24 rfl (fun _ g u h => LWo.guardNU (t := 17) u.1 h13 rfl rfl rfl rfl rfl (.nil (zn g))) ?_
      refine dq 25 rfl (fun _ g u h => LWo.pickTM (e_bool true) u.1 h13 rfl (hn := .nil (zn g))) ?_
      refine dq 26 rfl (fun _ g u h => LWo.move (e_bool true) u.1 (hn := .nil (zn g))) ?_
      refine dq 27 rfl (fun _ g u h => LWo.guardNU (t := 26) u.2.1 rfl rfl rfl rfl rfl rfl (.nil (zn g))) ?_
      refine dq 28 rfl (fun _ g u h => LWo.guardNU (t := 26) u.1 rfl rfl rfl rfl rfl rfl (.nil (zn g))) ?_
      refine dq 29 rfl (fun _ g u h => LWo.guardNU (t := 26) u.1 rfl rfl rfl rfl rfl rfl (.nil (zn g))) ?_
      refine dq 30 rfl (fun _ g u h => LWo.guardU (t := 29) u.2.1 rfl rfl rfl rfl (.nil (zn g))) ?_
      refine dq 31 rfl (fun _ g u h => LWo.guardU (t := 29) u.2.1 rfl rfl rfl rfl (.nil (zn g))) ?_
      refine dq 32 rfl (fun _ g u h => LWo.guardU (t := 29) u.1 rfl rfl rfl rfl (.nil (zn g))) ?_
      refine dq 33 rfl (fun _ g u h => LWo.guardU (t := 29) u.1 rfl rfl rfl rfl (.nil (zn g))) ?_
      refine dq 34 rfl (fun _ g u h => LWo.guardU (t := 29) u.1 rfl rfl rfl rfl (.nil (zn g))) ?_
      refine dq 35 rfl (fun _ g u h => LWo.guardU (t := 29) u.1 rfl rfl rfl rfl (.nil (zn g))) ?_
      refine dq 36 rfl (fun _ g u h => LWo.guardU (t := 29) u.2.1 rfl rfl rfl rfl (.nil (zn g))) ?_
      refine dq 37 rfl (fun _ g u h => LWo.guardU (t := 29) u.2.1 rfl rfl rfl rfl (.nil (zn g))) ?_
      refine dq 38 rfl (fun _ g u h => LWo.guardU (t := 29) u.1 rfl rfl rfl rfl (.nil (zn g))) ?_
      refine dq 39 rfl (fun _ g u h => LWo.guardU (t := 29) u.1 rfl rfl rfl rfl (.nil (zn g))) ?_
      refine dq 40 rfl (fun _ g u h => LWo.guardU (t := 29) u.1 rfl rfl rfl rfl (.nil (zn g))) ?_
      refine dq 41 rfl (fun _ g u h => LWo.guardU (t := 29) u.1 rfl rfl rfl rfl (.nil (zn g))) ?_
      refine dq 42 rfl (fun _ g u h => LWo.guardNU (t := 26) u.1 rfl rfl rfl rfl rfl rfl (.nil (zn g))) ?_
      refine dq 43 rfl (fun _ g u h => LWo.pickTM (e_bool true) u.1 rfl rfl (hn := .nil (zn g))) ?_
      refine ⟨rfl, by kernel_rfl, hN10 (t0, t3, true) _ ⟨rfl, rfl, rfl, trivial⟩ trivial h⟩
     ·have h := bF h13 h
      refine bk h fun x14 e14 h => ?_
      refine bk h fun x15 e15 h => ?_
      refine bS ((!x15)) (fun h16 => ?_) (fun h16 => ?_)
      ·have h := bT h16 h
       refine LWP.drawF (l := [_,_,_,_,_,_,_,_,_,_,_,_,_,_,_,_,_,_,_,_,_,_,_,_,_,_,_,_,_,_,_,_,_,_]) [] [0, 3] [([0], []), ([3], []), ([10, 11], []), ([12], []), ([13], []), ([14], []), ([15], []), ([16], []), ([0, 17], []), ([3, 17], []), ([17, 18, 19], []), ([17, 20], []), ([17, 21], []), ([17, 22], []), ([17, 23], []), ([17, 24], []), ([25], []), ([3, 26], []), ([26, 27], []), ([26, 28], []), ([0, 29], []), ([3, 29], []), ([29, 31], []), ([29, 30, 32], []), ([29, 33], []), ([29, 34], []), ([0, 29], []), ([3, 29], []), ([29, 36, 37], []), ([29, 38], []), ([29, 39], []), ([29, 35, 40], []), ([26, 29, 41], []), ([26, 42], [])] [0, 3, 43] [] mixed (by kernel_rfl) rfl (by decide) ?_
       refine dq 10 rfl (fun _ g u h => LWo.move (e_Limpl_Entry t0) u.1 (hn := .nil (zn g))) ?_
       refine dq 11 rfl (fun _ g u h => LWo.move (e_int t3) u.1 (hn := .nil (zn g))) ?_
       refine dq 12 rfl (fun _ g u h => LWo.indexM (f := e_impl_Entry) e11 u_Limpl_Entry s_impl_Entry u.1 u.2.1 (hn := .nil (zn g))) ?_
       refine dq 13 rfl (fun _ g u h => LWo.fieldAddr _ u_impl_Entry rfl s_int u.1 rfl (hn := .nil (zn g))) ?_
       refine dq 14 rfl (fun _ g u h => LWo.load1 (c := (e_int x11.Time)) g_int u.1 (hn := .nil (zn g))) ?_
       refine dq 15 rfl (fun _ g u h => LWo.vcall rfl (av3 u.1 rfl rfl) (c_spec_l1In _ _ _ _ e12) (.same (.same (.same (.nil)))) (hn := .nil (zn g))) ?_
       refine dq 16 rfl (fun _ g u h => LWo.not u.1 (hn := .nil (zn g))) ?_
       refine dq 17 rfl (fun _ g u h => LWo.move (e_bool (!x12)) u.1 (hn := .nil (zn g))) ?_
       refine dq 18 rfl (fun _ g u h => LWo.guardY (t := 17) u.2.1 h13 rfl rfl (LWo.move (e_Limpl_Entry t0) u.1 (hn := .nil (zn g)))) ?_
       refine dq 19 rfl (fun _ g u h => LWo.guardY (t := 17) u.2.1 h13 rfl rfl (LWo.move (e_int t3) u.1 (hn := .nil (zn g)))) ?_
       refine dq 20 rfl (fun _ g u h => LWo.guardY (t := 17) u.1 h13 rfl rfl (LWo.indexM (f := e_impl_Entry) e14 u_Limpl_Entry s_impl_Entry u.2.1 u.2.2.1 (hn := .nil (zn g)))) ?_
       refine dq 21 rfl (fun _ g u h => LWo.guardY (t := 17) u.1 h13 rfl rfl (LWo.fieldAddr _ u_impl_Entry rfl s_Limpl_Write u.2.1 rfl (hn := .nil (zn g)))) ?_
       refine dq 22 rfl (fun _ g u h => LWo.guardY (t := 17) u.1 h13 rfl rfl (LWo.load1 (c := (e_Limpl_Write x14.Writes)) g_Limpl_Write u.2.1 (hn := .nil (zn g)))) ?_
       refine dq 23 rfl (fun _ g u h => LWo.guardY (t := 17) u.1 h13 rfl rfl (LWo.vcall rfl (av1 u.2.1) (c_spec_WritesOk _ _ e15) (.same (.nil)) (hn := .nil (zn g)))) ?_
       refine dq 24 rfl (fun _ g u h => LWo.guardY (t := 17) u.1 h13 rfl rfl (LWo.not u.2.1 (hn := .nil (zn g)))) ?_
       refine dq 25 rfl (fun _ g u h => LWo.pickFM (e_bool (!x15)) u.1 h13 u.2.1 (hn := .nil (zn g))) ?_
       refine dq 26 rfl (fun _ g u h => LWo.move (e_bool (!x15)) u.1 (hn := .nil (zn g))) ?_
       refine dq 27 rfl (fun _ g u h => LWo.guardNU (t := 26) u.2.1 h16 rfl rfl rfl rfl rfl (.nil (zn g))) ?_
       refine dq 28 rfl (fun _ g u h => LWo.guardNU (t := 26) u.1 h16 rfl rfl rfl rfl rfl (.nil (zn g))) ?_
       refine dq 29 rfl (fun _ g u h => LWo.guardNU (t := 26) u.1 h16 rfl rfl rfl rfl rfl (.nil (zn g))) ?_
       refine dq 30 rfl (fun _ g u h => LWo.guardU (t := 29) u.2.1 rfl rfl rfl rfl (.nil (zn g))) ?_
       refine dq 31 rfl (fun _ g u h => LWo.guardU (t := 29) u.2.1 rfl rfl rfl rfl (.nil (zn g))) ?_
       refine dq 32 rfl (fun _ g u h => LWo.guardU (t := 29) u.1 rfl rfl rfl rfl (.nil (zn g))) ?_
       refine dq 33 rfl (fun _ g u h => LWo.guardU (t := 29) u.1 rfl rfl rfl rfl (.nil (zn g))) ?_
       refine dq 34 rfl (fun _ g u h => LWo.guardU (t := 29) u.1 rfl rfl rfl rfl (.nil (zn g))) ?_
       refine dq 35 rfl (fun _ g u h => LWo.guardU (t := 29) u.1 rfl rfl rfl rfl (.nil (zn g))) ?_
       refine dq 36 rfl (fun _ g u h => LWo.guardU (t := 29) u.2.1 rfl rfl rfl rfl (.nil (zn g))) ?_
       refine dq 37 rfl (fun _ g u h => LWo.guardU (t := 29) u.2.1 rfl rfl rfl rfl (.nil (zn g))) ?_
       refine dq 38 rfl (fun _ g u h => LWo.guardU (t := 29) u.1 rfl rfl rfl rfl (.nil (zn g))) ?_
       refine dq 39 rfl (fun _ g u h => LWo.guardU (t := 29) u.1 rfl rfl rfl rfl (.nil (zn g))) ?_
       refine dq 40 rfl (fun _ g u h => LWo.guardU (t := 29) u.1 rfl rfl rfl rfl (.nil (zn g))) ?_
       refine dq 41 rfl (fun _ g u h => LWo.guardU (t := 29) u.1 rfl rfl rfl rfl (.nil (zn g))) ?_
       refine dq 42 rfl (fun _ g u h => LWo.guardNU (t := 26) u.1 h16 rfl rfl rfl rfl rfl (.nil (zn g))) ?_
       refine dq 43 rfl (fun _ g u h => LWo.pickTM (e_bool true) u.1 h16 rfl (hn := .nil (zn g))) ?_
       refine ⟨rfl, by kernel_rfl, hN10 (t0, t3, true) _ ⟨rfl, rfl, rfl, trivial⟩ trivial h⟩
      ·have h := bF h16 h
       refine bS (decide (t3 > (0 : Int))) (fun h17 => ?_) (fun h17 => ?_)
       ·have h := bT h17 h
        refine bk h fun x18 e18 h => ?_
        refine bk h fun x19 e19 h => ?_
        refine bk h fun x20 e20 h => ?_
        refine LWP.drawF (l := [_,_,_,_,_,_,_,_,_,_,_,_,_,_,_,_,_,_,_,_,_,_,_,_,_,_,_,_,_,_,_,_,_,_]) [] [0, 3] [([0], []), ([3], []), ([10, 11], []), ([12], []), ([13], []), ([14], []), ([15], []), ([16], []), ([0, 17], []), ([3, 17], []), ([17, 18, 19], []), ([17, 20], []), ([17, 21], []), ([17, 22], []), ([17, 23], []), ([17, 24], []), ([25], []), ([3, 26], []), ([26, 27], []), ([26, 28], []), ([0, 29], []), ([3, 29], []), ([29, 31], []), ([29, 30, 32], []), ([29, 33], []), ([29, 34], []), ([0, 29], []), ([3, 29], []), ([29, 36, 37], []), ([29, 38], []), ([29, 39], []), ([29, 35, 40], []), ([26, 29, 41], []), ([26, 42], [])] [0, 3, 43] [] mixed (by kernel_rfl) rfl (by decide) ?_
        refine dq 10 rfl (fun _ g u h => LWo.move (e_Limpl_Entry t0) u.1 (hn := .nil (zn g))) ?_
        refine dq 11 rfl (fun _ g u h => LWo.move (e_int t3) u.1 (hn := .nil (zn g))) ?_
        refine dq 12 rfl (fun _ g u h => LWo.indexM (f := e_impl_Entry) e11 u_Limpl_Entry s_impl_Entry u.1 u.2.1 (hn := .nil (zn g))) ?_
        refine dq 13 rfl (fun _ g u h => LWo.fieldAddr _ u_impl_Entry rfl s_int u.1 rfl (hn := .nil (zn g))) ?_
        refine dq 14 rfl (fun _ g u h => LWo.load1 (c := (e_int x11.Time)) g_int u.1 (hn := .nil (zn g))) ?_
        refine dq 15 rfl (fun _ g u h => LWo.vcall rfl (av3 u.1 rfl rfl) (c_spec_l1In _ _ _ _ e12) (.same (.same (.same (.nil)))) (hn := .nil (zn g))) ?_
        refine dq 16 rfl (fun _ g u h => LWo.not u.1 (hn := .nil (zn g))) ?_
        refine dq 17 rfl (fun _ g u h => LWo.move (e_bool (!x12)) u.1 (hn := .nil (zn g))) ?_
        refine dq 18 rfl (fun _ g u h => LWo.guardY (t := 17) u.2.1 h13 rfl rfl (LWo.move (e_Limpl_Entry t0) u.1 (hn := .nil (zn g)))) ?_
        refine dq 19 rfl (fun _ g u h => LWo.guardY (t := 17) u.2.1 h13 rfl rfl (LWo.move (e_int t3) u.1 (hn := .nil (zn g)))) ?_
        refine dq 20 rfl (fun _ g u h => LWo.guardY (t := 17) u.1 h13 rfl rfl (LWo.indexM (f := e_impl_Entry) e14 u_Limpl_Entry s_impl_Entry u.2.1 u.2.2.1 (hn := .nil (zn g)))) ?_
        refine dq 21 rfl (fun _ g u h => LWo.guardY (t := 17) u.1 h13 rfl rfl (LWo.fieldAddr _ u_impl_Entry rfl s_Limpl_Write u.2.1 rfl (hn := .nil (zn g)))) ?_
        refine dq 22 rfl (fun _ g u h => LWo.guardY (t := 17) u.1 h13 rfl rfl (LWo.load1 (c := (e_Limpl_Write x14.Writes)) g_Limpl_Write u.2.1 (hn := .nil (zn g)))) ?_
        refine dq 23 rfl (fun _ g u h => LWo.guardY (t := 17) u.1 h13 rfl rfl (LWo.vcall rfl (av1 u.2.1) (c_spec_WritesOk _ _ e15) (.same (.nil)) (hn := .nil (zn g)))) ?_
        refine dq 24 rfl (fun _ g u h => LWo.guardY (t := 17) u.1 h13 rfl rfl (LWo.not u.2.1 (hn := .nil (zn g)))) ?_
        refine dq 25 rfl (fun _ g u h => LWo.pickFM (e_bool (!x15)) u.1 h13 u.2.1 (hn := .nil (zn g))) ?_
        refine dq 26 rfl (fun _ g u h => LWo.move (e_bool (!x15)) u.1 (hn := .nil (zn g))) ?_
        refine dq 27 rfl (fun _ g u h => LWo.guardY (t := 26) u.2.1 h16 rfl rfl (LWo.move (e_int t3) u.1 (hn := .nil (zn g)))) ?_
        refine dq 28 rfl (fun _ g u h => LWo.guardY (t := 26) u.1 h16 rfl rfl (LWo.int _ u.2.1 rfl rfl (hn := .nil (zn g)))) ?_
        refine dq 29 rfl (fun _ g u h => LWo.guardY (t := 26) u.1 h16 rfl rfl (LWo.move (e_bool (decide (t3 > (0 : Int)))) u.2.1 (hn := .nil (zn g)))) ?_
        refine dq 30 rfl (fun _ g u h => LWo.guardY (t := 29) u.2.1 h17 rfl rfl (LWo.move (e_Limpl_Entry t0) u.1 (hn := .nil (zn g)))) ?_
        refine dq 31 rfl (fun _ g u h => LWo.guardY (t := 29) u.2.1 h17 rfl rfl (LWo.move (e_int t3) u.1 (hn := .nil (zn g)))) ?_
        refine dq 32 rfl (fun _ g u h => LWo.guardY (t := 29) u.1 h17 rfl rfl (LWo.int _ u.2.1 rfl (sub_ck e18) (hn := .nil (zn g)))) ?_
        refine dq 33 rfl (fun _ g u h => LWo.guardY (t := 29) u.1 h17 rfl rfl (LWo.indexM (f := e_impl_Entry) e19 u_Limpl_Entry s_impl_Entry u.2.1 u.2.2.1 (hn := .nil (zn g)))) ?_
        refine dq 34 rfl (fun _ g u h => LWo.guardY (t := 29) u.1 h17 rfl rfl (LWo.fieldAddr _ u_impl_Entry rfl s_int u.2.1 rfl (hn := .nil (zn g)))) ?_
        refine dq 35 rfl (fun _ g u h => LWo.guardY (t := 29) u.1 h17 rfl rfl (LWo.load1 (c := (e_int x19.Time)) g_int u.2.1 (hn := .nil (zn g)))) ?_
        refine dq 36 rfl (fun _ g u h => LWo.guardY (t := 29) u.2.1 h17 rfl rfl (LWo.move (e_Limpl_Entry t0) u.1 (hn := .nil (zn g)))) ?_
        refine dq 37 rfl (fun _ g u h => LWo.guardY (t := 29) u.2.1 h17 rfl rfl (LWo.move (e_int t3) u.1 (hn := .nil (zn g)))) ?_
        refine dq 38 rfl (fun _ g u h => LWo.guardY (t := 29) u.1 h17 rfl rfl (LWo.indexM (f := e_impl_Entry) e20 u_Limpl_Entry s_impl_Entry u.2.1 u.2.2.1 (hn := .nil (zn g)))) ?_
        refine dq 39 rfl (fun _ g u h => LWo.guardY (t := 29) u.1 h17 rfl rfl (LWo.fieldAddr _ u_impl_Entry rfl s_int u.2.1 rfl (hn := .nil (zn g)))) ?_
        refine dq 40 rfl (fun _ g u h => LWo.guardY (t := 29) u.1 h17 rfl rfl (LWo.load1 (c := (e_int x20.Time)) g_int u.2.1 (hn := .nil (zn g)))) ?_
        refine dq 41 rfl (fun _ g u h => LWo.guardY (t := 29) u.1 h17 rfl rfl (LWo.int _ u.2.1 u.2.2.1 rfl (hn := .nil (zn g)))) ?_
        refine dq 42 rfl (fun _ g u h => LWo.guardY (t := 26) u.1 h16 rfl rfl (LWo.pickTM (e_bool (decide (x19.Time ≥ x20.Time))) u.2.1 h17 u.2.2.1 (hn := .nil (zn g)))) ?_
        refine dq 43 rfl (fun _ g u h => LWo.pickFM (e_bool (decide (x19.Time ≥ x20.Time))) u.1 h16 u.2.1 (hn := .nil (zn g))) ?_
        refine ⟨rfl, by kernel_rfl, hN10 (t0, t3, decide (x19.Time ≥ x20.Time)) _ ⟨rfl, rfl, rfl, trivial⟩ trivial h⟩
       ·have h := bF h17 h
        refine LWP.drawF (l := [_,_,_,_,_,_,_,_,_,_,_,_,_,_,_,_,_,_,_,_,_,_,_,_,_,_,_,_,_,_,_,_,_,_]) [] [0, 3] [([0], []), ([3], []), ([10, 11], []), ([12], []), ([13], []), ([14], []), ([15], []), ([16], []), ([0, 17], []), ([3, 17], []), ([17, 18, 19], []), ([17, 20], []), ([17, 21], []), ([17, 22], []), ([17, 23], []), ([17, 24], []), ([25], []), ([3, 26], []), ([26, 27], []), ([26, 28], []), ([0, 29], []), ([3, 29], []), ([29, 31], []), ([29, 30, 32], []), ([29, 33], []), ([29, 34], []), ([0, 29], []), ([3, 29], []), ([29, 36, 37], []), ([29, 38], []), ([29, 39], []), ([29, 35, 40], []), ([26, 29, 41], []), ([26, 42], [])] [0, 3, 43] [] mixed (by kernel_rfl) rfl (by decide) ?_
        refine dq 10 rfl (fun _ g u h => LWo.move (e_Limpl_Entry t0) u.1 (hn := .nil (zn g))) ?_
        refine dq 11 rfl (fun _ g u h => LWo.move (e_int t3) u.1 (hn := .nil (zn g))) ?_
        refine dq 12 rfl (fun _ g u h => LWo.indexM (f := e_impl_Entry) e11 u_Limpl_Entry s_impl_Entry u.1 u.2.1 (hn := .nil (zn g))) ?_
        refine dq 13 rfl (fun _ g u h => LWo.fieldAddr _ u_impl_Entry rfl s_int u.1 rfl (hn := .nil (zn g))) ?_
        refine dq 14 rfl (fun _ g u h => LWo.load1 (c := (e_int x11.Time)) g_int u.1 (hn := .nil (zn g))) ?_
        refine dq 15 rfl (fun _ g u h => LWo.vcall rfl (av3 u.1 rfl rfl) (c_spec_l1In _ _ _ _ e12) (.same (.same (.same (.nil)))) (hn := .nil (zn g))) ?_
        refine dq 16 rfl (fun _ g u h => LWo.not u.1 (hn := .nil (zn g))) ?_
        refine dq 17 rfl (fun _ g u h => LWo.move (e_bool (!x12)) u.1 (hn := .nil (zn g))) ?_
        refine dq 18 rfl (fun _ g u h => LWo.guardY (t := 17) u.2.1 h13 rfl rfl (LWo.move (e_Limpl_Entry t0) u.1 (hn := .nil (zn g)))) ?_
        refine dq 19 rfl (fun _ g u h => LWo.guardY (t := 17) u.2.1 h13 rfl rfl (LWo.move (e_int t3) u.1 (hn := .nil (zn g)))) ?_
        refine dq 20 rfl (fun _ g u h => LWo.guardY (t := 17) u.1 h13 rfl rfl (LWo.indexM (f := e_impl_Entry) e14 u_Limpl_Entry s_impl_Entry u.2.1 u.2.2.1 (hn := .nil (zn g)))) ?_
        refine dq 21 rfl (fun _ g u h => LWo.guardY (t := 17) u.1 h13 rfl rfl (LWo.fieldAddr _ u_impl_Entry rfl s_Limpl_Write u.2.1 rfl (hn := .nil (zn g)))) ?_
        refine dq 22 rfl (fun _ g u h => LWo.guardY (t := 17) u.1 h13 rfl rfl (LWo.load1 (c := (e_Limpl_Write x14.Writes)) g_Limpl_Write u.2.1 (hn := .nil (zn g)))) ?_
        refine dq 23 rfl (fun _ g u h => LWo.guardY (t := 17) u.1 h13 rfl rfl (LWo.vcall rfl (av1 u.2.1) (c_spec_WritesOk _ _ e15) (.same (.nil)) (hn := .nil (zn g)))) ?_
        refine dq 24 rfl (fun _ g u h => LWo.guardY (t := 17) u.1 h13 rfl rfl (LWo.not u.2.1 (hn := .nil (zn g)))) ?_
        refine dq 25 rfl (fun _ g u h => LWo.pickFM (e_bool (!x15)) u.1 h13 u.2.1 (hn := .nil (zn g))) ?_
        refine dq 26 rfl (fun _ g u h => LWo.move (e_bool (!x15)) u.1 (hn := .nil (zn g))) ?_
        refine dq 27 rfl (fun _ g u h => LWo.guardY (t := 26) u.2.1 h16 rfl rfl (LWo.move (e_int t3) u.1 (hn := .nil (zn g)))) ?_
        refine dq 28 rfl (fun _ g u h => LWo.guardY (t := 26) u.1 h16 rfl rfl (LWo.int _ u.2.1 rfl rfl (hn := .nil (zn g)))) ?_
        refine dq 29 rfl (fun _ g u h => LWo.guardY (t := 26) u.1 h16 rfl rfl (LWo.move (e_bool (decide (t3 > (0 : Int)))) u.2.1 (hn := .nil (zn g)))) ?_
        refine dq 30 rfl (fun _ g u h => LWo.guardNU (t := 29) u.2.1 h17 rfl rfl rfl rfl rfl (.nil (zn g))) ?_
        refine dq 31 rfl (fun _ g u h => LWo.guardNU (t := 29) u.2.1 h17 rfl rfl rfl rfl rfl (.nil (zn g))) ?_
        refine dq 32 rfl (fun _ g u h => LWo.guardNU (t := 29) u.1 h17 rfl rfl rfl rfl rfl (.nil (zn g))) ?_
        refine dq 33 rfl (fun _ g u h => LWo.guardNU (t := 29) u.1 h17 rfl rfl rfl rfl rfl (.nil (zn g))) ?_
        refine dq 34 rfl (fun _ g u h => LWo.guardNU (t := 29) u.1 h17 rfl rfl rfl rfl rfl (.nil (zn g))) ?_
        refine dq 35 rfl (fun _ g u h => LWo.guardNU (t := 29) u.1 h17 rfl rfl rfl rfl rfl (.nil (zn g))) ?_
        refine dq 36 rfl (fun _ g u h => LWo.guardNU (t := 29) u.2.1 h17 rfl rfl rfl rfl rfl (.nil (zn g))) ?_
        refine dq 37 rfl (fun _ g u h => LWo.guardNU (t := 29) u.2.1 h17 rfl rfl rfl rfl rfl (.nil (zn g))) ?_
        refine dq 38 rfl (fun _ g u h => LWo.guardNU (t := 29) u.1 h17 rfl rfl rfl rfl rfl (.nil (zn g))) ?_
        refine dq 39 rfl (fun _ g u h => LWo.guardNU (t := 29) u.1 h17 rfl rfl rfl rfl rfl (.nil (zn g))) ?_
        refine dq 40 rfl (fun _ g u h => LWo.guardNU (t := 29) u.1 h17 rfl rfl rfl rfl rfl (.nil (zn g))) ?_
        refine dq 41 rfl (fun _ g u h => LWo.guardNU (t := 29) u.1 h17 rfl rfl rfl rfl rfl (.nil (zn g))) ?_
        refine dq 42 rfl (fun _ g u h => LWo.guardY (t := 26) u.1 h16 rfl rfl (LWo.pickFM (e_bool false) u.2.1 h17 rfl (hn := .nil (zn g)))) ?_
        refine dq 43 rfl (fun _ g u h => LWo.pickFM (e_bool false) u.1 h16 u.2.1 (hn := .nil (zn g))) ?_
        refine ⟨rfl, by kernel_rfl, hN10 (t0, t3, false) _ ⟨rfl, rfl, rfl, trivial⟩ trivial h⟩
   ·have h := bF h8 h
    refine LWP.exit (hN2 t0 _ ⟨rfl, trivial⟩ trivial h)

def m_spec_l3Own (a0 : (List S_impl_Value)) : Option (List S_impl_Value) :=
  (app? ([] : (List S_impl_Value)) a0).bind fun x3 =>
  some x3
theorem c_spec_l3Own (a0 : (List S_impl_Value)) (r : (List S_impl_Value)) (h : m_spec_l3Own a0 = some r) : Ret Try.prog f_spec_l3Own [e_Limpl_Value a0] (.nw 3 (r.map e_impl_Value) false) := by
  refine Does.goG [] F_spec_l3Own rfl e_spec_l3Own n_spec_l3Own rfl (rvs := [.tmp 2]) rfl rfl ?_
  intro w0 ok0 lent ρ0
  refine LWP.seq_k fun N1 hN1 => ?_
  refine LWP.region (l := [_]) ?_
  refine LWo.assign _ rfl (hn := ?_)
  refine LWo.ownNil 2 1002 3 rfl rfl rfl ?_
  refine LWo.known 2 (.own 1002 0 ([] : (List S_impl_Value)).length) rfl ?_
  refine LWo.nil (hN1 _ ?_)
  refine LWP.seq_k fun N2 hN2 => ?_
  refine LWP.region (l := [_,_,_,_]) ?_
  refine LWo.lit0 1003 u_Limpl_Value s_impl_Value z_impl_Value (hn := ?_)
  refine LWo.known 3 (.own 1003 0 ([] : (List S_impl_Value)).length) rfl ?_
  refine LWo.move (e_Limpl_Value a0) rfl (hn := ?_)
  refine bk h fun x3 e3 h => ?_
  refine LWo.appendM (f := e_impl_Value) e3 rfl u_Limpl_Value u_Limpl_Value (fun _ h => by cases h) s_impl_Value i_impl_Value rfl rfl rfl (.sl rfl) rfl rfl (hn := ?_)
  refine LWo.assign (.own 1003 0 (x3).length) rfl (hn := ?_)
  refine LWo.nil (hN2 _ ?_)
  obtain rfl := Option.some.inj h
  refine LWP.ret (QG.mk (.inr rfl) (.cons (.tmp (x := (.own 1003 0 (x3).length)) rfl) (.nil)) (RetOK.one0 (.nwM rfl rfl) (by decide)) rfl rfl)

def m_spec_l14Writes_j1 (o1006 : (List S_impl_Write)) : Option (List S_impl_Write) :=
  some o1006
def m_spec_l14Writes_l1 : Nat → (List S_impl_Write) → Int → (List S_impl_Write) → Option (List S_impl_Write)
  | 0, _, _, _ => none
  | n1 + 1, t0, t4, o1006 =>
    bif decide (t4 < (t0.length : Int)) then ((at? t0 t4).bind fun x12 =>
    lt (x12) fun y13 =>
    (m_spec_l3Own y13.Row).bind fun x15 =>
    lt ({ y13 with Row := x15 }) fun y16 =>
    (app? o1006 ([y16] : (List S_impl_Write))).bind fun x17 =>
    (ckI (t4 + (1 : Int))).bind fun x18 =>
    (m_spec_l14Writes_l1  n1) t0 x18 x17)
    else (m_spec_l14Writes_j1  o1006)
def m_spec_l14Writes (a0 : (List S_impl_Write)) : Option (List S_impl_Write) :=
  m_spec_l14Writes_l1  (((a0.length : Int) - (0 : Int)).toNat + 1) a0 (0 : Int) ([] : (List S_impl_Write))
theorem c_spec_l14Writes (a0 : (List S_impl_Write)) (r : (List S_impl_Write)) (h : m_spec_l14Writes a0 = some r) : Ret Try.prog f_spec_l14Writes [e_Limpl_Write a0] (.nw 3 (r.map e_impl_Write) false) := by
  refine Does.goG [] F_spec_l14Writes rfl e_spec_l14Writes n_spec_l14Writes rfl (rvs := [.tmp 2]) rfl rfl ?_
  intro w0 ok0 lent ρ0
  refine LWP.seq_k fun N1 hN1 => ?_
  refine LWP.region (l := [_]) ?_
  refine LWo.assign _ rfl (hn := ?_)
  refine LWo.ownNil 2 1002 3 rfl rfl rfl ?_
  refine LWo.known 2 (.own 1002 0 ([] : (List S_impl_Write)).length) rfl ?_
  refine LWo.nil (hN1 _ ?_)
  refine LWP.seq_k fun N2 hN2 => ?_
  refine LWP.region (l := [_,_]) ?_
  refine LWo.lit0 1006 u_Limpl_Write s_impl_Write z_impl_Write (hn := ?_)
  refine LWo.known 6 (.own 1006 0 ([] : (List S_impl_Write)).length) rfl ?_
  refine LWo.assign (.own 1006 0 (([] : (List S_impl_Write))).length) rfl (hn := ?_)
  refine LWo.nil (hN2 _ ?_)
  refine LWP.join (α := (List S_impl_Write)) (fun z : (List S_impl_Write) => [(3, (.own 1006 0 (z).length))]) (fun z : (List S_impl_Write) => [(1006, (lob 3 e_impl_Write z))]) (fun z : (List S_impl_Write) => m_spec_l14Writes_j1  z) r (fun _ => by simp [hkeys]) ?_ ?_
  ·rintro o1006 h
   replace h : m_spec_l14Writes_j1  o1006 = some _ := h
   refine LWP.seq_k fun N19 hN19 => ?_
   refine LWP.region (l := [_,_]) ?_
   refine LWo.move (.own 1006 0 (o1006).length) rfl (hn := ?_)
   refine LWo.assign (.own 1006 0 (o1006).length) rfl (hn := ?_)
   refine LWo.nil (hN19 _ ?_)
   obtain rfl := Option.some.inj h
   refine LWP.ret (QG.mk (.inr rfl) (.cons (.tmp (x := (.own 1006 0 (o1006).length)) rfl) (.nil)) (RetOK.one0 (.nwM rfl rfl) (by decide)) rfl rfl)
  ·intro N3 hN3
   refine LWP.seq_k fun N4 hN4 => ?_
   refine LWP.region (l := [_]) ?_
   refine LWo.assign (e_int (0 : Int)) rfl (hn := ?_)
   refine LWo.nil (hN4 _ ?_)
   refine LWP.block ?_
   refine LWP.loopM (α := (List S_impl_Write) × Int × (List S_impl_Write)) (fun z : (List S_impl_Write) × Int × (List S_impl_Write) => [(0, (e_Limpl_Write z.1)), (3, (.own 1006 0 (z.2.2).length)), (4, (e_int z.2.1))]) (fun z : (List S_impl_Write) × Int × (List S_impl_Write) => [(1006, (lob 3 e_impl_Write z.2.2))]) (fun n1 (z : (List S_impl_Write) × Int × (List S_impl_Write)) => m_spec_l14Writes_l1  n1 z.1 z.2.1 z.2.2) r _ (a0, (0 : Int), ([] : (List S_impl_Write))) h (fun _ => rfl) (fun _ => by simp [hkeys]) ⟨rfl, rfl, rfl, trivial⟩ ⟨rfl, trivial⟩ ?_
   rintro n1 ⟨t0, t4, o1006⟩ h N5 hN5
   replace h : m_spec_l14Writes_l1  (n1 + 1) t0 t4 o1006 = some _ := h
   refine LWP.seq_k fun N7 hN7 => ?_
   refine LWP.seq_k fun N8 hN8 => ?_
   refine LWP.region (l := [_,_,_,_]) ?_
   refine LWo.move (e_int t4) rfl (hn := ?_)
   refine LWo.move (e_Limpl_Write t0) rfl (hn := ?_)
   refine LWo.lenM (f := e_impl_Write) (l := t0) u_Limpl_Write rfl (hn := ?_)
   refine LWo.int _ rfl rfl rfl (hn := ?_)
   refine LWo.nil (hN8 _ ?_)
   refine LWP.cond_split rfl (fun h9 => ?_) (fun h9 => ?_)
   ·have h := bT h9 h
    refine LWP.skip (hN7 _ ?_)
    refine LWP.seq_k fun N10 hN10 => ?_
    refine LWP.block ?_
    refine LWP.seq_k fun N11 hN11 => ?_
    refine LWP.region (l := [_,_,_,_,_,_]) ?_
    refine LWo.move (e_Limpl_Write t0) rfl (hn := ?_)
    refine LWo.move (e_int t4) rfl (hn := ?_)
    refine bk h fun x12 e12 h => ?_
    refine LWo.indexM (f := e_impl_Write) e12 u_Limpl_Write s_impl_Write rfl rfl (hn := ?_)
    refine LWo.loadN ((e_impl_Write x12)).cells g_impl_Write s_impl_Write rfl (Nat.le_of_ble_eq_true rfl) rfl (hn := ?_)
    refine LWo.alloc_impl_Write 5 rfl (hn := ?_)
    refine lk h fun y13 e13 h => ?_
    refine LWo.storeW (y := (⟨(0 : Int), [], false⟩ : S_impl_Write)) y13 s_impl_Write rfl rfl rfl rfl rfl rfl (by rw [e13]; exact .refl) rfl (hn := ?_)
    refine LWo.nil (hN11 _ ?_)
    refine LWP.seq_k fun N14 hN14 => ?_
    refine LWP.region (l := [_,_,_,_,_]) ?_
    refine LWo.fieldPtr u_impl_Write rfl s_Limpl_Value rfl rfl (hn := ?_)
    refine LWo.loadV1 (e_Limpl_Value y13.Row)  g_Limpl_Value rfl rfl rfl (hn := ?_)
    refine bk h fun x15 e15 h => ?_
    refine LWo.vcall rfl rfl (c_spec_l3Own _ _ e15) (.same (.nil)) (hn := ?_)
    refine LWo.fieldPtr u_impl_Write rfl s_Limpl_Value rfl rfl (hn := ?_)
    refine lk h fun y16 e16 h => ?_
    refine LWo.storeW (y := y13) y16 s_Limpl_Value rfl rfl rfl rfl rfl rfl (by rw [e16]; exact .refl) rfl (hn := ?_)
    refine LWo.nil (hN14 _ ?_)
    refine LWP.region (l := [_,_,_,_,_]) ?_
    refine LWo.move (.own 1006 0 (o1006).length) rfl (hn := ?_)
    refine LWo.loadVN ((e_impl_Write y16)).cells  g_impl_Write s_impl_Write rfl rfl rfl rfl (hn := ?_)
    refine LWo.lit (ops := [_]) [(e_impl_Write y16)] u_Limpl_Write s_impl_Write z_impl_Write rfl rfl rfl rfl rfl rfl (hn := ?_)
    refine bk h fun x17 e17 h => ?_
    refine LWo.appendM (f := e_impl_Write) e17 rfl u_Limpl_Write u_Limpl_Write (fun _ h => by cases h) s_impl_Write i_impl_Write rfl rfl rfl (.sl rfl) rfl rfl (hn := ?_)
    refine LWo.assign (.own 1006 0 (x17).length) rfl (hn := ?_)
    refine LWo.nil (hN10 _ ?_)
    refine LWP.region (l := [_,_,_]) ?_
    refine LWo.move (e_int t4) rfl (hn := ?_)
    refine bk h fun x18 e18 h => ?_
    refine LWo.int _ rfl rfl (add_ck e18) (hn := ?_)
    refine LWo.assign (e_int x18) rfl (hn := ?_)
    refine LWo.nil (hN5 (t0, x18, x17) _ ⟨rfl, rfl, rfl, trivial⟩ ⟨rfl, trivial⟩ h)
   ·have h := bF h9 h
    refine LWP.exit (hN3 o1006 _ ⟨rfl, trivial⟩ ⟨rfl, trivial⟩ h)

def m_spec_l18Copy_j1 (o1005 : (List S_impl_Entry)) : Option (List S_impl_Entry) :=
  some o1005
def m_spec_l18Copy_l1 : Nat → (List S_impl_Entry) → Int → (List S_impl_Entry) → Option (List S_impl_Entry)
  | 0, _, _, _ => none
  | n1 + 1, t0, t4, o1005 =>
    bif decide (t4 < (t0.length : Int)) then ((at? t0 t4).bind fun x11 =>
    (at? t0 t4).bind fun x12 =>
    (m_spec_l14Writes x12.Writes).bind fun x13 =>
    (app? o1005 ([(⟨x11.Time, x13⟩ : S_impl_Entry)] : (List S_impl_Entry))).bind fun x14 =>
    (ckI (t4 + (1 : Int))).bind fun x15 =>
    (m_spec_l18Copy_l1  n1) t0 x15 x14)
    else (m_spec_l18Copy_j1  o1005)
def m_spec_l18Copy (a0 : (List S_impl_Entry)) : Option (List S_impl_Entry) :=
  m_spec_l18Copy_l1  (((a0.length : Int) - (0 : Int)).toNat + 1) a0 (0 : Int) ([] : (List S_impl_Entry))
theorem c_spec_l18Copy (a0 : (List S_impl_Entry)) (r : (List S_impl_Entry)) (h : m_spec_l18Copy a0 = some r) : Ret Try.prog f_spec_l18Copy [e_Limpl_Entry a0] (.nw 2 (r.map e_impl_Entry) false) := by
  refine Does.goG [] F_spec_l18Copy rfl e_spec_l18Copy n_spec_l18Copy rfl (rvs := [.tmp 2]) rfl rfl ?_
  intro w0 ok0 lent ρ0
  refine LWP.seq_k fun N1 hN1 => ?_
  refine LWP.region (l := [_]) ?_
  refine LWo.assign _ rfl (hn := ?_)
  refine LWo.ownNil 2 1002 2 rfl rfl rfl ?_
  refine LWo.known 2 (.own 1002 0 ([] : (List S_impl_Entry)).length) rfl ?_
  refine LWo.nil (hN1 _ ?_)
  refine LWP.seq_k fun N2 hN2 => ?_
  refine LWP.region (l := [_,_]) ?_
  refine LWo.lit0 1005 u_Limpl_Entry s_impl_Entry z_impl_Entry (hn := ?_)
  refine LWo.known 5 (.own 1005 0 ([] : (List S_impl_Entry)).length) rfl ?_
  refine LWo.assign (.own 1005 0 (([] : (List S_impl_Entry))).length) rfl (hn := ?_)
  refine LWo.nil (hN2 _ ?_)
  refine LWP.join (α := (List S_impl_Entry)) (fun z : (List S_impl_Entry) => [(3, (.own 1005 0 (z).length))]) (fun z : (List S_impl_Entry) => [(1005, (lob 2 e_impl_Entry z))]) (fun z : (List S_impl_Entry) => m_spec_l18Copy_j1  z) r (fun _ => by simp [hkeys]) ?_ ?_
  ·rintro o1005 h
   replace h : m_spec_l18Copy_j1  o1005 = some _ := h
   refine LWP.seq_k fun N16 hN16 => ?_
   refine LWP.region (l := [_,_]) ?_
   refine LWo.move (.own 1005 0 (o1005).length) rfl (hn := ?_)
   refine LWo.assign (.own 1005 0 (o1005).length) rfl (hn := ?_)
   refine LWo.nil (hN16 _ ?_)
   obtain rfl := Option.some.inj h
   refine LWP.ret (QG.mk (.inr rfl) (.cons (.tmp (x := (.own 1005 0 (o1005).length)) rfl) (.nil)) (RetOK.one0 (.nwM rfl rfl) (by decide)) rfl rfl)
  ·intro N3 hN3
   refine LWP.seq_k fun N4 hN4 => ?_
   refine LWP.region (l := [_]) ?_
   refine LWo.assign (e_int (0 : Int)) rfl (hn := ?_)
   refine LWo.nil (hN4 _ ?_)
   refine LWP.block ?_
   refine LWP.loopM (α := (List S_impl_Entry) × Int × (List S_impl_Entry)) (fun z : (List S_impl_Entry) × Int × (List S_impl_Entry) => [(0, (e_Limpl_Entry z.1)), (3, (.own 1005 0 (z.2.2).length)), (4, (e_int z.2.1))]) (fun z : (List S_impl_Entry) × Int × (List S_impl_Entry) => [(1005, (lob 2 e_impl_Entry z.2.2))]) (fun n1 (z : (List S_impl_Entry) × Int × (List S_impl_Entry)) => m_spec_l18Copy_l1  n1 z.1 z.2.1 z.2.2) r _ (a0, (0 : Int), ([] : (List S_impl_Entry))) h (fun _ => rfl) (fun _ => by simp [hkeys]) ⟨rfl, rfl, rfl, trivial⟩ ⟨rfl, trivial⟩ ?_
   rintro n1 ⟨t0, t4, o1005⟩ h N5 hN5
   replace h : m_spec_l18Copy_l1  (n1 + 1) t0 t4 o1005 = some _ := h
   refine LWP.seq_k fun N7 hN7 => ?_
   refine LWP.seq_k fun N8 hN8 => ?_
   refine LWP.region (l := [_,_,_,_]) ?_
   refine LWo.move (e_int t4) rfl (hn := ?_)
   refine LWo.move (e_Limpl_Entry t0) rfl (hn := ?_)
   refine LWo.lenM (f := e_impl_Entry) (l := t0) u_Limpl_Entry rfl (hn := ?_)
   refine LWo.int _ rfl rfl rfl (hn := ?_)
   refine LWo.nil (hN8 _ ?_)
   refine LWP.cond_split rfl (fun h9 => ?_) (fun h9 => ?_)
   ·have h := bT h9 h
    refine LWP.skip (hN7 _ ?_)
    refine LWP.seq_k fun N10 hN10 => ?_
    refine LWP.block ?_
    refine bk h fun x11 e11 h => ?_
    refine bk h fun x12 e12 h => ?_
    refine bk h fun x13 e13 h => ?_
    refine bk h fun x14 e14 h => ?_
    refine LWP.drawF (l := [_,_,_,_,_,_,_,_,_,_,_,_,_,_,_,_]) [1005] [0, 3, 4] [([3], []), ([0], []), ([4], []), ([13, 14], []), ([15], []), ([16], []), ([0], []), ([4], []), ([18, 19], []), ([20], []), ([21], []), ([22], []), ([17, 23], []), ([24], []), ([12, 25], [1005]), ([26], [])] [0, 3, 4] [1005] mixed (by kernel_rfl) rfl (by decide) ?_
    refine dq 12 rfl (fun _ g u h => LWo.move (.own 1005 0 (o1005).length) u.1 (hn := .nil (zn g))) ?_
    refine dq 13 rfl (fun _ g u h => LWo.move (e_Limpl_Entry t0) u.1 (hn := .nil (zn g))) ?_
    refine dq 14 rfl (fun _ g u h => LWo.move (e_int t4) u.1 (hn := .nil (zn g))) ?_
    refine dq 15 rfl (fun _ g u h => LWo.indexM (f := e_impl_Entry) e11 u_Limpl_Entry s_impl_Entry u.1 u.2.1 (hn := .nil (zn g))) ?_
    refine dq 16 rfl (fun _ g u h => LWo.fieldAddr _ u_impl_Entry rfl s_int u.1 rfl (hn := .nil (zn g))) ?_
    refine dq 17 rfl (fun _ g u h => LWo.load1 (c := (e_int x11.Time)) g_int u.1 (hn := .nil (zn g))) ?_
    refine dq 18 rfl (fun _ g u h => LWo.move (e_Limpl_Entry t0) u.1 (hn := .nil (zn g))) ?_
    refine dq 19 rfl (fun _ g u h => LWo.move (e_int t4) u.1 (hn := .nil (zn g))) ?_
    refine dq 20 rfl (fun _ g u h => LWo.indexM (f := e_impl_Entry) e12 u_Limpl_Entry s_impl_Entry u.1 u.2.1 (hn := .nil (zn g))) ?_
    refine dq 21 rfl (fun _ g u h => LWo.fieldAddr _ u_impl_Entry rfl s_Limpl_Write u.1 rfl (hn := .nil (zn g))) ?_
    refine dq 22 rfl (fun _ g u h => LWo.load1 (c := (e_Limpl_Write x12.Writes)) g_Limpl_Write u.1 (hn := .nil (zn g))) ?_
    refine dq 23 rfl (fun _ g u h => LWo.vcall rfl (av1 u.1) (c_spec_l14Writes _ _ e13) (.same (.nil)) (hn := .nil (zn g))) ?_
    refine dq 24 rfl (fun _ g u h => LWo.build_impl_Entry (parts := [_, _]) (⟨x11.Time, x13⟩ : S_impl_Entry) (pv2 u.1 u.2.1) rfl rfl .refl (hn := .nil (zn g))) ?_
    refine dq 25 rfl (fun _ g u h => LWo.lit (ops := [_]) [(e_impl_Entry (⟨x11.Time, x13⟩ : S_impl_Entry))] u_Limpl_Entry s_impl_Entry z_impl_Entry (lv1 u.1) rfl rfl rfl rfl rfl (hn := .nil (zn g))) ?_
    refine ⟨rfl, .make 26 _ 1005 _, (by exact (goodC rfl goodN)), fun _ g u h => LWo.appendM (f := e_impl_Entry) e14 rfl u_Limpl_Entry u_Limpl_Entry (fun _ h => by cases h) s_impl_Entry i_impl_Entry rfl u.1 h.1 (.sl u.2.1) (lone_of g rfl) rfl (hn := LWo.nil ⟨rfl, .inl rfl, Ef.good_ok (e := .make 26 _ 1005 _) (by exact (goodC rfl goodN)) g⟩), ?_⟩
    refine dq 3 rfl (fun _ g u h => LWo.assign (.own 1005 0 (x14).length) u.1 (hn := .nil (zn g))) ?_
    refine ⟨rfl, by kernel_rfl, hN10 _ ?_⟩
    refine LWP.region (l := [_,_,_]) ?_
    refine LWo.move (e_int t4) rfl (hn := ?_)
    refine bk h fun x15 e15 h => ?_
    refine LWo.int _ rfl rfl (add_ck e15) (hn := ?_)
    refine LWo.assign (e_int x15) rfl (hn := ?_)
    refine LWo.nil (hN5 (t0, x15, x14) _ ⟨rfl, rfl, rfl, trivial⟩ ⟨rfl, trivial⟩ h)
   ·have h := bF h9 h
    refine LWP.exit (hN3 o1005 _ ⟨rfl, trivial⟩ ⟨rfl, trivial⟩ h)
end Go.Proofs.Ytijihchddhikhaa
