/- Mirrors of functions, and that the functions return what the mirrors say. -/
import Derived.Test.YtkgmomocjkmipaaXW4
set_option linter.unusedVariables false
set_option linter.unusedSimpArgs false
set_option linter.unnecessarySimpa false
namespace Go.Proofs.Ytkgmomocjkmipaa
open Go.Proofs Go.Lift Go.RowKit
def m_impl_logRun_j1 (t0 : (List S_impl_Version)) : Option (List S_impl_Version) :=
  (m_impl_versionsCopy t0).bind fun x16 =>
  some x16
def m_impl_logRun_l1 : Nat → (List S_impl_Version) → (List S_impl_Entry) → Int → Int → Option (List S_impl_Version)
  | 0, _, _, _, _ => none
  | n1 + 1, t0, t7, t8, t9 =>
    bif decide (t9 < t8) then ((at? t7 t9).bind fun x11 =>
    lt (x11) fun y12 =>
    (m_impl_written t0 y12.Writes y12.Time).bind fun x13 =>
    (ckI (t9 + (1 : Int))).bind fun x14 =>
    (m_impl_logRun_l1  n1) x13 t7 t8 x14)
    else (m_impl_logRun_j1  t0)
def m_impl_logRun (a0 : (List S_impl_Version)) (a1 : (List S_impl_Entry)) : Option (List S_impl_Version) :=
  m_impl_logRun_l1  (((a1.length : Int) - (0 : Int)).toNat + 1) a0 a1 (a1.length : Int) (0 : Int)
theorem c_impl_logRun (a0 : (List S_impl_Version)) (a1 : (List S_impl_Entry)) (r : (List S_impl_Version)) (h : m_impl_logRun a0 a1 = some r) : Ret Try.prog f_impl_logRun [e_Limpl_Version a0, e_Limpl_Entry a1] (.nw 4 (r.map e_impl_Version) true) := by
  refine Does.goG [] F_impl_logRun rfl e_impl_logRun n_impl_logRun rfl (rvs := [.tmp 4]) rfl rfl ?_
  intro w0 ok0 lent ρ0
  refine LWP.seq_k fun N1 hN1 => ?_
  refine LWP.region (l := [_]) ?_
  refine LWo.assign _ rfl (hn := ?_)
  refine LWo.ownNil 4 1004 4 rfl rfl rfl ?_
  refine LWo.known 4 (.own 1004 0 ([] : (List S_impl_Version)).length) rfl ?_
  refine LWo.nil (hN1 _ ?_)
  refine LWP.join (α := (List S_impl_Version)) (fun z : (List S_impl_Version) => [(0, (e_Limpl_Version z))]) (fun z : (List S_impl_Version) => []) (fun z : (List S_impl_Version) => m_impl_logRun_j1  z) r (fun _ => by simp [hkeys]) ?_ ?_
  ·rintro t0 h
   replace h : m_impl_logRun_j1  t0 = some _ := h
   refine LWP.seq_k fun N15 hN15 => ?_
   refine LWP.region (l := [_,_,_]) ?_
   refine LWo.move (e_Limpl_Version t0) rfl (hn := ?_)
   refine bk h fun x16 e16 h => ?_
   refine LWo.ncallD (e := e_impl_Version) 1021 rfl rfl (c_impl_versionsCopy _ _ e16) (.same (.nil)) rfl (hn := ?_)
   refine LWo.assign (.own 1021 0 (x16).length) rfl (hn := ?_)
   refine LWo.nil (hN15 _ ?_)
   obtain rfl := Option.some.inj h
   refine LWP.ret (QG.mk (.inr rfl) (.cons (.tmp (x := (.own 1021 0 (x16).length)) rfl) (.nil)) (RetOK.one0 (.nwD rfl rfl) (by decide)) rfl rfl)
  ·intro N2 hN2
   refine LWP.seq_k fun N3 hN3 => ?_
   refine LWP.region (l := [_,_,_]) ?_
   refine LWo.move (e_Limpl_Entry a1) rfl (hn := ?_)
   refine LWo.lenM (f := e_impl_Entry) (l := a1) u_Limpl_Entry rfl (hn := ?_)
   refine LWo.move (e_int (0 : Int)) rfl (hn := ?_)
   refine LWo.nil (hN3 _ ?_)
   refine LWP.block ?_
   refine LWP.loopM (α := (List S_impl_Version) × (List S_impl_Entry) × Int × Int) (fun z : (List S_impl_Version) × (List S_impl_Entry) × Int × Int => [(0, (e_Limpl_Version z.1)), (7, (e_Limpl_Entry z.2.1)), (8, (e_int z.2.2.1)), (9, (e_int z.2.2.2))]) (fun z : (List S_impl_Version) × (List S_impl_Entry) × Int × Int => []) (fun n1 (z : (List S_impl_Version) × (List S_impl_Entry) × Int × Int) => m_impl_logRun_l1  n1 z.1 z.2.1 z.2.2.1 z.2.2.2) r _ (a0, a1, (a1.length : Int), (0 : Int)) h (fun _ => rfl) (fun _ => by simp [hkeys]) ⟨rfl, rfl, rfl, rfl, trivial⟩ trivial ?_
   rintro n1 ⟨t0, t7, t8, t9⟩ h N4 hN4
   replace h : m_impl_logRun_l1  (n1 + 1) t0 t7 t8 t9 = some _ := h
   refine LWP.seq_k fun N6 hN6 => ?_
   refine LWP.region (l := [_]) ?_
   refine LWo.int _ rfl rfl rfl (hn := ?_)
   refine LWo.nil (hN6 _ ?_)
   refine LWP.seq_k fun N7 hN7 => ?_
   refine LWP.cond_split rfl (fun h8 => ?_) (fun h8 => ?_)
   ·have h := bT h8 h
    refine LWP.skip (hN7 _ ?_)
    refine LWP.seq_k fun N9 hN9 => ?_
    refine LWP.block ?_
    refine LWP.seq_k fun N10 hN10 => ?_
    refine LWP.region (l := [_,_,_,_]) ?_
    refine bk h fun x11 e11 h => ?_
    refine LWo.indexM (f := e_impl_Entry) e11 u_Limpl_Entry s_impl_Entry rfl rfl (hn := ?_)
    refine LWo.loadN ((e_impl_Entry x11)).cells g_impl_Entry s_impl_Entry rfl (Nat.le_of_ble_eq_true rfl) rfl (hn := ?_)
    refine LWo.alloc_impl_Entry 6 rfl (hn := ?_)
    refine lk h fun y12 e12 h => ?_
    refine LWo.storeW (y := (⟨(0 : Int), []⟩ : S_impl_Entry)) y12 s_impl_Entry rfl rfl rfl rfl rfl rfl (by rw [e12]; exact .refl) rfl (hn := ?_)
    refine LWo.nil (hN10 _ ?_)
    refine LWP.region (l := [_,_,_,_,_,_,_]) ?_
    refine LWo.move (e_Limpl_Version t0) rfl (hn := ?_)
    refine LWo.fieldPtr u_impl_Entry rfl s_Limpl_Write rfl rfl (hn := ?_)
    refine LWo.loadV1 (e_Limpl_Write y12.Writes)  g_Limpl_Write rfl rfl rfl (hn := ?_)
    refine LWo.fieldPtr u_impl_Entry rfl s_int rfl rfl (hn := ?_)
    refine LWo.loadV1 (e_int y12.Time)  g_int rfl rfl rfl (hn := ?_)
    refine bk h fun x13 e13 h => ?_
    refine LWo.vcall rfl rfl (c_impl_written _ _ _ _ e13) (.same (.same (.same (.nil)))) (hn := ?_)
    refine LWo.assign (e_Limpl_Version x13) rfl (hn := ?_)
    refine LWo.nil (hN9 _ ?_)
    refine LWP.region (l := [_,_]) ?_
    refine bk h fun x14 e14 h => ?_
    refine LWo.int _ rfl rfl (add_ck e14) (hn := ?_)
    refine LWo.move (e_int x14) rfl (hn := ?_)
    refine LWo.nil (hN4 (x13, t7, t8, x14) _ ⟨rfl, rfl, rfl, rfl, trivial⟩ trivial h)
   ·have h := bF h8 h
    refine LWP.exit (hN2 t0 _ ⟨rfl, trivial⟩ trivial h)

def m_impl_LogRun (a0 : (List S_impl_Entry)) : Option (List S_impl_Version) :=
  (m_impl_LogOk a0).bind fun x4 =>
  bif (!x4) then (some ([] : (List S_impl_Version)))
  else ((m_impl_logRun ([] : (List S_impl_Version)) a0).bind fun x8 =>
  some x8)
theorem c_impl_LogRun (a0 : (List S_impl_Entry)) (r : (List S_impl_Version)) (h : m_impl_LogRun a0 = some r) : Ret Try.prog f_impl_LogRun [e_Limpl_Entry a0] (.nw 4 (r.map e_impl_Version) true) := by
  refine Does.goG [] F_impl_LogRun rfl e_impl_LogRun n_impl_LogRun rfl (rvs := [.tmp 2]) rfl rfl ?_
  intro w0 ok0 lent ρ0
  refine LWP.seq_k fun N1 hN1 => ?_
  refine LWP.region (l := [_]) ?_
  refine LWo.assign _ rfl (hn := ?_)
  refine LWo.ownNil 2 1002 4 rfl rfl rfl ?_
  refine LWo.known 2 (.own 1002 0 ([] : (List S_impl_Version)).length) rfl ?_
  refine LWo.nil (hN1 _ ?_)
  refine LWP.seq_k fun N2 hN2 => ?_
  refine LWP.seq_k fun N3 hN3 => ?_
  refine LWP.region (l := [_,_,_]) ?_
  refine LWo.move (e_Limpl_Entry a0) rfl (hn := ?_)
  refine bk h fun x4 e4 h => ?_
  refine LWo.vcall rfl rfl (c_impl_LogOk _ _ e4) (.same (.nil)) (hn := ?_)
  refine LWo.not rfl (hn := ?_)
  refine LWo.nil (hN3 _ ?_)
  refine LWP.cond_split rfl (fun h5 => ?_) (fun h5 => ?_)
  ·have h := bT h5 h
   refine LWP.seq_k fun N6 hN6 => ?_
   refine LWP.region (l := [_]) ?_
   refine LWo.assign _ rfl (hn := ?_)
   refine LWo.ownNil 2 1002 4 rfl rfl rfl ?_
   refine LWo.known 2 (.own 1002 0 ([] : (List S_impl_Version)).length) rfl ?_
   refine LWo.nil (hN6 _ ?_)
   obtain rfl := Option.some.inj h
   refine LWP.ret (QG.mk (.inr rfl) (.cons (.tmp (x := (.own 1002 0 (([] : (List S_impl_Version))).length)) rfl) (.nil)) (RetOK.one0 (.nwE rfl rfl) (by decide)) rfl rfl)
  ·have h := bF h5 h
   refine LWP.skip (hN2 _ ?_)
   refine LWP.seq_k fun N7 hN7 => ?_
   refine LWP.region (l := [_,_,_]) ?_
   refine LWo.move (e_Limpl_Entry a0) rfl (hn := ?_)
   refine bk h fun x8 e8 h => ?_
   refine LWo.ncallD (e := e_impl_Version) 1007 rfl rfl (c_impl_logRun _ _ _ e8) (.none (.same (.nil))) rfl (hn := ?_)
   refine LWo.assign (.own 1007 0 (x8).length) rfl (hn := ?_)
   refine LWo.nil (hN7 _ ?_)
   obtain rfl := Option.some.inj h
   refine LWP.ret (QG.mk (.inr rfl) (.cons (.tmp (x := (.own 1007 0 (x8).length)) rfl) (.nil)) (RetOK.one0 (.nwD rfl rfl) (by decide)) rfl rfl)

def m_laws_eqValue (a0 : S_impl_Value) (a1 : S_impl_Value) : Option Bool :=
  bif (a0.Kind != a1.Kind) then (some false)
  else (bif (a0.N != a1.N) then (some false)
  else (bif (!(sEq a0.S a1.S)) then (some false)
  else (some true)))
theorem c_laws_eqValue (a0 : S_impl_Value) (a1 : S_impl_Value) (r : Bool) (h : m_laws_eqValue a0 a1 = some r) : Ret Try.prog f_laws_eqValue [e_impl_Value a0, e_impl_Value a1] (e_bool r) := by
  refine Does.goG [] F_laws_eqValue rfl e_laws_eqValue n_laws_eqValue rfl (rvs := [.tmp 4]) rfl rfl ?_
  intro w0 ok0 lent ρ0
  refine LWP.seq_k fun N1 hN1 => ?_
  refine LWP.region (l := [_,_,_]) ?_
  refine LWo.boxF (e_impl_Value a0) rfl rfl rfl (hn := ?_)
  refine LWo.boxF (e_impl_Value a1) rfl rfl rfl (hn := ?_)
  refine LWo.assign (e_bool false) rfl (hn := ?_)
  refine LWo.nil (hN1 _ ?_)
  refine LWP.seq_k fun N2 hN2 => ?_
  refine LWP.seq_k fun N3 hN3 => ?_
  refine LWP.region (l := [_,_,_,_,_]) ?_
  refine LWo.fieldAddr _ u_impl_Value rfl s_int rfl rfl (hn := ?_)
  refine LWo.load1 (c := (e_int a0.Kind)) g_int rfl (hn := ?_)
  refine LWo.fieldAddr _ u_impl_Value rfl s_int rfl rfl (hn := ?_)
  refine LWo.load1 (c := (e_int a1.Kind)) g_int rfl (hn := ?_)
  refine LWo.int _ rfl rfl rfl (hn := ?_)
  refine LWo.nil (hN3 _ ?_)
  refine LWP.cond_split rfl (fun h4 => ?_) (fun h4 => ?_)
  ·have h := bT h4 h
   refine LWP.seq_k fun N5 hN5 => ?_
   refine LWP.region (l := [_]) ?_
   refine LWo.assign (e_bool false) rfl (hn := ?_)
   refine LWo.nil (hN5 _ ?_)
   obtain rfl := Option.some.inj h
   refine LWP.ret (QG.mk (.inr rfl) (.cons (.tmp (x := (e_bool false)) rfl) (.nil)) (RetOK.one0 (.pure rfl) (by decide)) rfl rfl)
  ·have h := bF h4 h
   refine LWP.skip (hN2 _ ?_)
   refine LWP.seq_k fun N6 hN6 => ?_
   refine LWP.seq_k fun N7 hN7 => ?_
   refine LWP.region (l := [_,_,_,_,_]) ?_
   refine LWo.fieldAddr _ u_impl_Value rfl s_int rfl rfl (hn := ?_)
   refine LWo.load1 (c := (e_int a0.N)) g_int rfl (hn := ?_)
   refine LWo.fieldAddr _ u_impl_Value rfl s_int rfl rfl (hn := ?_)
   refine LWo.load1 (c := (e_int a1.N)) g_int rfl (hn := ?_)
   refine LWo.int _ rfl rfl rfl (hn := ?_)
   refine LWo.nil (hN7 _ ?_)
   refine LWP.cond_split rfl (fun h8 => ?_) (fun h8 => ?_)
   ·have h := bT h8 h
    refine LWP.seq_k fun N9 hN9 => ?_
    refine LWP.region (l := [_]) ?_
    refine LWo.assign (e_bool false) rfl (hn := ?_)
    refine LWo.nil (hN9 _ ?_)
    obtain rfl := Option.some.inj h
    refine LWP.ret (QG.mk (.inr rfl) (.cons (.tmp (x := (e_bool false)) rfl) (.nil)) (RetOK.one0 (.pure rfl) (by decide)) rfl rfl)
   ·have h := bF h8 h
    refine LWP.skip (hN6 _ ?_)
    refine LWP.seq_k fun N10 hN10 => ?_
    refine LWP.seq_k fun N11 hN11 => ?_
    refine LWP.region (l := [_,_,_,_,_]) ?_
    refine LWo.fieldAddr _ u_impl_Value rfl s_string rfl rfl (hn := ?_)
    refine LWo.load1 (c := (e_string a0.S)) g_string rfl (hn := ?_)
    refine LWo.fieldAddr _ u_impl_Value rfl s_string rfl rfl (hn := ?_)
    refine LWo.load1 (c := (e_string a1.S)) g_string rfl (hn := ?_)
    refine LWo.str _ rfl rfl rfl (hn := ?_)
    refine LWo.nil (hN11 _ ?_)
    refine LWP.cond_split rfl (fun h12 => ?_) (fun h12 => ?_)
    ·have h := bT h12 h
     refine LWP.seq_k fun N13 hN13 => ?_
     refine LWP.region (l := [_]) ?_
     refine LWo.assign (e_bool false) rfl (hn := ?_)
     refine LWo.nil (hN13 _ ?_)
     obtain rfl := Option.some.inj h
     refine LWP.ret (QG.mk (.inr rfl) (.cons (.tmp (x := (e_bool false)) rfl) (.nil)) (RetOK.one0 (.pure rfl) (by decide)) rfl rfl)
    ·have h := bF h12 h
     refine LWP.skip (hN10 _ ?_)
     refine LWP.seq_k fun N14 hN14 => ?_
     refine LWP.region (l := [_]) ?_
     refine LWo.assign (e_bool true) rfl (hn := ?_)
     refine LWo.nil (hN14 _ ?_)
     obtain rfl := Option.some.inj h
     refine LWP.ret (QG.mk (.inr rfl) (.cons (.tmp (x := (e_bool true)) rfl) (.nil)) (RetOK.one0 (.pure rfl) (by decide)) rfl rfl)

def m_laws_eqValueS_j1  : Option Bool :=
  some true
def m_laws_eqValueS_l1 : Nat → (List S_impl_Value) → (List S_impl_Value) → Int → Option Bool
  | 0, _, _, _ => none
  | n1 + 1, t0, t1, t5 =>
    bif decide (t5 < (t0.length : Int)) then ((at? t0 t5).bind fun x15 =>
    (at? t1 t5).bind fun x16 =>
    (m_laws_eqValue x15 x16).bind fun x17 =>
    bif (!x17) then (some false)
    else ((ckI (t5 + (1 : Int))).bind fun x20 =>
    (m_laws_eqValueS_l1  n1) t0 t1 x20))
    else (m_laws_eqValueS_j1  )
def m_laws_eqValueS (a0 : (List S_impl_Value)) (a1 : (List S_impl_Value)) : Option Bool :=
  bif ((a0.length : Int) != (a1.length : Int)) then (some false)
  else (m_laws_eqValueS_l1  (((a0.length : Int) - (0 : Int)).toNat + 1) a0 a1 (0 : Int))
theorem c_laws_eqValueS (a0 : (List S_impl_Value)) (a1 : (List S_impl_Value)) (r : Bool) (h : m_laws_eqValueS a0 a1 = some r) : Ret Try.prog f_laws_eqValueS [e_Limpl_Value a0, e_Limpl_Value a1] (e_bool r) := by
  refine Does.goG [] F_laws_eqValueS rfl e_laws_eqValueS n_laws_eqValueS rfl (rvs := [.tmp 4]) rfl rfl ?_
  intro w0 ok0 lent ρ0
  refine LWP.seq_k fun N1 hN1 => ?_
  refine LWP.region (l := [_]) ?_
  refine LWo.assign (e_bool false) rfl (hn := ?_)
  refine LWo.nil (hN1 _ ?_)
  refine LWP.seq_k fun N2 hN2 => ?_
  refine LWP.seq_k fun N3 hN3 => ?_
  refine LWP.region (l := [_,_,_,_,_]) ?_
  refine LWo.move (e_Limpl_Value a0) rfl (hn := ?_)
  refine LWo.lenM (f := e_impl_Value) (l := a0) u_Limpl_Value rfl (hn := ?_)
  refine LWo.move (e_Limpl_Value a1) rfl (hn := ?_)
  refine LWo.lenM (f := e_impl_Value) (l := a1) u_Limpl_Value rfl (hn := ?_)
  refine LWo.int _ rfl rfl rfl (hn := ?_)
  refine LWo.nil (hN3 _ ?_)
  refine LWP.cond_split rfl (fun h4 => ?_) (fun h4 => ?_)
  ·have h := bT h4 h
   refine LWP.seq_k fun N5 hN5 => ?_
   refine LWP.region (l := [_]) ?_
   refine LWo.assign (e_bool false) rfl (hn := ?_)
   refine LWo.nil (hN5 _ ?_)
   obtain rfl := Option.some.inj h
   refine LWP.ret (QG.mk (.inr rfl) (.cons (.tmp (x := (e_bool false)) rfl) (.nil)) (RetOK.one0 (.pure rfl) (by decide)) rfl rfl)
  ·have h := bF h4 h
   refine LWP.skip (hN2 _ ?_)
   refine LWP.join (α := Unit) (fun z : Unit => []) (fun z : Unit => []) (fun z : Unit => m_laws_eqValueS_j1  ) r (fun _ => by simp [hkeys]) ?_ ?_
   ·rintro _ h
    replace h : m_laws_eqValueS_j1   = some _ := h
    refine LWP.seq_k fun N21 hN21 => ?_
    refine LWP.region (l := [_]) ?_
    refine LWo.assign (e_bool true) rfl (hn := ?_)
    refine LWo.nil (hN21 _ ?_)
    obtain rfl := Option.some.inj h
    refine LWP.ret (QG.mk (.inr rfl) (.cons (.tmp (x := (e_bool true)) rfl) (.nil)) (RetOK.one0 (.pure rfl) (by decide)) rfl rfl)
   ·intro N6 hN6
    refine LWP.seq_k fun N7 hN7 => ?_
    refine LWP.region (l := [_]) ?_
    refine LWo.assign (e_int (0 : Int)) rfl (hn := ?_)
    refine LWo.nil (hN7 _ ?_)
    refine LWP.block ?_
    refine LWP.loopM (α := (List S_impl_Value) × (List S_impl_Value) × Int) (fun z : (List S_impl_Value) × (List S_impl_Value) × Int => [(0, (e_Limpl_Value z.1)), (1, (e_Limpl_Value z.2.1)), (5, (e_int z.2.2))]) (fun z : (List S_impl_Value) × (List S_impl_Value) × Int => []) (fun n1 (z : (List S_impl_Value) × (List S_impl_Value) × Int) => m_laws_eqValueS_l1  n1 z.1 z.2.1 z.2.2) r _ (a0, a1, (0 : Int)) h (fun _ => rfl) (fun _ => by simp [hkeys]) ⟨rfl, rfl, rfl, trivial⟩ trivial ?_
    rintro n1 ⟨t0, t1, t5⟩ h N8 hN8
    replace h : m_laws_eqValueS_l1  (n1 + 1) t0 t1 t5 = some _ := h
    refine LWP.seq_k fun N10 hN10 => ?_
    refine LWP.seq_k fun N11 hN11 => ?_
    refine LWP.region (l := [_,_,_,_]) ?_
    refine LWo.move (e_int t5) rfl (hn := ?_)
    refine LWo.move (e_Limpl_Value t0) rfl (hn := ?_)
    refine LWo.lenM (f := e_impl_Value) (l := t0) u_Limpl_Value rfl (hn := ?_)
    refine LWo.int _ rfl rfl rfl (hn := ?_)
    refine LWo.nil (hN11 _ ?_)
    refine LWP.cond_split rfl (fun h12 => ?_) (fun h12 => ?_)
    ·have h := bT h12 h
     refine LWP.skip (hN10 _ ?_)
     refine LWP.seq_k fun N13 hN13 => ?_
     refine LWP.block ?_
     refine LWP.seq_k fun N14 hN14 => ?_
     refine bk h fun x15 e15 h => ?_
     refine bk h fun x16 e16 h => ?_
     refine bk h fun x17 e17 h => ?_
     refine LWP.drawF (l := [_,_,_,_,_,_,_,_,_,_]) [] [0, 1, 5] [([0], []), ([5], []), ([17, 18], []), ([19], []), ([1], []), ([5], []), ([21, 22], []), ([23], []), ([20, 24], []), ([25], [])] [0, 1, 5, 26] [] mixed (by kernel_rfl) rfl (by decide) ?_
     refine dq 17 rfl (fun _ g u h => LWo.move (e_Limpl_Value t0) u.1 (hn := .nil (zn g))) ?_
     refine dq 18 rfl (fun _ g u h => LWo.move (e_int t5) u.1 (hn := .nil (zn g))) ?_
     refine dq 19 rfl (fun _ g u h => LWo.indexM (f := e_impl_Value) e15 u_Limpl_Value s_impl_Value u.1 u.2.1 (hn := .nil (zn g))) ?_
     refine dq 20 rfl (fun _ g u h => LWo.loadN ((e_impl_Value x15)).cells g_impl_Value s_impl_Value u.1 (Nat.le_of_ble_eq_true rfl) rfl (hn := .nil (zn g))) ?_
     refine dq 21 rfl (fun _ g u h => LWo.move (e_Limpl_Value t1) u.1 (hn := .nil (zn g))) ?_
     refine dq 22 rfl (fun _ g u h => LWo.move (e_int t5) u.1 (hn := .nil (zn g))) ?_
     refine dq 23 rfl (fun _ g u h => LWo.indexM (f := e_impl_Value) e16 u_Limpl_Value s_impl_Value u.1 u.2.1 (hn := .nil (zn g))) ?_
     refine dq 24 rfl (fun _ g u h => LWo.loadN ((e_impl_Value x16)).cells g_impl_Value s_impl_Value u.1 (Nat.le_of_ble_eq_true rfl) rfl (hn := .nil (zn g))) ?_
     refine dq 25 rfl (fun _ g u h => LWo.vcall rfl (av2 u.1 u.2.1) (c_laws_eqValue _ _ _ e17) (.same (.same (.nil))) (hn := .nil (zn g))) ?_
     refine dq 26 rfl (fun _ g u h => LWo.not u.1 (hn := .nil (zn g))) ?_
     refine ⟨rfl, by kernel_rfl, hN14 _ ?_⟩
     refine LWP.cond_split rfl (fun h18 => ?_) (fun h18 => ?_)
     ·have h := bT h18 h
      refine LWP.seq_k fun N19 hN19 => ?_
      refine LWP.region (l := [_]) ?_
      refine LWo.assign (e_bool false) rfl (hn := ?_)
      refine LWo.nil (hN19 _ ?_)
      obtain rfl := Option.some.inj h
      refine LWP.ret (QG.mk (.inr rfl) (.cons (.tmp (x := (e_bool false)) rfl) (.nil)) (RetOK.one0 (.pure rfl) (by decide)) rfl rfl)
     ·have h := bF h18 h
      refine LWP.skip (hN13 _ ?_)
      refine LWP.region (l := [_,_,_]) ?_
      refine LWo.move (e_int t5) rfl (hn := ?_)
      refine bk h fun x20 e20 h => ?_
      refine LWo.int _ rfl rfl (add_ck e20) (hn := ?_)
      refine LWo.assign (e_int x20) rfl (hn := ?_)
      refine LWo.nil (hN8 (t0, t1, x20) _ ⟨rfl, rfl, rfl, trivial⟩ trivial h)
    ·have h := bF h12 h
     refine LWP.exit (hN6 () _ trivial trivial h)

def m_laws_eqVersion (a0 : S_impl_Version) (a1 : S_impl_Version) : Option Bool :=
  bif (a0.Key != a1.Key) then (some false)
  else (bif (a0.Born != a1.Born) then (some false)
  else (bif (a0.Died != a1.Died) then (some false)
  else ((m_laws_eqValueS a0.Row a1.Row).bind fun x16 =>
  bif (!x16) then (some false)
  else (some true))))
theorem c_laws_eqVersion (a0 : S_impl_Version) (a1 : S_impl_Version) (r : Bool) (h : m_laws_eqVersion a0 a1 = some r) : Ret Try.prog f_laws_eqVersion [e_impl_Version a0, e_impl_Version a1] (e_bool r) := by
  refine Does.goG [] F_laws_eqVersion rfl e_laws_eqVersion n_laws_eqVersion rfl (rvs := [.tmp 4]) rfl rfl ?_
  intro w0 ok0 lent ρ0
  refine LWP.seq_k fun N1 hN1 => ?_
  refine LWP.region (l := [_,_,_]) ?_
  refine LWo.boxF (e_impl_Version a0) rfl rfl rfl (hn := ?_)
  refine LWo.boxF (e_impl_Version a1) rfl rfl rfl (hn := ?_)
  refine LWo.assign (e_bool false) rfl (hn := ?_)
  refine LWo.nil (hN1 _ ?_)
  refine LWP.seq_k fun N2 hN2 => ?_
  refine LWP.seq_k fun N3 hN3 => ?_
  refine LWP.region (l := [_,_,_,_,_]) ?_
  refine LWo.fieldAddr _ u_impl_Version rfl s_int rfl rfl (hn := ?_)
  refine LWo.load1 (c := (e_int a0.Key)) g_int rfl (hn := ?_)
  refine LWo.fieldAddr _ u_impl_Version rfl s_int rfl rfl (hn := ?_)
  refine LWo.load1 (c := (e_int a1.Key)) g_int rfl (hn := ?_)
  refine LWo.int _ rfl rfl rfl (hn := ?_)
  refine LWo.nil (hN3 _ ?_)
  refine LWP.cond_split rfl (fun h4 => ?_) (fun h4 => ?_)
  ·have h := bT h4 h
   refine LWP.seq_k fun N5 hN5 => ?_
   refine LWP.region (l := [_]) ?_
   refine LWo.assign (e_bool false) rfl (hn := ?_)
   refine LWo.nil (hN5 _ ?_)
   obtain rfl := Option.some.inj h
   refine LWP.ret (QG.mk (.inr rfl) (.cons (.tmp (x := (e_bool false)) rfl) (.nil)) (RetOK.one0 (.pure rfl) (by decide)) rfl rfl)
  ·have h := bF h4 h
   refine LWP.skip (hN2 _ ?_)
   refine LWP.seq_k fun N6 hN6 => ?_
   refine LWP.seq_k fun N7 hN7 => ?_
   refine LWP.region (l := [_,_,_,_,_]) ?_
   refine LWo.fieldAddr _ u_impl_Version rfl s_int rfl rfl (hn := ?_)
   refine LWo.load1 (c := (e_int a0.Born)) g_int rfl (hn := ?_)
   refine LWo.fieldAddr _ u_impl_Version rfl s_int rfl rfl (hn := ?_)
   refine LWo.load1 (c := (e_int a1.Born)) g_int rfl (hn := ?_)
   refine LWo.int _ rfl rfl rfl (hn := ?_)
   refine LWo.nil (hN7 _ ?_)
   refine LWP.cond_split rfl (fun h8 => ?_) (fun h8 => ?_)
   ·have h := bT h8 h
    refine LWP.seq_k fun N9 hN9 => ?_
    refine LWP.region (l := [_]) ?_
    refine LWo.assign (e_bool false) rfl (hn := ?_)
    refine LWo.nil (hN9 _ ?_)
    obtain rfl := Option.some.inj h
    refine LWP.ret (QG.mk (.inr rfl) (.cons (.tmp (x := (e_bool false)) rfl) (.nil)) (RetOK.one0 (.pure rfl) (by decide)) rfl rfl)
   ·have h := bF h8 h
    refine LWP.skip (hN6 _ ?_)
    refine LWP.seq_k fun N10 hN10 => ?_
    refine LWP.seq_k fun N11 hN11 => ?_
    refine LWP.region (l := [_,_,_,_,_]) ?_
    refine LWo.fieldAddr _ u_impl_Version rfl s_int rfl rfl (hn := ?_)
    refine LWo.load1 (c := (e_int a0.Died)) g_int rfl (hn := ?_)
    refine LWo.fieldAddr _ u_impl_Version rfl s_int rfl rfl (hn := ?_)
    refine LWo.load1 (c := (e_int a1.Died)) g_int rfl (hn := ?_)
    refine LWo.int _ rfl rfl rfl (hn := ?_)
    refine LWo.nil (hN11 _ ?_)
    refine LWP.cond_split rfl (fun h12 => ?_) (fun h12 => ?_)
    ·have h := bT h12 h
     refine LWP.seq_k fun N13 hN13 => ?_
     refine LWP.region (l := [_]) ?_
     refine LWo.assign (e_bool false) rfl (hn := ?_)
     refine LWo.nil (hN13 _ ?_)
     obtain rfl := Option.some.inj h
     refine LWP.ret (QG.mk (.inr rfl) (.cons (.tmp (x := (e_bool false)) rfl) (.nil)) (RetOK.one0 (.pure rfl) (by decide)) rfl rfl)
    ·have h := bF h12 h
     refine LWP.skip (hN10 _ ?_)
     refine LWP.seq_k fun N14 hN14 => ?_
     refine LWP.seq_k fun N15 hN15 => ?_
     refine LWP.region (l := [_,_,_,_,_,_]) ?_
     refine LWo.fieldAddr _ u_impl_Version rfl s_Limpl_Value rfl rfl (hn := ?_)
     refine LWo.load1 (c := (e_Limpl_Value a0.Row)) g_Limpl_Value rfl (hn := ?_)
     refine LWo.fieldAddr _ u_impl_Version rfl s_Limpl_Value rfl rfl (hn := ?_)
     refine LWo.load1 (c := (e_Limpl_Value a1.Row)) g_Limpl_Value rfl (hn := ?_)
     refine bk h fun x16 e16 h => ?_
     refine LWo.vcall rfl rfl (c_laws_eqValueS _ _ _ e16) (.same (.same (.nil))) (hn := ?_)
     refine LWo.not rfl (hn := ?_)
     refine LWo.nil (hN15 _ ?_)
     refine LWP.cond_split rfl (fun h17 => ?_) (fun h17 => ?_)
     ·have h := bT h17 h
      refine LWP.seq_k fun N18 hN18 => ?_
      refine LWP.region (l := [_]) ?_
      refine LWo.assign (e_bool false) rfl (hn := ?_)
      refine LWo.nil (hN18 _ ?_)
      obtain rfl := Option.some.inj h
      refine LWP.ret (QG.mk (.inr rfl) (.cons (.tmp (x := (e_bool false)) rfl) (.nil)) (RetOK.one0 (.pure rfl) (by decide)) rfl rfl)
     ·have h := bF h17 h
      refine LWP.skip (hN14 _ ?_)
      refine LWP.seq_k fun N19 hN19 => ?_
      refine LWP.region (l := [_]) ?_
      refine LWo.assign (e_bool true) rfl (hn := ?_)
      refine LWo.nil (hN19 _ ?_)
      obtain rfl := Option.some.inj h
      refine LWP.ret (QG.mk (.inr rfl) (.cons (.tmp (x := (e_bool true)) rfl) (.nil)) (RetOK.one0 (.pure rfl) (by decide)) rfl rfl)

def m_laws_eqVersionS_j1  : Option Bool :=
  some true
def m_laws_eqVersionS_l1 : Nat → (List S_impl_Version) → (List S_impl_Version) → Int → Option Bool
  | 0, _, _, _ => none
  | n1 + 1, t0, t1, t5 =>
    bif decide (t5 < (t0.length : Int)) then ((at? t0 t5).bind fun x15 =>
    (at? t1 t5).bind fun x16 =>
    (m_laws_eqVersion x15 x16).bind fun x17 =>
    bif (!x17) then (some false)
    else ((ckI (t5 + (1 : Int))).bind fun x20 =>
    (m_laws_eqVersionS_l1  n1) t0 t1 x20))
    else (m_laws_eqVersionS_j1  )
def m_laws_eqVersionS (a0 : (List S_impl_Version)) (a1 : (List S_impl_Version)) : Option Bool :=
  bif ((a0.length : Int) != (a1.length : Int)) then (some false)
  else (m_laws_eqVersionS_l1  (((a0.length : Int) - (0 : Int)).toNat + 1) a0 a1 (0 : Int))
theorem c_laws_eqVersionS (a0 : (List S_impl_Version)) (a1 : (List S_impl_Version)) (r : Bool) (h : m_laws_eqVersionS a0 a1 = some r) : Ret Try.prog f_laws_eqVersionS [e_Limpl_Version a0, e_Limpl_Version a1] (e_bool r) := by
  refine Does.goG [] F_laws_eqVersionS rfl e_laws_eqVersionS n_laws_eqVersionS rfl (rvs := [.tmp 4]) rfl rfl ?_
  intro w0 ok0 lent ρ0
  refine LWP.seq_k fun N1 hN1 => ?_
  refine LWP.region (l := [_]) ?_
  refine LWo.assign (e_bool false) rfl (hn := ?_)
  refine LWo.nil (hN1 _ ?_)
  refine LWP.seq_k fun N2 hN2 => ?_
  refine LWP.seq_k fun N3 hN3 => ?_
  refine LWP.region (l := [_,_,_,_,_]) ?_
  refine LWo.move (e_Limpl_Version a0) rfl (hn := ?_)
  refine LWo.lenM (f := e_impl_Version) (l := a0) u_Limpl_Version rfl (hn := ?_)
  refine LWo.move (e_Limpl_Version a1) rfl (hn := ?_)
  refine LWo.lenM (f := e_impl_Version) (l := a1) u_Limpl_Version rfl (hn := ?_)
  refine LWo.int _ rfl rfl rfl (hn := ?_)
  refine LWo.nil (hN3 _ ?_)
  refine LWP.cond_split rfl (fun h4 => ?_) (fun h4 => ?_)
  ·have h := bT h4 h
   refine LWP.seq_k fun N5 hN5 => ?_
   refine LWP.region (l := [_]) ?_
   refine LWo.assign (e_bool false) rfl (hn := ?_)
   refine LWo.nil (hN5 _ ?_)
   obtain rfl := Option.some.inj h
   refine LWP.ret (QG.mk (.inr rfl) (.cons (.tmp (x := (e_bool false)) rfl) (.nil)) (RetOK.one0 (.pure rfl) (by decide)) rfl rfl)
  ·have h := bF h4 h
   refine LWP.skip (hN2 _ ?_)
   refine LWP.join (α := Unit) (fun z : Unit => []) (fun z : Unit => []) (fun z : Unit => m_laws_eqVersionS_j1  ) r (fun _ => by simp [hkeys]) ?_ ?_
   ·rintro _ h
    replace h : m_laws_eqVersionS_j1   = some _ := h
    refine LWP.seq_k fun N21 hN21 => ?_
    refine LWP.region (l := [_]) ?_
    refine LWo.assign (e_bool true) rfl (hn := ?_)
    refine LWo.nil (hN21 _ ?_)
    obtain rfl := Option.some.inj h
    refine LWP.ret (QG.mk (.inr rfl) (.cons (.tmp (x := (e_bool true)) rfl) (.nil)) (RetOK.one0 (.pure rfl) (by decide)) rfl rfl)
   ·intro N6 hN6
    refine LWP.seq_k fun N7 hN7 => ?_
    refine LWP.region (l := [_]) ?_
    refine LWo.assign (e_int (0 : Int)) rfl (hn := ?_)
    refine LWo.nil (hN7 _ ?_)
    refine LWP.block ?_
    refine LWP.loopM (α := (List S_impl_Version) × (List S_impl_Version) × Int) (fun z : (List S_impl_Version) × (List S_impl_Version) × Int => [(0, (e_Limpl_Version z.1)), (1, (e_Limpl_Version z.2.1)), (5, (e_int z.2.2))]) (fun z : (List S_impl_Version) × (List S_impl_Version) × Int => []) (fun n1 (z : (List S_impl_Version) × (List S_impl_Version) × Int) => m_laws_eqVersionS_l1  n1 z.1 z.2.1 z.2.2) r _ (a0, a1, (0 : Int)) h (fun _ => rfl) (fun _ => by simp [hkeys]) ⟨rfl, rfl, rfl, trivial⟩ trivial ?_
    rintro n1 ⟨t0, t1, t5⟩ h N8 hN8
    replace h : m_laws_eqVersionS_l1  (n1 + 1) t0 t1 t5 = some _ := h
    refine LWP.seq_k fun N10 hN10 => ?_
    refine LWP.seq_k fun N11 hN11 => ?_
    refine LWP.region (l := [_,_,_,_]) ?_
    refine LWo.move (e_int t5) rfl (hn := ?_)
    refine LWo.move (e_Limpl_Version t0) rfl (hn := ?_)
    refine LWo.lenM (f := e_impl_Version) (l := t0) u_Limpl_Version rfl (hn := ?_)
    refine LWo.int _ rfl rfl rfl (hn := ?_)
    refine LWo.nil (hN11 _ ?_)
    refine LWP.cond_split rfl (fun h12 => ?_) (fun h12 => ?_)
    ·have h := bT h12 h
     refine LWP.skip (hN10 _ ?_)
     refine LWP.seq_k fun N13 hN13 => ?_
     refine LWP.block ?_
     refine LWP.seq_k fun N14 hN14 => ?_
     refine bk h fun x15 e15 h => ?_
     refine bk h fun x16 e16 h => ?_
     refine bk h fun x17 e17 h => ?_
     refine LWP.drawF (l := [_,_,_,_,_,_,_,_,_,_]) [] [0, 1, 5] [([0], []), ([5], []), ([17, 18], []), ([19], []), ([1], []), ([5], []), ([21, 22], []), ([23], []), ([20, 24], []), ([25], [])] [0, 1, 5, 26] [] mixed (by kernel_rfl) rfl (by decide) ?_
     refine dq 17 rfl (fun _ g u h => LWo.move (e_Limpl_Version t0) u.1 (hn := .nil (zn g))) ?_
     refine dq 18 rfl (fun _ g u h => LWo.move (e_int t5) u.1 (hn := .nil (zn g))) ?_
     refine dq 19 rfl (fun _ g u h => LWo.indexM (f := e_impl_Version) e15 u_Limpl_Version s_impl_Version u.1 u.2.1 (hn := .nil (zn g))) ?_
     refine dq 20 rfl (fun _ g u h => LWo.loadN ((e_impl_Version x15)).cells g_impl_Version s_impl_Version u.1 (Nat.le_of_ble_eq_true rfl) rfl (hn := .nil (zn g))) ?_
     refine dq 21 rfl (fun _ g u h => LWo.move (e_Limpl_Version t1) u.1 (hn := .nil (zn g))) ?_
     refine dq 22 rfl (fun _ g u h => LWo.move (e_int t5) u.1 (hn := .nil (zn g))) ?_
     refine dq 23 rfl (fun _ g u h => LWo.indexM (f := e_impl_Version) e16 u_Limpl_Version s_impl_Version u.1 u.2.1 (hn := .nil (zn g))) ?_
     refine dq 24 rfl (fun _ g u h => LWo.loadN ((e_impl_Version x16)).cells g_impl_Version s_impl_Version u.1 (Nat.le_of_ble_eq_true rfl) rfl (hn := .nil (zn g))) ?_
     refine dq 25 rfl (fun _ g u h => LWo.vcall rfl (av2 u.1 u.2.1) (c_laws_eqVersion _ _ _ e17) (.same (.same (.nil))) (hn := .nil (zn g))) ?_
     refine dq 26 rfl (fun _ g u h => LWo.not u.1 (hn := .nil (zn g))) ?_
     refine ⟨rfl, by kernel_rfl, hN14 _ ?_⟩
     refine LWP.cond_split rfl (fun h18 => ?_) (fun h18 => ?_)
     ·have h := bT h18 h
      refine LWP.seq_k fun N19 hN19 => ?_
      refine LWP.region (l := [_]) ?_
      refine LWo.assign (e_bool false) rfl (hn := ?_)
      refine LWo.nil (hN19 _ ?_)
      obtain rfl := Option.some.inj h
      refine LWP.ret (QG.mk (.inr rfl) (.cons (.tmp (x := (e_bool false)) rfl) (.nil)) (RetOK.one0 (.pure rfl) (by decide)) rfl rfl)
     ·have h := bF h18 h
      refine LWP.skip (hN13 _ ?_)
      refine LWP.region (l := [_,_,_]) ?_
      refine LWo.move (e_int t5) rfl (hn := ?_)
      refine bk h fun x20 e20 h => ?_
      refine LWo.int _ rfl rfl (add_ck e20) (hn := ?_)
      refine LWo.assign (e_int x20) rfl (hn := ?_)
      refine LWo.nil (hN8 (t0, t1, x20) _ ⟨rfl, rfl, rfl, trivial⟩ trivial h)
    ·have h := bF h12 h
     refine LWP.exit (hN6 () _ trivial trivial h)

def m_laws_eqWrite (a0 : S_impl_Write) (a1 : S_impl_Write) : Option Bool :=
  bif (a0.Key != a1.Key) then (some false)
  else ((m_laws_eqValueS a0.Row a1.Row).bind fun x8 =>
  bif (!x8) then (some false)
  else (bif (a0.Gone != a1.Gone) then (some false)
  else (some true)))
theorem c_laws_eqWrite (a0 : S_impl_Write) (a1 : S_impl_Write) (r : Bool) (h : m_laws_eqWrite a0 a1 = some r) : Ret Try.prog f_laws_eqWrite [e_impl_Write a0, e_impl_Write a1] (e_bool r) := by
  refine Does.goG [] F_laws_eqWrite rfl e_laws_eqWrite n_laws_eqWrite rfl (rvs := [.tmp 4]) rfl rfl ?_
  intro w0 ok0 lent ρ0
  refine LWP.seq_k fun N1 hN1 => ?_
  refine LWP.region (l := [_,_,_]) ?_
  refine LWo.boxF (e_impl_Write a0) rfl rfl rfl (hn := ?_)
  refine LWo.boxF (e_impl_Write a1) rfl rfl rfl (hn := ?_)
  refine LWo.assign (e_bool false) rfl (hn := ?_)
  refine LWo.nil (hN1 _ ?_)
  refine LWP.seq_k fun N2 hN2 => ?_
  refine LWP.seq_k fun N3 hN3 => ?_
  refine LWP.region (l := [_,_,_,_,_]) ?_
  refine LWo.fieldAddr _ u_impl_Write rfl s_int rfl rfl (hn := ?_)
  refine LWo.load1 (c := (e_int a0.Key)) g_int rfl (hn := ?_)
  refine LWo.fieldAddr _ u_impl_Write rfl s_int rfl rfl (hn := ?_)
  refine LWo.load1 (c := (e_int a1.Key)) g_int rfl (hn := ?_)
  refine LWo.int _ rfl rfl rfl (hn := ?_)
  refine LWo.nil (hN3 _ ?_)
  refine LWP.cond_split rfl (fun h4 => ?_) (fun h4 => ?_)
  ·have h := bT h4 h
   refine LWP.seq_k fun N5 hN5 => ?_
   refine LWP.region (l := [_]) ?_
   refine LWo.assign (e_bool false) rfl (hn := ?_)
   refine LWo.nil (hN5 _ ?_)
   obtain rfl := Option.some.inj h
   refine LWP.ret (QG.mk (.inr rfl) (.cons (.tmp (x := (e_bool false)) rfl) (.nil)) (RetOK.one0 (.pure rfl) (by decide)) rfl rfl)
  ·have h := bF h4 h
   refine LWP.skip (hN2 _ ?_)
   refine LWP.seq_k fun N6 hN6 => ?_
   refine LWP.seq_k fun N7 hN7 => ?_
   refine LWP.region (l := [_,_,_,_,_,_]) ?_
   refine LWo.fieldAddr _ u_impl_Write rfl s_Limpl_Value rfl rfl (hn := ?_)
   refine LWo.load1 (c := (e_Limpl_Value a0.Row)) g_Limpl_Value rfl (hn := ?_)
   refine LWo.fieldAddr _ u_impl_Write rfl s_Limpl_Value rfl rfl (hn := ?_)
   refine LWo.load1 (c := (e_Limpl_Value a1.Row)) g_Limpl_Value rfl (hn := ?_)
   refine bk h fun x8 e8 h => ?_
   refine LWo.vcall rfl rfl (c_laws_eqValueS _ _ _ e8) (.same (.same (.nil))) (hn := ?_)
   refine LWo.not rfl (hn := ?_)
   refine LWo.nil (hN7 _ ?_)
   refine LWP.cond_split rfl (fun h9 => ?_) (fun h9 => ?_)
   ·have h := bT h9 h
    refine LWP.seq_k fun N10 hN10 => ?_
    refine LWP.region (l := [_]) ?_
    refine LWo.assign (e_bool false) rfl (hn := ?_)
    refine LWo.nil (hN10 _ ?_)
    obtain rfl := Option.some.inj h
    refine LWP.ret (QG.mk (.inr rfl) (.cons (.tmp (x := (e_bool false)) rfl) (.nil)) (RetOK.one0 (.pure rfl) (by decide)) rfl rfl)
   ·have h := bF h9 h
    refine LWP.skip (hN6 _ ?_)
    refine LWP.seq_k fun N11 hN11 => ?_
    refine LWP.seq_k fun N12 hN12 => ?_
    refine LWP.region (l := [_,_,_,_,_]) ?_
    refine LWo.fieldAddr _ u_impl_Write rfl s_bool rfl rfl (hn := ?_)
    refine LWo.load1 (c := (e_bool a0.Gone)) g_bool rfl (hn := ?_)
    refine LWo.fieldAddr _ u_impl_Write rfl s_bool rfl rfl (hn := ?_)
    refine LWo.load1 (c := (e_bool a1.Gone)) g_bool rfl (hn := ?_)
    refine LWo.boolNe u_bool rfl rfl (hn := ?_)
    refine LWo.nil (hN12 _ ?_)
    refine LWP.cond_split rfl (fun h13 => ?_) (fun h13 => ?_)
    ·have h := bT h13 h
     refine LWP.seq_k fun N14 hN14 => ?_
     refine LWP.region (l := [_]) ?_
     refine LWo.assign (e_bool false) rfl (hn := ?_)
     refine LWo.nil (hN14 _ ?_)
     obtain rfl := Option.some.inj h
     refine LWP.ret (QG.mk (.inr rfl) (.cons (.tmp (x := (e_bool false)) rfl) (.nil)) (RetOK.one0 (.pure rfl) (by decide)) rfl rfl)
    ·have h := bF h13 h
     refine LWP.skip (hN11 _ ?_)
     refine LWP.seq_k fun N15 hN15 => ?_
     refine LWP.region (l := [_]) ?_
     refine LWo.assign (e_bool true) rfl (hn := ?_)
     refine LWo.nil (hN15 _ ?_)
     obtain rfl := Option.some.inj h
     refine LWP.ret (QG.mk (.inr rfl) (.cons (.tmp (x := (e_bool true)) rfl) (.nil)) (RetOK.one0 (.pure rfl) (by decide)) rfl rfl)

def m_laws_eqWriteS_j1  : Option Bool :=
  some true
def m_laws_eqWriteS_l1 : Nat → (List S_impl_Write) → (List S_impl_Write) → Int → Option Bool
  | 0, _, _, _ => none
  | n1 + 1, t0, t1, t5 =>
    bif decide (t5 < (t0.length : Int)) then ((at? t0 t5).bind fun x15 =>
    (at? t1 t5).bind fun x16 =>
    (m_laws_eqWrite x15 x16).bind fun x17 =>
    bif (!x17) then (some false)
    else ((ckI (t5 + (1 : Int))).bind fun x20 =>
    (m_laws_eqWriteS_l1  n1) t0 t1 x20))
    else (m_laws_eqWriteS_j1  )
def m_laws_eqWriteS (a0 : (List S_impl_Write)) (a1 : (List S_impl_Write)) : Option Bool :=
  bif ((a0.length : Int) != (a1.length : Int)) then (some false)
  else (m_laws_eqWriteS_l1  (((a0.length : Int) - (0 : Int)).toNat + 1) a0 a1 (0 : Int))
theorem c_laws_eqWriteS (a0 : (List S_impl_Write)) (a1 : (List S_impl_Write)) (r : Bool) (h : m_laws_eqWriteS a0 a1 = some r) : Ret Try.prog f_laws_eqWriteS [e_Limpl_Write a0, e_Limpl_Write a1] (e_bool r) := by
  refine Does.goG [] F_laws_eqWriteS rfl e_laws_eqWriteS n_laws_eqWriteS rfl (rvs := [.tmp 4]) rfl rfl ?_
  intro w0 ok0 lent ρ0
  refine LWP.seq_k fun N1 hN1 => ?_
  refine LWP.region (l := [_]) ?_
  refine LWo.assign (e_bool false) rfl (hn := ?_)
  refine LWo.nil (hN1 _ ?_)
  refine LWP.seq_k fun N2 hN2 => ?_
  refine LWP.seq_k fun N3 hN3 => ?_
  refine LWP.region (l := [_,_,_,_,_]) ?_
  refine LWo.move (e_Limpl_Write a0) rfl (hn := ?_)
  refine LWo.lenM (f := e_impl_Write) (l := a0) u_Limpl_Write rfl (hn := ?_)
  refine LWo.move (e_Limpl_Write a1) rfl (hn := ?_)
  refine LWo.lenM (f := e_impl_Write) (l := a1) u_Limpl_Write rfl (hn := ?_)
  refine LWo.int _ rfl rfl rfl (hn := ?_)
  refine LWo.nil (hN3 _ ?_)
  refine LWP.cond_split rfl (fun h4 => ?_) (fun h4 => ?_)
  ·have h := bT h4 h
   refine LWP.seq_k fun N5 hN5 => ?_
   refine LWP.region (l := [_]) ?_
   refine LWo.assign (e_bool false) rfl (hn := ?_)
   refine LWo.nil (hN5 _ ?_)
   obtain rfl := Option.some.inj h
   refine LWP.ret (QG.mk (.inr rfl) (.cons (.tmp (x := (e_bool false)) rfl) (.nil)) (RetOK.one0 (.pure rfl) (by decide)) rfl rfl)
  ·have h := bF h4 h
   refine LWP.skip (hN2 _ ?_)
   refine LWP.join (α := Unit) (fun z : Unit => []) (fun z : Unit => []) (fun z : Unit => m_laws_eqWriteS_j1  ) r (fun _ => by simp [hkeys]) ?_ ?_
   ·rintro _ h
    replace h : m_laws_eqWriteS_j1   = some _ := h
    refine LWP.seq_k fun N21 hN21 => ?_
    refine LWP.region (l := [_]) ?_
    refine LWo.assign (e_bool true) rfl (hn := ?_)
    refine LWo.nil (hN21 _ ?_)
    obtain rfl := Option.some.inj h
    refine LWP.ret (QG.mk (.inr rfl) (.cons (.tmp (x := (e_bool true)) rfl) (.nil)) (RetOK.one0 (.pure rfl) (by decide)) rfl rfl)
   ·intro N6 hN6
    refine LWP.seq_k fun N7 hN7 => ?_
    refine LWP.region (l := [_]) ?_
    refine LWo.assign (e_int (0 : Int)) rfl (hn := ?_)
    refine LWo.nil (hN7 _ ?_)
    refine LWP.block ?_
    refine LWP.loopM (α := (List S_impl_Write) × (List S_impl_Write) × Int) (fun z : (List S_impl_Write) × (List S_impl_Write) × Int => [(0, (e_Limpl_Write z.1)), (1, (e_Limpl_Write z.2.1)), (5, (e_int z.2.2))]) (fun z : (List S_impl_Write) × (List S_impl_Write) × Int => []) (fun n1 (z : (List S_impl_Write) × (List S_impl_Write) × Int) => m_laws_eqWriteS_l1  n1 z.1 z.2.1 z.2.2) r _ (a0, a1, (0 : Int)) h (fun _ => rfl) (fun _ => by simp [hkeys]) ⟨rfl, rfl, rfl, trivial⟩ trivial ?_
    rintro n1 ⟨t0, t1, t5⟩ h N8 hN8
    replace h : m_laws_eqWriteS_l1  (n1 + 1) t0 t1 t5 = some _ := h
    refine LWP.seq_k fun N10 hN10 => ?_
    refine LWP.seq_k fun N11 hN11 => ?_
    refine LWP.region (l := [_,_,_,_]) ?_
    refine LWo.move (e_int t5) rfl (hn := ?_)
    refine LWo.move (e_Limpl_Write t0) rfl (hn := ?_)
    refine LWo.lenM (f := e_impl_Write) (l := t0) u_Limpl_Write rfl (hn := ?_)
    refine LWo.int _ rfl rfl rfl (hn := ?_)
    refine LWo.nil (hN11 _ ?_)
    refine LWP.cond_split rfl (fun h12 => ?_) (fun h12 => ?_)
    ·have h := bT h12 h
     refine LWP.skip (hN10 _ ?_)
     refine LWP.seq_k fun N13 hN13 => ?_
     refine LWP.block ?_
     refine LWP.seq_k fun N14 hN14 => ?_
     refine bk h fun x15 e15 h => ?_
     refine bk h fun x16 e16 h => ?_
     refine bk h fun x17 e17 h => ?_
     refine LWP.drawF (l := [_,_,_,_,_,_,_,_,_,_]) [] [0, 1, 5] [([0], []), ([5], []), ([17, 18], []), ([19], []), ([1], []), ([5], []), ([21, 22], []), ([23], []), ([20, 24], []), ([25], [])] [0, 1, 5, 26] [] mixed (by kernel_rfl) rfl (by decide) ?_
     refine dq 17 rfl (fun _ g u h => LWo.move (e_Limpl_Write t0) u.1 (hn := .nil (zn g))) ?_
     refine dq 18 rfl (fun _ g u h => LWo.move (e_int t5) u.1 (hn := .nil (zn g))) ?_
     refine dq 19 rfl (fun _ g u h => LWo.indexM (f := e_impl_Write) e15 u_Limpl_Write s_impl_Write u.1 u.2.1 (hn := .nil (zn g))) ?_
     refine dq 20 rfl (fun _ g u h => LWo.loadN ((e_impl_Write x15)).cells g_impl_Write s_impl_Write u.1 (Nat.le_of_ble_eq_true rfl) rfl (hn := .nil (zn g))) ?_
     refine dq 21 rfl (fun _ g u h => LWo.move (e_Limpl_Write t1) u.1 (hn := .nil (zn g))) ?_
     refine dq 22 rfl (fun _ g u h => LWo.move (e_int t5) u.1 (hn := .nil (zn g))) ?_
     refine dq 23 rfl (fun _ g u h => LWo.indexM (f := e_impl_Write) e16 u_Limpl_Write s_impl_Write u.1 u.2.1 (hn := .nil (zn g))) ?_
     refine dq 24 rfl (fun _ g u h => LWo.loadN ((e_impl_Write x16)).cells g_impl_Write s_impl_Write u.1 (Nat.le_of_ble_eq_true rfl) rfl (hn := .nil (zn g))) ?_
     refine dq 25 rfl (fun _ g u h => LWo.vcall rfl (av2 u.1 u.2.1) (c_laws_eqWrite _ _ _ e17) (.same (.same (.nil))) (hn := .nil (zn g))) ?_
     refine dq 26 rfl (fun _ g u h => LWo.not u.1 (hn := .nil (zn g))) ?_
     refine ⟨rfl, by kernel_rfl, hN14 _ ?_⟩
     refine LWP.cond_split rfl (fun h18 => ?_) (fun h18 => ?_)
     ·have h := bT h18 h
      refine LWP.seq_k fun N19 hN19 => ?_
      refine LWP.region (l := [_]) ?_
      refine LWo.assign (e_bool false) rfl (hn := ?_)
      refine LWo.nil (hN19 _ ?_)
      obtain rfl := Option.some.inj h
      refine LWP.ret (QG.mk (.inr rfl) (.cons (.tmp (x := (e_bool false)) rfl) (.nil)) (RetOK.one0 (.pure rfl) (by decide)) rfl rfl)
     ·have h := bF h18 h
      refine LWP.skip (hN13 _ ?_)
      refine LWP.region (l := [_,_,_]) ?_
      refine LWo.move (e_int t5) rfl (hn := ?_)
      refine bk h fun x20 e20 h => ?_
      refine LWo.int _ rfl rfl (add_ck e20) (hn := ?_)
      refine LWo.assign (e_int x20) rfl (hn := ?_)
      refine LWo.nil (hN8 (t0, t1, x20) _ ⟨rfl, rfl, rfl, trivial⟩ trivial h)
    ·have h := bF h12 h
     refine LWP.exit (hN6 () _ trivial trivial h)

def m_laws_eqEntry (a0 : S_impl_Entry) (a1 : S_impl_Entry) : Option Bool :=
  bif (a0.Time != a1.Time) then (some false)
  else ((m_laws_eqWriteS a0.Writes a1.Writes).bind fun x8 =>
  bif (!x8) then (some false)
  else (some true))
theorem c_laws_eqEntry (a0 : S_impl_Entry) (a1 : S_impl_Entry) (r : Bool) (h : m_laws_eqEntry a0 a1 = some r) : Ret Try.prog f_laws_eqEntry [e_impl_Entry a0, e_impl_Entry a1] (e_bool r) := by
  refine Does.goG [] F_laws_eqEntry rfl e_laws_eqEntry n_laws_eqEntry rfl (rvs := [.tmp 4]) rfl rfl ?_
  intro w0 ok0 lent ρ0
  refine LWP.seq_k fun N1 hN1 => ?_
  refine LWP.region (l := [_,_,_]) ?_
  refine LWo.boxF (e_impl_Entry a0) rfl rfl rfl (hn := ?_)
  refine LWo.boxF (e_impl_Entry a1) rfl rfl rfl (hn := ?_)
  refine LWo.assign (e_bool false) rfl (hn := ?_)
  refine LWo.nil (hN1 _ ?_)
  refine LWP.seq_k fun N2 hN2 => ?_
  refine LWP.seq_k fun N3 hN3 => ?_
  refine LWP.region (l := [_,_,_,_,_]) ?_
  refine LWo.fieldAddr _ u_impl_Entry rfl s_int rfl rfl (hn := ?_)
  refine LWo.load1 (c := (e_int a0.Time)) g_int rfl (hn := ?_)
  refine LWo.fieldAddr _ u_impl_Entry rfl s_int rfl rfl (hn := ?_)
  refine LWo.load1 (c := (e_int a1.Time)) g_int rfl (hn := ?_)
  refine LWo.int _ rfl rfl rfl (hn := ?_)
  refine LWo.nil (hN3 _ ?_)
  refine LWP.cond_split rfl (fun h4 => ?_) (fun h4 => ?_)
  ·have h := bT h4 h
   refine LWP.seq_k fun N5 hN5 => ?_
   refine LWP.region (l := [_]) ?_
   refine LWo.assign (e_bool false) rfl (hn := ?_)
   refine LWo.nil (hN5 _ ?_)
   obtain rfl := Option.some.inj h
   refine LWP.ret (QG.mk (.inr rfl) (.cons (.tmp (x := (e_bool false)) rfl) (.nil)) (RetOK.one0 (.pure rfl) (by decide)) rfl rfl)
  ·have h := bF h4 h
   refine LWP.skip (hN2 _ ?_)
   refine LWP.seq_k fun N6 hN6 => ?_
   refine LWP.seq_k fun N7 hN7 => ?_
   refine LWP.region (l := [_,_,_,_,_,_]) ?_
   refine LWo.fieldAddr _ u_impl_Entry rfl s_Limpl_Write rfl rfl (hn := ?_)
   refine LWo.load1 (c := (e_Limpl_Write a0.Writes)) g_Limpl_Write rfl (hn := ?_)
   refine LWo.fieldAddr _ u_impl_Entry rfl s_Limpl_Write rfl rfl (hn := ?_)
   refine LWo.load1 (c := (e_Limpl_Write a1.Writes)) g_Limpl_Write rfl (hn := ?_)
   refine bk h fun x8 e8 h => ?_
   refine LWo.vcall rfl rfl (c_laws_eqWriteS _ _ _ e8) (.same (.same (.nil))) (hn := ?_)
   refine LWo.not rfl (hn := ?_)
   refine LWo.nil (hN7 _ ?_)
   refine LWP.cond_split rfl (fun h9 => ?_) (fun h9 => ?_)
   ·have h := bT h9 h
    refine LWP.seq_k fun N10 hN10 => ?_
    refine LWP.region (l := [_]) ?_
    refine LWo.assign (e_bool false) rfl (hn := ?_)
    refine LWo.nil (hN10 _ ?_)
    obtain rfl := Option.some.inj h
    refine LWP.ret (QG.mk (.inr rfl) (.cons (.tmp (x := (e_bool false)) rfl) (.nil)) (RetOK.one0 (.pure rfl) (by decide)) rfl rfl)
   ·have h := bF h9 h
    refine LWP.skip (hN6 _ ?_)
    refine LWP.seq_k fun N11 hN11 => ?_
    refine LWP.region (l := [_]) ?_
    refine LWo.assign (e_bool true) rfl (hn := ?_)
    refine LWo.nil (hN11 _ ?_)
    obtain rfl := Option.some.inj h
    refine LWP.ret (QG.mk (.inr rfl) (.cons (.tmp (x := (e_bool true)) rfl) (.nil)) (RetOK.one0 (.pure rfl) (by decide)) rfl rfl)

def m_laws_eqEntryS_j1  : Option Bool :=
  some true
def m_laws_eqEntryS_l1 : Nat → (List S_impl_Entry) → (List S_impl_Entry) → Int → Option Bool
  | 0, _, _, _ => none
  | n1 + 1, t0, t1, t5 =>
    bif decide (t5 < (t0.length : Int)) then ((at? t0 t5).bind fun x15 =>
    (at? t1 t5).bind fun x16 =>
    (m_laws_eqEntry x15 x16).bind fun x17 =>
    bif (!x17) then (some false)
    else ((ckI (t5 + (1 : Int))).bind fun x20 =>
    (m_laws_eqEntryS_l1  n1) t0 t1 x20))
    else (m_laws_eqEntryS_j1  )
def m_laws_eqEntryS (a0 : (List S_impl_Entry)) (a1 : (List S_impl_Entry)) : Option Bool :=
  bif ((a0.length : Int) != (a1.length : Int)) then (some false)
  else (m_laws_eqEntryS_l1  (((a0.length : Int) - (0 : Int)).toNat + 1) a0 a1 (0 : Int))
theorem c_laws_eqEntryS (a0 : (List S_impl_Entry)) (a1 : (List S_impl_Entry)) (r : Bool) (h : m_laws_eqEntryS a0 a1 = some r) : Ret Try.prog f_laws_eqEntryS [e_Limpl_Entry a0, e_Limpl_Entry a1] (e_bool r) := by
  refine Does.goG [] F_laws_eqEntryS rfl e_laws_eqEntryS n_laws_eqEntryS rfl (rvs := [.tmp 4]) rfl rfl ?_
  intro w0 ok0 lent ρ0
  refine LWP.seq_k fun N1 hN1 => ?_
  refine LWP.region (l := [_]) ?_
  refine LWo.assign (e_bool false) rfl (hn := ?_)
  refine LWo.nil (hN1 _ ?_)
  refine LWP.seq_k fun N2 hN2 => ?_
  refine LWP.seq_k fun N3 hN3 => ?_
  refine LWP.region (l := [_,_,_,_,_]) ?_
  refine LWo.move (e_Limpl_Entry a0) rfl (hn := ?_)
  refine LWo.lenM (f := e_impl_Entry) (l := a0) u_Limpl_Entry rfl (hn := ?_)
  refine LWo.move (e_Limpl_Entry a1) rfl (hn := ?_)
  refine LWo.lenM (f := e_impl_Entry) (l := a1) u_Limpl_Entry rfl (hn := ?_)
  refine LWo.int _ rfl rfl rfl (hn := ?_)
  refine LWo.nil (hN3 _ ?_)
  refine LWP.cond_split rfl (fun h4 => ?_) (fun h4 => ?_)
  ·have h := bT h4 h
   refine LWP.seq_k fun N5 hN5 => ?_
   refine LWP.region (l := [_]) ?_
   refine LWo.assign (e_bool false) rfl (hn := ?_)
   refine LWo.nil (hN5 _ ?_)
   obtain rfl := Option.some.inj h
   refine LWP.ret (QG.mk (.inr rfl) (.cons (.tmp (x := (e_bool false)) rfl) (.nil)) (RetOK.one0 (.pure rfl) (by decide)) rfl rfl)
  ·have h := bF h4 h
   refine LWP.skip (hN2 _ ?_)
   refine LWP.join (α := Unit) (fun z : Unit => []) (fun z : Unit => []) (fun z : Unit => m_laws_eqEntryS_j1  ) r (fun _ => by simp [hkeys]) ?_ ?_
   ·rintro _ h
    replace h : m_laws_eqEntryS_j1   = some _ := h
    refine LWP.seq_k fun N21 hN21 => ?_
    refine LWP.region (l := [_]) ?_
    refine LWo.assign (e_bool true) rfl (hn := ?_)
    refine LWo.nil (hN21 _ ?_)
    obtain rfl := Option.some.inj h
    refine LWP.ret (QG.mk (.inr rfl) (.cons (.tmp (x := (e_bool true)) rfl) (.nil)) (RetOK.one0 (.pure rfl) (by decide)) rfl rfl)
   ·intro N6 hN6
    refine LWP.seq_k fun N7 hN7 => ?_
    refine LWP.region (l := [_]) ?_
    refine LWo.assign (e_int (0 : Int)) rfl (hn := ?_)
    refine LWo.nil (hN7 _ ?_)
    refine LWP.block ?_
    refine LWP.loopM (α := (List S_impl_Entry) × (List S_impl_Entry) × Int) (fun z : (List S_impl_Entry) × (List S_impl_Entry) × Int => [(0, (e_Limpl_Entry z.1)), (1, (e_Limpl_Entry z.2.1)), (5, (e_int z.2.2))]) (fun z : (List S_impl_Entry) × (List S_impl_Entry) × Int => []) (fun n1 (z : (List S_impl_Entry) × (List S_impl_Entry) × Int) => m_laws_eqEntryS_l1  n1 z.1 z.2.1 z.2.2) r _ (a0, a1, (0 : Int)) h (fun _ => rfl) (fun _ => by simp [hkeys]) ⟨rfl, rfl, rfl, trivial⟩ trivial ?_
    rintro n1 ⟨t0, t1, t5⟩ h N8 hN8
    replace h : m_laws_eqEntryS_l1  (n1 + 1) t0 t1 t5 = some _ := h
    refine LWP.seq_k fun N10 hN10 => ?_
    refine LWP.seq_k fun N11 hN11 => ?_
    refine LWP.region (l := [_,_,_,_]) ?_
    refine LWo.move (e_int t5) rfl (hn := ?_)
    refine LWo.move (e_Limpl_Entry t0) rfl (hn := ?_)
    refine LWo.lenM (f := e_impl_Entry) (l := t0) u_Limpl_Entry rfl (hn := ?_)
    refine LWo.int _ rfl rfl rfl (hn := ?_)
    refine LWo.nil (hN11 _ ?_)
    refine LWP.cond_split rfl (fun h12 => ?_) (fun h12 => ?_)
    ·have h := bT h12 h
     refine LWP.skip (hN10 _ ?_)
     refine LWP.seq_k fun N13 hN13 => ?_
     refine LWP.block ?_
     refine LWP.seq_k fun N14 hN14 => ?_
     refine bk h fun x15 e15 h => ?_
     refine bk h fun x16 e16 h => ?_
     refine bk h fun x17 e17 h => ?_
     refine LWP.drawF (l := [_,_,_,_,_,_,_,_,_,_]) [] [0, 1, 5] [([0], []), ([5], []), ([17, 18], []), ([19], []), ([1], []), ([5], []), ([21, 22], []), ([23], []), ([20, 24], []), ([25], [])] [0, 1, 5, 26] [] mixed (by kernel_rfl) rfl (by decide) ?_
     refine dq 17 rfl (fun _ g u h => LWo.move (e_Limpl_Entry t0) u.1 (hn := .nil (zn g))) ?_
     refine dq 18 rfl (fun _ g u h => LWo.move (e_int t5) u.1 (hn := .nil (zn g))) ?_
     refine dq 19 rfl (fun _ g u h => LWo.indexM (f := e_impl_Entry) e15 u_Limpl_Entry s_impl_Entry u.1 u.2.1 (hn := .nil (zn g))) ?_
     refine dq 20 rfl (fun _ g u h => LWo.loadN ((e_impl_Entry x15)).cells g_impl_Entry s_impl_Entry u.1 (Nat.le_of_ble_eq_true rfl) rfl (hn := .nil (zn g))) ?_
     refine dq 21 rfl (fun _ g u h => LWo.move (e_Limpl_Entry t1) u.1 (hn := .nil (zn g))) ?_
     refine dq 22 rfl (fun _ g u h => LWo.move (e_int t5) u.1 (hn := .nil (zn g))) ?_
     refine dq 23 rfl (fun _ g u h => LWo.indexM (f := e_impl_Entry) e16 u_Limpl_Entry s_impl_Entry u.1 u.2.1 (hn := .nil (zn g))) ?_
     refine dq 24 rfl (fun _ g u h => LWo.loadN ((e_impl_Entry x16)).cells g_impl_Entry s_impl_Entry u.1 (Nat.le_of_ble_eq_true rfl) rfl (hn := .nil (zn g))) ?_
     refine dq 25 rfl (fun _ g u h => LWo.vcall rfl (av2 u.1 u.2.1) (c_laws_eqEntry _ _ _ e17) (.same (.same (.nil))) (hn := .nil (zn g))) ?_
     refine dq 26 rfl (fun _ g u h => LWo.not u.1 (hn := .nil (zn g))) ?_
     refine ⟨rfl, by kernel_rfl, hN14 _ ?_⟩
     refine LWP.cond_split rfl (fun h18 => ?_) (fun h18 => ?_)
     ·have h := bT h18 h
      refine LWP.seq_k fun N19 hN19 => ?_
      refine LWP.region (l := [_]) ?_
      refine LWo.assign (e_bool false) rfl (hn := ?_)
      refine LWo.nil (hN19 _ ?_)
      obtain rfl := Option.some.inj h
      refine LWP.ret (QG.mk (.inr rfl) (.cons (.tmp (x := (e_bool false)) rfl) (.nil)) (RetOK.one0 (.pure rfl) (by decide)) rfl rfl)
     ·have h := bF h18 h
      refine LWP.skip (hN13 _ ?_)
      refine LWP.region (l := [_,_,_]) ?_
      refine LWo.move (e_int t5) rfl (hn := ?_)
      refine bk h fun x20 e20 h => ?_
      refine LWo.int _ rfl rfl (add_ck e20) (hn := ?_)
      refine LWo.assign (e_int x20) rfl (hn := ?_)
      refine LWo.nil (hN8 (t0, t1, x20) _ ⟨rfl, rfl, rfl, trivial⟩ trivial h)
    ·have h := bF h12 h
     refine LWP.exit (hN6 () _ trivial trivial h)

def m_laws_markText_j1 (t3 : ByteArray) : Option ByteArray :=
  (sCat? (⟨#[109]⟩ : ByteArray) t3).bind fun x19 =>
  some x19
def m_laws_markText_l1 : Nat → Int → ByteArray → Option ByteArray
  | 0, _, _ => none
  | n1 + 1, t0, t3 =>
    bif decide (t0 > (0 : Int)) then ((remI t0 (10 : Int)).bind fun x14 =>
    (ckI ((48 : Int) + x14)).bind fun x15 =>
    (sCat? (bStr ([(Lift.byteOf x15)] : (List UInt8))) t3).bind fun x16 =>
    (quoI t0 (10 : Int)).bind fun x17 =>
    (m_laws_markText_l1  n1) x17 x16)
    else (m_laws_markText_j1  t3)
def m_laws_markText (a0 : Int) : Option ByteArray :=
  bif decide (a0 ≤ (0 : Int)) then (some (⟨#[109, 48]⟩ : ByteArray))
  else (m_laws_markText_l1  ((a0 - (0 : Int)).toNat + 1) a0 (⟨#[]⟩ : ByteArray))
theorem c_laws_markText (a0 : Int) (r : ByteArray) (h : m_laws_markText a0 = some r) : Ret Try.prog f_laws_markText [e_int a0] (e_string r) := by
  refine Does.goG [] F_laws_markText rfl e_laws_markText n_laws_markText rfl (rvs := [.tmp 2]) rfl rfl ?_
  intro w0 ok0 lent ρ0
  refine LWP.seq_k fun N1 hN1 => ?_
  refine LWP.region (l := [_]) ?_
  refine LWo.assign (e_string (⟨#[]⟩ : ByteArray)) rfl (hn := ?_)
  refine LWo.nil (hN1 _ ?_)
  refine LWP.seq_k fun N2 hN2 => ?_
  refine LWP.seq_k fun N3 hN3 => ?_
  refine LWP.region (l := [_,_]) ?_
  refine LWo.move (e_int a0) rfl (hn := ?_)
  refine LWo.int _ rfl rfl rfl (hn := ?_)
  refine LWo.nil (hN3 _ ?_)
  refine LWP.cond_split rfl (fun h4 => ?_) (fun h4 => ?_)
  ·have h := bT h4 h
   refine LWP.seq_k fun N5 hN5 => ?_
   refine LWP.region (l := [_]) ?_
   refine LWo.assign (e_string (⟨#[109, 48]⟩ : ByteArray)) rfl (hn := ?_)
   refine LWo.nil (hN5 _ ?_)
   obtain rfl := Option.some.inj h
   refine LWP.ret (QG.mk (.inr rfl) (.cons (.tmp (x := (e_string (⟨#[109, 48]⟩ : ByteArray))) rfl) (.nil)) (RetOK.one0 (.pure rfl) (by decide)) rfl rfl)
  ·have h := bF h4 h
   refine LWP.skip (hN2 _ ?_)
   refine LWP.seq_k fun N6 hN6 => ?_
   refine LWP.region (l := [_]) ?_
   refine LWo.assign (e_string (⟨#[]⟩ : ByteArray)) rfl (hn := ?_)
   refine LWo.nil (hN6 _ ?_)
   refine LWP.join (α := ByteArray) (fun z : ByteArray => [(3, (e_string z))]) (fun z : ByteArray => []) (fun z : ByteArray => m_laws_markText_j1  z) r (fun _ => by simp [hkeys]) ?_ ?_
   ·rintro t3 h
    replace h : m_laws_markText_j1  t3 = some _ := h
    refine LWP.seq_k fun N18 hN18 => ?_
    refine LWP.region (l := [_,_,_]) ?_
    refine LWo.move (e_string t3) rfl (hn := ?_)
    refine bk h fun x19 e19 h => ?_
    refine LWo.str _ rfl rfl (cat_ck e19) (hn := ?_)
    refine LWo.assign (e_string x19) rfl (hn := ?_)
    refine LWo.nil (hN18 _ ?_)
    obtain rfl := Option.some.inj h
    refine LWP.ret (QG.mk (.inr rfl) (.cons (.tmp (x := (e_string x19)) rfl) (.nil)) (RetOK.one0 (.pure rfl) (by decide)) rfl rfl)
   ·intro N7 hN7
    refine LWP.block ?_
    refine LWP.loopM (α := Int × ByteArray) (fun z : Int × ByteArray => [(0, (e_int z.1)), (3, (e_string z.2))]) (fun z : Int × ByteArray => []) (fun n1 (z : Int × ByteArray) => m_laws_markText_l1  n1 z.1 z.2) r _ (a0, (⟨#[]⟩ : ByteArray)) h (fun _ => rfl) (fun _ => by simp [hkeys]) ⟨rfl, rfl, trivial⟩ trivial ?_
    rintro n1 ⟨t0, t3⟩ h N8 hN8
    replace h : m_laws_markText_l1  (n1 + 1) t0 t3 = some _ := h
    refine LWP.seq_k fun N10 hN10 => ?_
    refine LWP.seq_k fun N11 hN11 => ?_
    refine LWP.region (l := [_,_]) ?_
    refine LWo.move (e_int t0) rfl (hn := ?_)
    refine LWo.int _ rfl rfl rfl (hn := ?_)
    refine LWo.nil (hN11 _ ?_)
    refine LWP.cond_split rfl (fun h12 => ?_) (fun h12 => ?_)
    ·have h := bT h12 h
     refine LWP.skip (hN10 _ ?_)
     refine LWP.block ?_
     refine LWP.seq_k fun N13 hN13 => ?_
     refine LWP.region (l := [_,_,_,_,_,_,_,_,_]) ?_
     refine LWo.move (e_int t0) rfl (hn := ?_)
     refine bk h fun x14 e14 h => ?_
     refine LWo.int _ rfl rfl (rem_ck e14) (hn := ?_)
     refine bk h fun x15 e15 h => ?_
     refine LWo.int _ rfl rfl (add_ck e15) (hn := ?_)
     refine LWo.convU8 u_int u_uint8 rfl (hn := ?_)
     refine LWo.lit (ops := [_]) [(e_uint8 (Lift.byteOf x15))] u_Luint8 s_uint8 z_uint8 rfl rfl rfl rfl rfl rfl (hn := ?_)
     refine LWo.strM (l := ([(Lift.byteOf x15)] : (List UInt8))) u_Luint8 u_string u_uint8 rfl (hn := ?_)
     refine LWo.move (e_string t3) rfl (hn := ?_)
     refine bk h fun x16 e16 h => ?_
     refine LWo.str _ rfl rfl (cat_ck e16) (hn := ?_)
     refine LWo.assign (e_string x16) rfl (hn := ?_)
     refine LWo.nil (hN13 _ ?_)
     refine LWP.region (l := [_,_,_]) ?_
     refine LWo.move (e_int t0) rfl (hn := ?_)
     refine bk h fun x17 e17 h => ?_
     refine LWo.int _ rfl rfl (quo_ck e17) (hn := ?_)
     refine LWo.assign (e_int x17) rfl (hn := ?_)
     refine LWo.nil (hN8 (x17, x16) _ ⟨rfl, rfl, trivial⟩ trivial h)
    ·have h := bF h12 h
     refine LWP.exit (hN7 t3 _ ⟨rfl, trivial⟩ trivial h)

def m_laws_markValueS_j1 (t1 : Int) (o0 : (List S_impl_Value)) : Option (Int × (List S_impl_Value)) :=
  some (t1, o0)
def m_laws_markValueS_l1 : Nat → Int → Int → (List S_impl_Value) → Option (Int × (List S_impl_Value))
  | 0, _, _, _ => none
  | n1 + 1, t1, t5, o0 =>
    bif decide (t5 < (o0.length : Int)) then ((at? o0 t5).bind fun x11 =>
    (at? o0 t5).bind fun x12 =>
    lt ({ x12 with Kind := t1 }) fun y13 =>
    (ckI (t1 + (1 : Int))).bind fun x15 =>
    (at? (o0.set (t5).toNat y13) t5).bind fun x17 =>
    (at? (o0.set (t5).toNat y13) t5).bind fun x18 =>
    lt ({ x18 with N := x15 }) fun y19 =>
    (ckI (x15 + (1 : Int))).bind fun x21 =>
    (m_laws_markText x21).bind fun x23 =>
    (at? ((o0.set (t5).toNat y13).set (t5).toNat y19) t5).bind fun x24 =>
    (at? ((o0.set (t5).toNat y13).set (t5).toNat y19) t5).bind fun x25 =>
    lt ({ x25 with S := x23 }) fun y26 =>
    (ckI (x21 + (1 : Int))).bind fun x27 =>
    (ckI (t5 + (1 : Int))).bind fun x28 =>
    (m_laws_markValueS_l1  n1) x27 x28 (((o0.set (t5).toNat y13).set (t5).toNat y19).set (t5).toNat y26))
    else (m_laws_markValueS_j1  t1 o0)
def m_laws_markValueS (o0 : (List S_impl_Value)) (a1 : Int) : Option (Int × (List S_impl_Value)) :=
  m_laws_markValueS_l1  (((o0.length : Int) - (0 : Int)).toNat + 1) a1 (0 : Int) o0
theorem c_laws_markValueS (o0 : (List S_impl_Value)) (a1 : Int) (r : (Int × (List S_impl_Value))) (h : m_laws_markValueS o0 a1 = some r) : Does Try.prog f_laws_markValueS [.own 0 0 o0.length, e_int a1] [(0, (lob 3 e_impl_Value o0))] (fun x hh => x = e_int r.1 ∧ hh = [(0, (lob 3 e_impl_Value r.2))]) := by
  refine Does.goG [0] F_laws_markValueS rfl e_laws_markValueS n_laws_markValueS rfl (rvs := [.tmp 4]) rfl rfl ?_
  intro w0 ok0 lent ρ0
  refine LWP.seq_k fun N1 hN1 => ?_
  refine LWP.region (l := [_]) ?_
  refine LWo.assign (e_int (0 : Int)) rfl (hn := ?_)
  refine LWo.nil (hN1 _ ?_)
  refine LWP.join (α := Int × (List S_impl_Value)) (fun z : Int × (List S_impl_Value) => [(1, (e_int z.1))]) (fun z : Int × (List S_impl_Value) => [(0, (lob 3 e_impl_Value z.2))]) (fun z : Int × (List S_impl_Value) => m_laws_markValueS_j1  z.1 z.2) r (fun _ => by simp [hkeys]) ?_ ?_
  ·rintro ⟨t1, o0⟩ h
   replace h : m_laws_markValueS_j1  t1 o0 = some _ := h
   refine LWP.seq_k fun N29 hN29 => ?_
   refine LWP.region (l := [_,_]) ?_
   refine LWo.move (e_int t1) rfl (hn := ?_)
   refine LWo.assign (e_int t1) rfl (hn := ?_)
   refine LWo.nil (hN29 _ ?_)
   obtain rfl := Option.some.inj h
   refine LWP.ret (QG.mk (.inr rfl) (.cons (.tmp (x := (e_int t1)) rfl) (.nil)) (RetOK.one1 (.pure rfl) (by decide) rfl rfl rfl rfl rfl) rfl rfl)
  ·intro N2 hN2
   refine LWP.seq_k fun N3 hN3 => ?_
   refine LWP.region (l := [_]) ?_
   refine LWo.assign (e_int (0 : Int)) rfl (hn := ?_)
   refine LWo.nil (hN3 _ ?_)
   refine LWP.block ?_
   refine LWP.loopM (α := Int × Int × (List S_impl_Value)) (fun z : Int × Int × (List S_impl_Value) => [(0, (.own 0 0 (z.2.2).length)), (1, (e_int z.1)), (5, (e_int z.2.1))]) (fun z : Int × Int × (List S_impl_Value) => [(0, (lob 3 e_impl_Value z.2.2))]) (fun n1 (z : Int × Int × (List S_impl_Value)) => m_laws_markValueS_l1  n1 z.1 z.2.1 z.2.2) r _ (a1, (0 : Int), o0) h (fun _ => rfl) (fun _ => by simp [hkeys]) ⟨rfl, rfl, rfl, trivial⟩ ⟨rfl, trivial⟩ ?_
   rintro n1 ⟨t1, t5, o0⟩ h N4 hN4
   replace h : m_laws_markValueS_l1  (n1 + 1) t1 t5 o0 = some _ := h
   refine LWP.seq_k fun N6 hN6 => ?_
   refine LWP.seq_k fun N7 hN7 => ?_
   refine LWP.region (l := [_,_,_,_]) ?_
   refine LWo.move (e_int t5) rfl (hn := ?_)
   refine LWo.move (.own 0 0 (o0).length) rfl (hn := ?_)
   refine LWo.lenO u_Limpl_Value rfl (hn := ?_)
   refine LWo.int _ rfl rfl rfl (hn := ?_)
   refine LWo.nil (hN7 _ ?_)
   refine LWP.cond_split rfl (fun h8 => ?_) (fun h8 => ?_)
   ·have h := bT h8 h
    refine LWP.skip (hN6 _ ?_)
    refine LWP.seq_k fun N9 hN9 => ?_
    refine LWP.block ?_
    refine LWP.seq_k fun N10 hN10 => ?_
    refine LWP.region (l := [_,_,_,_,_,_]) ?_
    refine LWo.move (.own 0 0 (o0).length) rfl (hn := ?_)
    refine LWo.move (e_int t5) rfl (hn := ?_)
    refine LWo.move (e_int t1) rfl (hn := ?_)
    refine bk h fun x11 e11 h => ?_
    refine LWo.indexO e11 rfl u_Limpl_Value s_impl_Value rfl rfl rfl (hn := ?_)
    refine LWo.fieldPtr u_impl_Value rfl s_int rfl rfl (hn := ?_)
    refine bk h fun x12 e12 h => ?_
    refine lk h fun y13 e13 h => ?_
    refine LWo.storeO y13 e12 s_int rfl rfl rfl rfl rfl rfl rfl (by rw [e13]; rfl) (hn := ?_)
    refine LWo.nil (hN10 _ ?_)
    refine LWP.seq_k fun N14 hN14 => ?_
    refine LWP.region (l := [_,_,_]) ?_
    refine LWo.move (e_int t1) rfl (hn := ?_)
    refine bk h fun x15 e15 h => ?_
    refine LWo.int _ rfl rfl (add_ck e15) (hn := ?_)
    refine LWo.assign (e_int x15) rfl (hn := ?_)
    refine LWo.nil (hN14 _ ?_)
    refine LWP.seq_k fun N16 hN16 => ?_
    refine LWP.region (l := [_,_,_,_,_,_]) ?_
    refine LWo.move (.own 0 0 (o0).length) rfl (hn := ?_)
    refine LWo.move (e_int t5) rfl (hn := ?_)
    refine LWo.move (e_int x15) rfl (hn := ?_)
    refine bk h fun x17 e17 h => ?_
    refine LWo.indexO e17 List.length_set.symm u_Limpl_Value s_impl_Value rfl rfl rfl (hn := ?_)
    refine LWo.fieldPtr u_impl_Value rfl s_int rfl rfl (hn := ?_)
    refine bk h fun x18 e18 h => ?_
    refine lk h fun y19 e19 h => ?_
    refine LWo.storeO y19 e18 s_int rfl rfl rfl rfl rfl rfl rfl (by rw [e19]; rfl) (hn := ?_)
    refine LWo.nil (hN16 _ ?_)
    refine LWP.seq_k fun N20 hN20 => ?_
    refine LWP.region (l := [_,_,_]) ?_
    refine LWo.move (e_int x15) rfl (hn := ?_)
    refine bk h fun x21 e21 h => ?_
    refine LWo.int _ rfl rfl (add_ck e21) (hn := ?_)
    refine LWo.assign (e_int x21) rfl (hn := ?_)
    refine LWo.nil (hN20 _ ?_)
    refine LWP.seq_k fun N22 hN22 => ?_
    refine LWP.region (l := [_,_,_,_,_,_,_]) ?_
    refine LWo.move (.own 0 0 (o0).length) rfl (hn := ?_)
    refine LWo.move (e_int t5) rfl (hn := ?_)
    refine LWo.move (e_int x21) rfl (hn := ?_)
    refine bk h fun x23 e23 h => ?_
    refine LWo.vcall rfl rfl (c_laws_markText _ _ e23) (.same (.nil)) (hn := ?_)
    refine bk h fun x24 e24 h => ?_
    refine LWo.indexO e24 (List.length_set.symm.trans List.length_set.symm) u_Limpl_Value s_impl_Value rfl rfl rfl (hn := ?_)
    refine LWo.fieldPtr u_impl_Value rfl s_string rfl rfl (hn := ?_)
    refine bk h fun x25 e25 h => ?_
    refine lk h fun y26 e26 h => ?_
    refine LWo.storeO y26 e25 s_string rfl rfl rfl rfl rfl rfl rfl (by rw [e26]; rfl) (hn := ?_)
    refine LWo.nil (hN22 _ ?_)
    refine LWP.region (l := [_,_,_]) ?_
    refine LWo.move (e_int x21) rfl (hn := ?_)
    refine bk h fun x27 e27 h => ?_
    refine LWo.int _ rfl rfl (add_ck e27) (hn := ?_)
    refine LWo.assign (e_int x27) rfl (hn := ?_)
    refine LWo.nil (hN9 _ ?_)
    refine LWP.region (l := [_,_,_]) ?_
    refine LWo.move (e_int t5) rfl (hn := ?_)
    refine bk h fun x28 e28 h => ?_
    refine LWo.int _ rfl rfl (add_ck e28) (hn := ?_)
    refine LWo.assign (e_int x28) rfl (hn := ?_)
    refine LWo.nil (hN4 (x27, x28, (((o0.set (t5).toNat y13).set (t5).toNat y19).set (t5).toNat y26)) _ ⟨(congrArg (LV.own 0 0) ((List.length_set.symm.trans List.length_set.symm).trans List.length_set.symm)), rfl, rfl, trivial⟩ ⟨rfl, trivial⟩ h)
   ·have h := bF h8 h
    refine LWP.exit (hN2 (t1, o0) _ ⟨rfl, trivial⟩ ⟨rfl, trivial⟩ h)
theorem k_laws_markValueS (o0 : (List S_impl_Value)) (a1 : Int) (r : (Int × (List S_impl_Value))) (h : m_laws_markValueS o0 a1 = some r) (k : Nat) : Does Try.prog f_laws_markValueS [.own k 0 o0.length, e_int a1] [(k, (lob 3 e_impl_Value o0))] (fun x hh => x = e_int r.1 ∧ hh = [(k, (lob 3 e_impl_Value r.2))]) :=
  Does.nameO (c_laws_markValueS o0 a1 r h) (fun _ => rfl) k

def m_laws_markWriteS_j1 (t1 : Int) (o0 : (List S_impl_Write)) : Option (Int × (List S_impl_Write)) :=
  some (t1, o0)
def m_laws_markWriteS_l1 : Nat → Int → Int → (List S_impl_Write) → Option (Int × (List S_impl_Write))
  | 0, _, _, _ => none
  | n1 + 1, t1, t5, o0 =>
    bif decide (t5 < (o0.length : Int)) then ((at? o0 t5).bind fun x11 =>
    (at? o0 t5).bind fun x12 =>
    (ckI (t1 + (1 : Int))).bind fun x14 =>
    (at? (o0.set (t5).toNat ({ x12 with Key := t1 })) t5).bind fun x16 =>
    (at? (o0.set (t5).toNat ({ x12 with Key := t1 })) t5).bind fun x17 =>
    (m_laws_markValueS x17.Row x14).bind fun x18 =>
    (lenQ x18.2.length x17.Row.length ()).bind fun u19 =>
    lt ({ x17 with Row := x18.2 }) fun y20 =>
    (remI x18.1 (3 : Int)).bind fun x22 =>
    (at? ((o0.set (t5).toNat ({ x12 with Key := t1 })).set (t5).toNat y20) t5).bind fun x23 =>
    (at? ((o0.set (t5).toNat ({ x12 with Key := t1 })).set (t5).toNat y20) t5).bind fun x24 =>
    (ckI (x18.1 + (1 : Int))).bind fun x25 =>
    (ckI (t5 + (1 : Int))).bind fun x26 =>
    (m_laws_markWriteS_l1  n1) x25 x26 (((o0.set (t5).toNat ({ x12 with Key := t1 })).set (t5).toNat y20).set (t5).toNat ({ x24 with Gone := (x22 == (0 : Int)) })))
    else (m_laws_markWriteS_j1  t1 o0)
def m_laws_markWriteS (o0 : (List S_impl_Write)) (a1 : Int) : Option (Int × (List S_impl_Write)) :=
  m_laws_markWriteS_l1  (((o0.length : Int) - (0 : Int)).toNat + 1) a1 (0 : Int) o0
theorem c_laws_markWriteS (o0 : (List S_impl_Write)) (a1 : Int) (r : (Int × (List S_impl_Write))) (h : m_laws_markWriteS o0 a1 = some r) : Does Try.prog f_laws_markWriteS [.own 0 0 o0.length, e_int a1] [(0, (dob 3 e_impl_Write o0))] (fun x hh => x = e_int r.1 ∧ hh = [(0, (dob 3 e_impl_Write r.2))]) := by
  refine Does.goG [0] F_laws_markWriteS rfl e_laws_markWriteS n_laws_markWriteS rfl (rvs := [.tmp 4]) rfl rfl ?_
  intro w0 ok0 lent ρ0
  refine LWP.seq_k fun N1 hN1 => ?_
  refine LWP.region (l := [_]) ?_
  refine LWo.assign (e_int (0 : Int)) rfl (hn := ?_)
  refine LWo.nil (hN1 _ ?_)
  refine LWP.join (α := Int × (List S_impl_Write)) (fun z : Int × (List S_impl_Write) => [(1, (e_int z.1))]) (fun z : Int × (List S_impl_Write) => [(0, (dob 3 e_impl_Write z.2))]) (fun z : Int × (List S_impl_Write) => m_laws_markWriteS_j1  z.1 z.2) r (fun _ => by simp [hkeys]) ?_ ?_
  ·rintro ⟨t1, o0⟩ h
   replace h : m_laws_markWriteS_j1  t1 o0 = some _ := h
   refine LWP.seq_k fun N27 hN27 => ?_
   refine LWP.region (l := [_,_]) ?_
   refine LWo.move (e_int t1) rfl (hn := ?_)
   refine LWo.assign (e_int t1) rfl (hn := ?_)
   refine LWo.nil (hN27 _ ?_)
   obtain rfl := Option.some.inj h
   refine LWP.ret (QG.mk (.inr rfl) (.cons (.tmp (x := (e_int t1)) rfl) (.nil)) (RetOK.one1 (.pure rfl) (by decide) rfl rfl rfl rfl rfl) rfl rfl)
  ·intro N2 hN2
   refine LWP.seq_k fun N3 hN3 => ?_
   refine LWP.region (l := [_]) ?_
   refine LWo.assign (e_int (0 : Int)) rfl (hn := ?_)
   refine LWo.nil (hN3 _ ?_)
   refine LWP.block ?_
   refine LWP.loopM (α := Int × Int × (List S_impl_Write)) (fun z : Int × Int × (List S_impl_Write) => [(0, (.own 0 0 (z.2.2).length)), (1, (e_int z.1)), (5, (e_int z.2.1))]) (fun z : Int × Int × (List S_impl_Write) => [(0, (dob 3 e_impl_Write z.2.2))]) (fun n1 (z : Int × Int × (List S_impl_Write)) => m_laws_markWriteS_l1  n1 z.1 z.2.1 z.2.2) r _ (a1, (0 : Int), o0) h (fun _ => rfl) (fun _ => by simp [hkeys]) ⟨rfl, rfl, rfl, trivial⟩ ⟨rfl, trivial⟩ ?_
   rintro n1 ⟨t1, t5, o0⟩ h N4 hN4
   replace h : m_laws_markWriteS_l1  (n1 + 1) t1 t5 o0 = some _ := h
   refine LWP.seq_k fun N6 hN6 => ?_
   refine LWP.seq_k fun N7 hN7 => ?_
   refine LWP.region (l := [_,_,_,_]) ?_
   refine LWo.move (e_int t5) rfl (hn := ?_)
   refine LWo.move (.own 0 0 (o0).length) rfl (hn := ?_)
   refine LWo.lenO u_Limpl_Write rfl (hn := ?_)
   refine LWo.int _ rfl rfl rfl (hn := ?_)
   refine LWo.nil (hN7 _ ?_)
   refine LWP.cond_split rfl (fun h8 => ?_) (fun h8 => ?_)
   ·have h := bT h8 h
    refine LWP.skip (hN6 _ ?_)
    refine LWP.seq_k fun N9 hN9 => ?_
    refine LWP.block ?_
    refine LWP.seq_k fun N10 hN10 => ?_
    refine LWP.region (l := [_,_,_,_,_,_]) ?_
    refine LWo.move (.own 0 0 (o0).length) rfl (hn := ?_)
    refine LWo.move (e_int t5) rfl (hn := ?_)
    refine LWo.move (e_int t1) rfl (hn := ?_)
    refine bk h fun x11 e11 h => ?_
    refine LWo.indexD e11 rfl u_Limpl_Write s_impl_Write rfl rfl rfl (hn := ?_)
    refine LWo.fieldPtr u_impl_Write rfl s_int rfl rfl (hn := ?_)
    refine bk h fun x12 e12 h => ?_
    refine LWo.storeDM (ks := []) (f := e_impl_Write) ({ x12 with Key := t1 } : S_impl_Write) e12 s_int rfl rfl rfl rfl (.cons (.imm _) .nil) (by decide) rfl rfl rfl (hn := ?_)
    refine LWo.nil (hN10 _ ?_)
    refine LWP.seq_k fun N13 hN13 => ?_
    refine LWP.region (l := [_,_,_]) ?_
    refine LWo.move (e_int t1) rfl (hn := ?_)
    refine bk h fun x14 e14 h => ?_
    refine LWo.int _ rfl rfl (add_ck e14) (hn := ?_)
    refine LWo.assign (e_int x14) rfl (hn := ?_)
    refine LWo.nil (hN13 _ ?_)
    refine LWP.seq_k fun N15 hN15 => ?_
    refine LWP.region (l := [_,_,_,_,_,_,_,_]) ?_
    refine LWo.move (.own 0 0 (o0).length) rfl (hn := ?_)
    refine LWo.move (e_int t5) rfl (hn := ?_)
    refine bk h fun x16 e16 h => ?_
    refine LWo.indexD e16 List.length_set.symm u_Limpl_Write s_impl_Write rfl rfl rfl (hn := ?_)
    refine LWo.fieldPtr u_impl_Write rfl s_Limpl_Value rfl rfl (hn := ?_)
    refine bk h fun x17 e17 h => ?_
    refine LWo.takeF (f := e_impl_Write) (g := e_impl_Value) (ys := x17.Row) 1023 (.agg (setRange (e_impl_Write x17).cells 1 [.own 1023 0 x17.Row.length])) e17 g_Limpl_Value rfl rfl rfl rfl (fun _ => rfl) rfl rfl (hn := ?_)
    refine LWo.move (e_int x14) rfl (hn := ?_)
    refine bk h fun x18 e18 h => ?_
    refine bk h fun u19 e19 h => ?_
    refine lk h fun y20 e20 h => ?_
    refine LWo.ucallM (e := e_impl_Value) rfl rfl (k_laws_markValueS _ _ _ e18 1023) rfl rfl (some 25) rfl (hn := ?_)
    refine LWo.foldF (o := 0) (k2 := 1023) (f := e_impl_Write) (g := e_impl_Value) (l := (o0.set (t5).toNat ({ x12 with Key := t1 }))) (i := t5) (ys := x18.2) (yo := (.agg (setRange (e_impl_Write x17).cells 1 [.own 1023 0 x17.Row.length]))) 1 y20 e17 rfl rfl (lenQ_some e19).1.symm rfl (by rw [e20]; rfl) (fun _ => rfl) (fun _ => rfl) rfl ?_
    refine LWo.assign (e_int x18.1) rfl (hn := ?_)
    refine LWo.nil (hN15 _ ?_)
    refine LWP.seq_k fun N21 hN21 => ?_
    refine LWP.region (l := [_,_,_,_,_,_,_,_]) ?_
    refine LWo.move (.own 0 0 (o0).length) rfl (hn := ?_)
    refine LWo.move (e_int t5) rfl (hn := ?_)
    refine LWo.move (e_int x18.1) rfl (hn := ?_)
    refine bk h fun x22 e22 h => ?_
    refine LWo.int _ rfl rfl (rem_ck e22) (hn := ?_)
    refine LWo.int _ rfl rfl rfl (hn := ?_)
    refine bk h fun x23 e23 h => ?_
    refine LWo.indexD e23 (List.length_set.symm.trans List.length_set.symm) u_Limpl_Write s_impl_Write rfl rfl rfl (hn := ?_)
    refine LWo.fieldPtr u_impl_Write rfl s_bool rfl rfl (hn := ?_)
    refine bk h fun x24 e24 h => ?_
    refine LWo.storeDM (ks := []) (f := e_impl_Write) ({ x24 with Gone := (x22 == (0 : Int)) } : S_impl_Write) e24 s_bool rfl rfl rfl rfl (.cons (.imm _) .nil) (by decide) rfl rfl rfl (hn := ?_)
    refine LWo.nil (hN21 _ ?_)
    refine LWP.region (l := [_,_,_]) ?_
    refine LWo.move (e_int x18.1) rfl (hn := ?_)
    refine bk h fun x25 e25 h => ?_
    refine LWo.int _ rfl rfl (add_ck e25) (hn := ?_)
    refine LWo.assign (e_int x25) rfl (hn := ?_)
    refine LWo.nil (hN9 _ ?_)
    refine LWP.region (l := [_,_,_]) ?_
    refine LWo.move (e_int t5) rfl (hn := ?_)
    refine bk h fun x26 e26 h => ?_
    refine LWo.int _ rfl rfl (add_ck e26) (hn := ?_)
    refine LWo.assign (e_int x26) rfl (hn := ?_)
    refine LWo.nil (hN4 (x25, x26, (((o0.set (t5).toNat ({ x12 with Key := t1 })).set (t5).toNat y20).set (t5).toNat ({ x24 with Gone := (x22 == (0 : Int)) }))) _ ⟨(congrArg (LV.own 0 0) ((List.length_set.symm.trans List.length_set.symm).trans List.length_set.symm)), rfl, rfl, trivial⟩ ⟨rfl, trivial⟩ h)
   ·have h := bF h8 h
    refine LWP.exit (hN2 (t1, o0) _ ⟨rfl, trivial⟩ ⟨rfl, trivial⟩ h)
theorem k_laws_markWriteS (o0 : (List S_impl_Write)) (a1 : Int) (r : (Int × (List S_impl_Write))) (h : m_laws_markWriteS o0 a1 = some r) (k : Nat) : Does Try.prog f_laws_markWriteS [.own k 0 o0.length, e_int a1] [(k, (dob 3 e_impl_Write o0))] (fun x hh => x = e_int r.1 ∧ hh = [(k, (dob 3 e_impl_Write r.2))]) :=
  Does.nameOD (c_laws_markWriteS o0 a1 r h) (fun _ => rfl) k

def m_laws_markEntryS_j1 (t1 : Int) (o0 : (List S_impl_Entry)) : Option (Int × (List S_impl_Entry)) :=
  some (t1, o0)
def m_laws_markEntryS_l1 : Nat → Int → Int → (List S_impl_Entry) → Option (Int × (List S_impl_Entry))
  | 0, _, _, _ => none
  | n1 + 1, t1, t5, o0 =>
    bif decide (t5 < (o0.length : Int)) then ((at? o0 t5).bind fun x11 =>
    (at? o0 t5).bind fun x12 =>
    (ckI (t1 + (1 : Int))).bind fun x14 =>
    (at? (o0.set (t5).toNat ({ x12 with Time := t1 })) t5).bind fun x15 =>
    (at? (o0.set (t5).toNat ({ x12 with Time := t1 })) t5).bind fun x16 =>
    (m_laws_markWriteS x16.Writes x14).bind fun x17 =>
    (lenQ x17.2.length x16.Writes.length ()).bind fun u18 =>
    lt ({ x16 with Writes := x17.2 }) fun y19 =>
    (ckI (t5 + (1 : Int))).bind fun x20 =>
    (m_laws_markEntryS_l1  n1) x17.1 x20 ((o0.set (t5).toNat ({ x12 with Time := t1 })).set (t5).toNat y19))
    else (m_laws_markEntryS_j1  t1 o0)
def m_laws_markEntryS (o0 : (List S_impl_Entry)) (a1 : Int) : Option (Int × (List S_impl_Entry)) :=
  m_laws_markEntryS_l1  (((o0.length : Int) - (0 : Int)).toNat + 1) a1 (0 : Int) o0
theorem c_laws_markEntryS (o0 : (List S_impl_Entry)) (a1 : Int) (r : (Int × (List S_impl_Entry))) (h : m_laws_markEntryS o0 a1 = some r) : Does Try.prog f_laws_markEntryS [.own 0 0 o0.length, e_int a1] [(0, (dob 2 e_impl_Entry o0))] (fun x hh => x = e_int r.1 ∧ hh = [(0, (dob 2 e_impl_Entry r.2))]) := by
  refine Does.goG [0] F_laws_markEntryS rfl e_laws_markEntryS n_laws_markEntryS rfl (rvs := [.tmp 4]) rfl rfl ?_
  intro w0 ok0 lent ρ0
  refine LWP.seq_k fun N1 hN1 => ?_
  refine LWP.region (l := [_]) ?_
  refine LWo.assign (e_int (0 : Int)) rfl (hn := ?_)
  refine LWo.nil (hN1 _ ?_)
  refine LWP.join (α := Int × (List S_impl_Entry)) (fun z : Int × (List S_impl_Entry) => [(1, (e_int z.1))]) (fun z : Int × (List S_impl_Entry) => [(0, (dob 2 e_impl_Entry z.2))]) (fun z : Int × (List S_impl_Entry) => m_laws_markEntryS_j1  z.1 z.2) r (fun _ => by simp [hkeys]) ?_ ?_
  ·rintro ⟨t1, o0⟩ h
   replace h : m_laws_markEntryS_j1  t1 o0 = some _ := h
   refine LWP.seq_k fun N21 hN21 => ?_
   refine LWP.region (l := [_,_]) ?_
   refine LWo.move (e_int t1) rfl (hn := ?_)
   refine LWo.assign (e_int t1) rfl (hn := ?_)
   refine LWo.nil (hN21 _ ?_)
   obtain rfl := Option.some.inj h
   refine LWP.ret (QG.mk (.inr rfl) (.cons (.tmp (x := (e_int t1)) rfl) (.nil)) (RetOK.one1 (.pure rfl) (by decide) rfl rfl rfl rfl rfl) rfl rfl)
  ·intro N2 hN2
   refine LWP.seq_k fun N3 hN3 => ?_
   refine LWP.region (l := [_]) ?_
   refine LWo.assign (e_int (0 : Int)) rfl (hn := ?_)
   refine LWo.nil (hN3 _ ?_)
   refine LWP.block ?_
   refine LWP.loopM (α := Int × Int × (List S_impl_Entry)) (fun z : Int × Int × (List S_impl_Entry) => [(0, (.own 0 0 (z.2.2).length)), (1, (e_int z.1)), (5, (e_int z.2.1))]) (fun z : Int × Int × (List S_impl_Entry) => [(0, (dob 2 e_impl_Entry z.2.2))]) (fun n1 (z : Int × Int × (List S_impl_Entry)) => m_laws_markEntryS_l1  n1 z.1 z.2.1 z.2.2) r _ (a1, (0 : Int), o0) h (fun _ => rfl) (fun _ => by simp [hkeys]) ⟨rfl, rfl, rfl, trivial⟩ ⟨rfl, trivial⟩ ?_
   rintro n1 ⟨t1, t5, o0⟩ h N4 hN4
   replace h : m_laws_markEntryS_l1  (n1 + 1) t1 t5 o0 = some _ := h
   refine LWP.seq_k fun N6 hN6 => ?_
   refine LWP.seq_k fun N7 hN7 => ?_
   refine LWP.region (l := [_,_,_,_]) ?_
   refine LWo.move (e_int t5) rfl (hn := ?_)
   refine LWo.move (.own 0 0 (o0).length) rfl (hn := ?_)
   refine LWo.lenO u_Limpl_Entry rfl (hn := ?_)
   refine LWo.int _ rfl rfl rfl (hn := ?_)
   refine LWo.nil (hN7 _ ?_)
   refine LWP.cond_split rfl (fun h8 => ?_) (fun h8 => ?_)
   ·have h := bT h8 h
    refine LWP.skip (hN6 _ ?_)
    refine LWP.seq_k fun N9 hN9 => ?_
    refine LWP.block ?_
    refine LWP.seq_k fun N10 hN10 => ?_
    refine LWP.region (l := [_,_,_,_,_,_]) ?_
    refine LWo.move (.own 0 0 (o0).length) rfl (hn := ?_)
    refine LWo.move (e_int t5) rfl (hn := ?_)
    refine LWo.move (e_int t1) rfl (hn := ?_)
    refine bk h fun x11 e11 h => ?_
    refine LWo.indexD e11 rfl u_Limpl_Entry s_impl_Entry rfl rfl rfl (hn := ?_)
    refine LWo.fieldPtr u_impl_Entry rfl s_int rfl rfl (hn := ?_)
    refine bk h fun x12 e12 h => ?_
    refine LWo.storeDM (ks := []) (f := e_impl_Entry) ({ x12 with Time := t1 } : S_impl_Entry) e12 s_int rfl rfl rfl rfl (.cons (.imm _) .nil) (by decide) rfl rfl rfl (hn := ?_)
    refine LWo.nil (hN10 _ ?_)
    refine LWP.seq_k fun N13 hN13 => ?_
    refine LWP.region (l := [_,_,_]) ?_
    refine LWo.move (e_int t1) rfl (hn := ?_)
    refine bk h fun x14 e14 h => ?_
    refine LWo.int _ rfl rfl (add_ck e14) (hn := ?_)
    refine LWo.assign (e_int x14) rfl (hn := ?_)
    refine LWo.nil (hN13 _ ?_)
    refine LWP.region (l := [_,_,_,_,_,_,_,_]) ?_
    refine LWo.move (.own 0 0 (o0).length) rfl (hn := ?_)
    refine LWo.move (e_int t5) rfl (hn := ?_)
    refine bk h fun x15 e15 h => ?_
    refine LWo.indexD e15 List.length_set.symm u_Limpl_Entry s_impl_Entry rfl rfl rfl (hn := ?_)
    refine LWo.fieldPtr u_impl_Entry rfl s_Limpl_Write rfl rfl (hn := ?_)
    refine bk h fun x16 e16 h => ?_
    refine LWo.takeN (f := e_impl_Entry) (g := e_impl_Write) (ys := x16.Writes) 1023 (.agg (setRange (e_impl_Entry x16).cells 1 [.own 1023 0 x16.Writes.length])) e16 g_Limpl_Write rfl rfl rfl rfl rfl rfl (hn := ?_)
    refine LWo.move (e_int x14) rfl (hn := ?_)
    refine bk h fun x17 e17 h => ?_
    refine bk h fun u18 e18 h => ?_
    refine lk h fun y19 e19 h => ?_
    refine LWo.ucallD (e := e_impl_Write) rfl rfl (k_laws_markWriteS _ _ _ e17 1023) rfl rfl (some 25) rfl (hn := ?_)
    refine LWo.foldN (o := 0) (k2 := 1023) (f := e_impl_Entry) (g := e_impl_Write) (l := (o0.set (t5).toNat ({ x12 with Time := t1 }))) (i := t5) (ys := x17.2) (yo := (.agg (setRange (e_impl_Entry x16).cells 1 [.own 1023 0 x16.Writes.length]))) 1 y19 e16 rfl rfl (lenQ_some e18).1.symm rfl (by rw [e19]; rfl) (fun _ => rfl) rfl ?_
    refine LWo.assign (e_int x17.1) rfl (hn := ?_)
    refine LWo.nil (hN9 _ ?_)
    refine LWP.region (l := [_,_,_]) ?_
    refine LWo.move (e_int t5) rfl (hn := ?_)
    refine bk h fun x20 e20 h => ?_
    refine LWo.int _ rfl rfl (add_ck e20) (hn := ?_)
    refine LWo.assign (e_int x20) rfl (hn := ?_)
    refine LWo.nil (hN4 (x17.1, x20, ((o0.set (t5).toNat ({ x12 with Time := t1 })).set (t5).toNat y19)) _ ⟨(congrArg (LV.own 0 0) (List.length_set.symm.trans List.length_set.symm)), rfl, rfl, trivial⟩ ⟨rfl, trivial⟩ h)
   ·have h := bF h8 h
    refine LWP.exit (hN2 (t1, o0) _ ⟨rfl, trivial⟩ ⟨rfl, trivial⟩ h)
theorem k_laws_markEntryS (o0 : (List S_impl_Entry)) (a1 : Int) (r : (Int × (List S_impl_Entry))) (h : m_laws_markEntryS o0 a1 = some r) (k : Nat) : Does Try.prog f_laws_markEntryS [.own k 0 o0.length, e_int a1] [(k, (dob 2 e_impl_Entry o0))] (fun x hh => x = e_int r.1 ∧ hh = [(k, (dob 2 e_impl_Entry r.2))]) :=
  Does.nameOD (c_laws_markEntryS o0 a1 r h) (fun _ => rfl) k

def m_laws_markVersionS_j1 (t1 : Int) (o0 : (List S_impl_Version)) : Option (Int × (List S_impl_Version)) :=
  some (t1, o0)
def m_laws_markVersionS_l1 : Nat → Int → Int → (List S_impl_Version) → Option (Int × (List S_impl_Version))
  | 0, _, _, _ => none
  | n1 + 1, t1, t5, o0 =>
    bif decide (t5 < (o0.length : Int)) then ((at? o0 t5).bind fun x11 =>
    (at? o0 t5).bind fun x12 =>
    (ckI (t1 + (1 : Int))).bind fun x14 =>
    (at? (o0.set (t5).toNat ({ x12 with Key := t1 })) t5).bind fun x16 =>
    (at? (o0.set (t5).toNat ({ x12 with Key := t1 })) t5).bind fun x17 =>
    (ckI (x14 + (1 : Int))).bind fun x19 =>
    (at? ((o0.set (t5).toNat ({ x12 with Key := t1 })).set (t5).toNat ({ x17 with Born := x14 })) t5).bind fun x21 =>
    (at? ((o0.set (t5).toNat ({ x12 with Key := t1 })).set (t5).toNat ({ x17 with Born := x14 })) t5).bind fun x22 =>
    (ckI (x19 + (1 : Int))).bind fun x24 =>
    (at? (((o0.set (t5).toNat ({ x12 with Key := t1 })).set (t5).toNat ({ x17 with Born := x14 })).set (t5).toNat ({ x22 with Died := x19 })) t5).bind fun x25 =>
    (at? (((o0.set (t5).toNat ({ x12 with Key := t1 })).set (t5).toNat ({ x17 with Born := x14 })).set (t5).toNat ({ x22 with Died := x19 })) t5).bind fun x26 =>
    (m_laws_markValueS x26.Row x24).bind fun x27 =>
    (lenQ x27.2.length x26.Row.length ()).bind fun u28 =>
    lt ({ x26 with Row := x27.2 }) fun y29 =>
    (ckI (t5 + (1 : Int))).bind fun x30 =>
    (m_laws_markVersionS_l1  n1) x27.1 x30 ((((o0.set (t5).toNat ({ x12 with Key := t1 })).set (t5).toNat ({ x17 with Born := x14 })).set (t5).toNat ({ x22 with Died := x19 })).set (t5).toNat y29))
    else (m_laws_markVersionS_j1  t1 o0)
def m_laws_markVersionS (o0 : (List S_impl_Version)) (a1 : Int) : Option (Int × (List S_impl_Version)) :=
  m_laws_markVersionS_l1  (((o0.length : Int) - (0 : Int)).toNat + 1) a1 (0 : Int) o0
theorem c_laws_markVersionS (o0 : (List S_impl_Version)) (a1 : Int) (r : (Int × (List S_impl_Version))) (h : m_laws_markVersionS o0 a1 = some r) : Does Try.prog f_laws_markVersionS [.own 0 0 o0.length, e_int a1] [(0, (dob 4 e_impl_Version o0))] (fun x hh => x = e_int r.1 ∧ hh = [(0, (dob 4 e_impl_Version r.2))]) := by
  refine Does.goG [0] F_laws_markVersionS rfl e_laws_markVersionS n_laws_markVersionS rfl (rvs := [.tmp 4]) rfl rfl ?_
  intro w0 ok0 lent ρ0
  refine LWP.seq_k fun N1 hN1 => ?_
  refine LWP.region (l := [_]) ?_
  refine LWo.assign (e_int (0 : Int)) rfl (hn := ?_)
  refine LWo.nil (hN1 _ ?_)
  refine LWP.join (α := Int × (List S_impl_Version)) (fun z : Int × (List S_impl_Version) => [(1, (e_int z.1))]) (fun z : Int × (List S_impl_Version) => [(0, (dob 4 e_impl_Version z.2))]) (fun z : Int × (List S_impl_Version) => m_laws_markVersionS_j1  z.1 z.2) r (fun _ => by simp [hkeys]) ?_ ?_
  ·rintro ⟨t1, o0⟩ h
   replace h : m_laws_markVersionS_j1  t1 o0 = some _ := h
   refine LWP.seq_k fun N31 hN31 => ?_
   refine LWP.region (l := [_,_]) ?_
   refine LWo.move (e_int t1) rfl (hn := ?_)
   refine LWo.assign (e_int t1) rfl (hn := ?_)
   refine LWo.nil (hN31 _ ?_)
   obtain rfl := Option.some.inj h
   refine LWP.ret (QG.mk (.inr rfl) (.cons (.tmp (x := (e_int t1)) rfl) (.nil)) (RetOK.one1 (.pure rfl) (by decide) rfl rfl rfl rfl rfl) rfl rfl)
  ·intro N2 hN2
   refine LWP.seq_k fun N3 hN3 => ?_
   refine LWP.region (l := [_]) ?_
   refine LWo.assign (e_int (0 : Int)) rfl (hn := ?_)
   refine LWo.nil (hN3 _ ?_)
   refine LWP.block ?_
   refine LWP.loopM (α := Int × Int × (List S_impl_Version)) (fun z : Int × Int × (List S_impl_Version) => [(0, (.own 0 0 (z.2.2).length)), (1, (e_int z.1)), (5, (e_int z.2.1))]) (fun z : Int × Int × (List S_impl_Version) => [(0, (dob 4 e_impl_Version z.2.2))]) (fun n1 (z : Int × Int × (List S_impl_Version)) => m_laws_markVersionS_l1  n1 z.1 z.2.1 z.2.2) r _ (a1, (0 : Int), o0) h (fun _ => rfl) (fun _ => by simp [hkeys]) ⟨rfl, rfl, rfl, trivial⟩ ⟨rfl, trivial⟩ ?_
   rintro n1 ⟨t1, t5, o0⟩ h N4 hN4
   replace h : m_laws_markVersionS_l1  (n1 + 1) t1 t5 o0 = some _ := h
   refine LWP.seq_k fun N6 hN6 => ?_
   refine LWP.seq_k fun N7 hN7 => ?_
   refine LWP.region (l := [_,_,_,_]) ?_
   refine LWo.move (e_int t5) rfl (hn := ?_)
   refine LWo.move (.own 0 0 (o0).length) rfl (hn := ?_)
   refine LWo.lenO u_Limpl_Version rfl (hn := ?_)
   refine LWo.int _ rfl rfl rfl (hn := ?_)
   refine LWo.nil (hN7 _ ?_)
   refine LWP.cond_split rfl (fun h8 => ?_) (fun h8 => ?_)
   ·have h := bT h8 h
    refine LWP.skip (hN6 _ ?_)
    refine LWP.seq_k fun N9 hN9 => ?_
    refine LWP.block ?_
    refine LWP.seq_k fun N10 hN10 => ?_
    refine LWP.region (l := [_,_,_,_,_,_]) ?_
    refine LWo.move (.own 0 0 (o0).length) rfl (hn := ?_)
    refine LWo.move (e_int t5) rfl (hn := ?_)
    refine LWo.move (e_int t1) rfl (hn := ?_)
    refine bk h fun x11 e11 h => ?_
    refine LWo.indexD e11 rfl u_Limpl_Version s_impl_Version rfl rfl rfl (hn := ?_)
    refine LWo.fieldPtr u_impl_Version rfl s_int rfl rfl (hn := ?_)
    refine bk h fun x12 e12 h => ?_
    refine LWo.storeDM (ks := []) (f := e_impl_Version) ({ x12 with Key := t1 } : S_impl_Version) e12 s_int rfl rfl rfl rfl (.cons (.imm _) .nil) (by decide) rfl rfl rfl (hn := ?_)
    refine LWo.nil (hN10 _ ?_)
    refine LWP.seq_k fun N13 hN13 => ?_
    refine LWP.region (l := [_,_,_]) ?_
    refine LWo.move (e_int t1) rfl (hn := ?_)
    refine bk h fun x14 e14 h => ?_
    refine LWo.int _ rfl rfl (add_ck e14) (hn := ?_)
    refine LWo.assign (e_int x14) rfl (hn := ?_)
    refine LWo.nil (hN13 _ ?_)
    refine LWP.seq_k fun N15 hN15 => ?_
    refine LWP.region (l := [_,_,_,_,_,_]) ?_
    refine LWo.move (.own 0 0 (o0).length) rfl (hn := ?_)
    refine LWo.move (e_int t5) rfl (hn := ?_)
    refine LWo.move (e_int x14) rfl (hn := ?_)
    refine bk h fun x16 e16 h => ?_
    refine LWo.indexD e16 List.length_set.symm u_Limpl_Version s_impl_Version rfl rfl rfl (hn := ?_)
    refine LWo.fieldPtr u_impl_Version rfl s_int rfl rfl (hn := ?_)
    refine bk h fun x17 e17 h => ?_
    refine LWo.storeDM (ks := []) (f := e_impl_Version) ({ x17 with Born := x14 } : S_impl_Version) e17 s_int rfl rfl rfl rfl (.cons (.imm _) .nil) (by decide) rfl rfl rfl (hn := ?_)
    refine LWo.nil (hN15 _ ?_)
    refine LWP.seq_k fun N18 hN18 => ?_
    refine LWP.region (l := [_,_,_]) ?_
    refine LWo.move (e_int x14) rfl (hn := ?_)
    refine bk h fun x19 e19 h => ?_
    refine LWo.int _ rfl rfl (add_ck e19) (hn := ?_)
    refine LWo.assign (e_int x19) rfl (hn := ?_)
    refine LWo.nil (hN18 _ ?_)
    refine LWP.seq_k fun N20 hN20 => ?_
    refine LWP.region (l := [_,_,_,_,_,_]) ?_
    refine LWo.move (.own 0 0 (o0).length) rfl (hn := ?_)
    refine LWo.move (e_int t5) rfl (hn := ?_)
    refine LWo.move (e_int x19) rfl (hn := ?_)
    refine bk h fun x21 e21 h => ?_
    refine LWo.indexD e21 (List.length_set.symm.trans List.length_set.symm) u_Limpl_Version s_impl_Version rfl rfl rfl (hn := ?_)
    refine LWo.fieldPtr u_impl_Version rfl s_int rfl rfl (hn := ?_)
    refine bk h fun x22 e22 h => ?_
    refine LWo.storeDM (ks := []) (f := e_impl_Version) ({ x22 with Died := x19 } : S_impl_Version) e22 s_int rfl rfl rfl rfl (.cons (.imm _) .nil) (by decide) rfl rfl rfl (hn := ?_)
    refine LWo.nil (hN20 _ ?_)
    refine LWP.seq_k fun N23 hN23 => ?_
    refine LWP.region (l := [_,_,_]) ?_
    refine LWo.move (e_int x19) rfl (hn := ?_)
    refine bk h fun x24 e24 h => ?_
    refine LWo.int _ rfl rfl (add_ck e24) (hn := ?_)
    refine LWo.assign (e_int x24) rfl (hn := ?_)
    refine LWo.nil (hN23 _ ?_)
    refine LWP.region (l := [_,_,_,_,_,_,_,_]) ?_
    refine LWo.move (.own 0 0 (o0).length) rfl (hn := ?_)
    refine LWo.move (e_int t5) rfl (hn := ?_)
    refine bk h fun x25 e25 h => ?_
    refine LWo.indexD e25 ((List.length_set.symm.trans List.length_set.symm).trans List.length_set.symm) u_Limpl_Version s_impl_Version rfl rfl rfl (hn := ?_)
    refine LWo.fieldPtr u_impl_Version rfl s_Limpl_Value rfl rfl (hn := ?_)
    refine bk h fun x26 e26 h => ?_
    refine LWo.takeF (f := e_impl_Version) (g := e_impl_Value) (ys := x26.Row) 1037 (.agg (setRange (e_impl_Version x26).cells 3 [.own 1037 0 x26.Row.length])) e26 g_Limpl_Value rfl rfl rfl rfl (fun _ => rfl) rfl rfl (hn := ?_)
    refine LWo.move (e_int x24) rfl (hn := ?_)
    refine bk h fun x27 e27 h => ?_
    refine bk h fun u28 e28 h => ?_
    refine lk h fun y29 e29 h => ?_
    refine LWo.ucallM (e := e_impl_Value) rfl rfl (k_laws_markValueS _ _ _ e27 1037) rfl rfl (some 39) rfl (hn := ?_)
    refine LWo.foldF (o := 0) (k2 := 1037) (f := e_impl_Version) (g := e_impl_Value) (l := (((o0.set (t5).toNat ({ x12 with Key := t1 })).set (t5).toNat ({ x17 with Born := x14 })).set (t5).toNat ({ x22 with Died := x19 }))) (i := t5) (ys := x27.2) (yo := (.agg (setRange (e_impl_Version x26).cells 3 [.own 1037 0 x26.Row.length]))) 3 y29 e26 rfl rfl (lenQ_some e28).1.symm rfl (by rw [e29]; rfl) (fun _ => rfl) (fun _ => rfl) rfl ?_
    refine LWo.assign (e_int x27.1) rfl (hn := ?_)
    refine LWo.nil (hN9 _ ?_)
    refine LWP.region (l := [_,_,_]) ?_
    refine LWo.move (e_int t5) rfl (hn := ?_)
    refine bk h fun x30 e30 h => ?_
    refine LWo.int _ rfl rfl (add_ck e30) (hn := ?_)
    refine LWo.assign (e_int x30) rfl (hn := ?_)
    refine LWo.nil (hN4 (x27.1, x30, ((((o0.set (t5).toNat ({ x12 with Key := t1 })).set (t5).toNat ({ x17 with Born := x14 })).set (t5).toNat ({ x22 with Died := x19 })).set (t5).toNat y29)) _ ⟨(congrArg (LV.own 0 0) (((List.length_set.symm.trans List.length_set.symm).trans List.length_set.symm).trans List.length_set.symm)), rfl, rfl, trivial⟩ ⟨rfl, trivial⟩ h)
   ·have h := bF h8 h
    refine LWP.exit (hN2 (t1, o0) _ ⟨rfl, trivial⟩ ⟨rfl, trivial⟩ h)
theorem k_laws_markVersionS (o0 : (List S_impl_Version)) (a1 : Int) (r : (Int × (List S_impl_Version))) (h : m_laws_markVersionS o0 a1 = some r) (k : Nat) : Does Try.prog f_laws_markVersionS [.own k 0 o0.length, e_int a1] [(k, (dob 4 e_impl_Version o0))] (fun x hh => x = e_int r.1 ∧ hh = [(k, (dob 4 e_impl_Version r.2))]) :=
  Does.nameOD (c_laws_markVersionS o0 a1 r h) (fun _ => rfl) k

def m_laws_heldValueS_j1 (t1 : Int) : Option Int :=
  some t1
def m_laws_heldValueS_l1 : Nat → (List S_impl_Value) → Int → Int → Option Int
  | 0, _, _, _ => none
  | n1 + 1, t0, t1, t5 =>
    bif decide (t5 < (t0.length : Int)) then ((at? t0 t5).bind fun x12 =>
    bif (x12.Kind != t1) then (some (-1 : Int))
    else ((ckI (t1 + (1 : Int))).bind fun x16 =>
    (at? t0 t5).bind fun x19 =>
    bif (x19.N != x16) then (some (-1 : Int))
    else ((ckI (x16 + (1 : Int))).bind fun x23 =>
    (at? t0 t5).bind fun x26 =>
    (m_laws_markText x23).bind fun x27 =>
    bif (!(sEq x26.S x27)) then (some (-1 : Int))
    else ((ckI (x23 + (1 : Int))).bind fun x30 =>
    (ckI (t5 + (1 : Int))).bind fun x31 =>
    (m_laws_heldValueS_l1  n1) t0 x30 x31))))
    else (m_laws_heldValueS_j1  t1)
def m_laws_heldValueS (a0 : (List S_impl_Value)) (a1 : Int) : Option Int :=
  m_laws_heldValueS_l1  (((a0.length : Int) - (0 : Int)).toNat + 1) a0 a1 (0 : Int)
theorem c_laws_heldValueS (a0 : (List S_impl_Value)) (a1 : Int) (r : Int) (h : m_laws_heldValueS a0 a1 = some r) : Ret Try.prog f_laws_heldValueS [e_Limpl_Value a0, e_int a1] (e_int r) := by
  refine Does.goG [] F_laws_heldValueS rfl e_laws_heldValueS n_laws_heldValueS rfl (rvs := [.tmp 4]) rfl rfl ?_
  intro w0 ok0 lent ρ0
  refine LWP.seq_k fun N1 hN1 => ?_
  refine LWP.region (l := [_]) ?_
  refine LWo.assign (e_int (0 : Int)) rfl (hn := ?_)
  refine LWo.nil (hN1 _ ?_)
  refine LWP.join (α := Int) (fun z : Int => [(1, (e_int z))]) (fun z : Int => []) (fun z : Int => m_laws_heldValueS_j1  z) r (fun _ => by simp [hkeys]) ?_ ?_
  ·rintro t1 h
   replace h : m_laws_heldValueS_j1  t1 = some _ := h
   refine LWP.seq_k fun N32 hN32 => ?_
   refine LWP.region (l := [_,_]) ?_
   refine LWo.move (e_int t1) rfl (hn := ?_)
   refine LWo.assign (e_int t1) rfl (hn := ?_)
   refine LWo.nil (hN32 _ ?_)
   obtain rfl := Option.some.inj h
   refine LWP.ret (QG.mk (.inr rfl) (.cons (.tmp (x := (e_int t1)) rfl) (.nil)) (RetOK.one0 (.pure rfl) (by decide)) rfl rfl)
  ·intro N2 hN2
   refine LWP.seq_k fun N3 hN3 => ?_
   refine LWP.region (l := [_]) ?_
   refine LWo.assign (e_int (0 : Int)) rfl (hn := ?_)
   refine LWo.nil (hN3 _ ?_)
   refine LWP.block ?_
   refine LWP.loopM (α := (List S_impl_Value) × Int × Int) (fun z : (List S_impl_Value) × Int × Int => [(0, (e_Limpl_Value z.1)), (1, (e_int z.2.1)), (5, (e_int z.2.2))]) (fun z : (List S_impl_Value) × Int × Int => []) (fun n1 (z : (List S_impl_Value) × Int × Int) => m_laws_heldValueS_l1  n1 z.1 z.2.1 z.2.2) r _ (a0, a1, (0 : Int)) h (fun _ => rfl) (fun _ => by simp [hkeys]) ⟨rfl, rfl, rfl, trivial⟩ trivial ?_
   rintro n1 ⟨t0, t1, t5⟩ h N4 hN4
   replace h : m_laws_heldValueS_l1  (n1 + 1) t0 t1 t5 = some _ := h
   refine LWP.seq_k fun N6 hN6 => ?_
   refine LWP.seq_k fun N7 hN7 => ?_
   refine LWP.region (l := [_,_,_,_]) ?_
   refine LWo.move (e_int t5) rfl (hn := ?_)
   refine LWo.move (e_Limpl_Value t0) rfl (hn := ?_)
   refine LWo.lenM (f := e_impl_Value) (l := t0) u_Limpl_Value rfl (hn := ?_)
   refine LWo.int _ rfl rfl rfl (hn := ?_)
   refine LWo.nil (hN7 _ ?_)
   refine LWP.cond_split rfl (fun h8 => ?_) (fun h8 => ?_)
   ·have h := bT h8 h
    refine LWP.skip (hN6 _ ?_)
    refine LWP.seq_k fun N9 hN9 => ?_
    refine LWP.block ?_
    refine LWP.seq_k fun N10 hN10 => ?_
    refine LWP.seq_k fun N11 hN11 => ?_
    refine LWP.region (l := [_,_,_,_,_,_,_]) ?_
    refine LWo.move (e_Limpl_Value t0) rfl (hn := ?_)
    refine LWo.move (e_int t5) rfl (hn := ?_)
    refine bk h fun x12 e12 h => ?_
    refine LWo.indexM (f := e_impl_Value) e12 u_Limpl_Value s_impl_Value rfl rfl (hn := ?_)
    refine LWo.fieldAddr _ u_impl_Value rfl s_int rfl rfl (hn := ?_)
    refine LWo.load1 (c := (e_int x12.Kind)) g_int rfl (hn := ?_)
    refine LWo.move (e_int t1) rfl (hn := ?_)
    refine LWo.int _ rfl rfl rfl (hn := ?_)
    refine LWo.nil (hN11 _ ?_)
    refine LWP.cond_split rfl (fun h13 => ?_) (fun h13 => ?_)
    ·have h := bT h13 h
     refine LWP.seq_k fun N14 hN14 => ?_
     refine LWP.region (l := [_]) ?_
     refine LWo.assign (e_int (-1 : Int)) rfl (hn := ?_)
     refine LWo.nil (hN14 _ ?_)
     obtain rfl := Option.some.inj h
     refine LWP.ret (QG.mk (.inr rfl) (.cons (.tmp (x := (e_int (-1 : Int))) rfl) (.nil)) (RetOK.one0 (.pure rfl) (by decide)) rfl rfl)
    ·have h := bF h13 h
     refine LWP.skip (hN10 _ ?_)
     refine LWP.seq_k fun N15 hN15 => ?_
     refine LWP.region (l := [_,_,_]) ?_
     refine LWo.move (e_int t1) rfl (hn := ?_)
     refine bk h fun x16 e16 h => ?_
     refine LWo.int _ rfl rfl (add_ck e16) (hn := ?_)
     refine LWo.assign (e_int x16) rfl (hn := ?_)
     refine LWo.nil (hN15 _ ?_)
     refine LWP.seq_k fun N17 hN17 => ?_
     refine LWP.seq_k fun N18 hN18 => ?_
     refine LWP.region (l := [_,_,_,_,_,_,_]) ?_
     refine LWo.move (e_Limpl_Value t0) rfl (hn := ?_)
     refine LWo.move (e_int t5) rfl (hn := ?_)
     refine bk h fun x19 e19 h => ?_
     refine LWo.indexM (f := e_impl_Value) e19 u_Limpl_Value s_impl_Value rfl rfl (hn := ?_)
     refine LWo.fieldAddr _ u_impl_Value rfl s_int rfl rfl (hn := ?_)
     refine LWo.load1 (c := (e_int x19.N)) g_int rfl (hn := ?_)
     refine LWo.move (e_int x16) rfl (hn := ?_)
     refine LWo.int _ rfl rfl rfl (hn := ?_)
     refine LWo.nil (hN18 _ ?_)
     refine LWP.cond_split rfl (fun h20 => ?_) (fun h20 => ?_)
     ·have h := bT h20 h
      refine LWP.seq_k fun N21 hN21 => ?_
      refine LWP.region (l := [_]) ?_
      refine LWo.assign (e_int (-1 : Int)) rfl (hn := ?_)
      refine LWo.nil (hN21 _ ?_)
      obtain rfl := Option.some.inj h
      refine LWP.ret (QG.mk (.inr rfl) (.cons (.tmp (x := (e_int (-1 : Int))) rfl) (.nil)) (RetOK.one0 (.pure rfl) (by decide)) rfl rfl)
     ·have h := bF h20 h
      refine LWP.skip (hN17 _ ?_)
      refine LWP.seq_k fun N22 hN22 => ?_
      refine LWP.region (l := [_,_,_]) ?_
      refine LWo.move (e_int x16) rfl (hn := ?_)
      refine bk h fun x23 e23 h => ?_
      refine LWo.int _ rfl rfl (add_ck e23) (hn := ?_)
      refine LWo.assign (e_int x23) rfl (hn := ?_)
      refine LWo.nil (hN22 _ ?_)
      refine LWP.seq_k fun N24 hN24 => ?_
      refine LWP.seq_k fun N25 hN25 => ?_
      refine bk h fun x26 e26 h => ?_
      refine bk h fun x27 e27 h => ?_
      refine LWP.drawF (l := [_,_,_,_,_,_,_,_]) [] [0, 1, 5] [([0], []), ([5], []), ([30, 31], []), ([32], []), ([33], []), ([1], []), ([35], []), ([34, 36], [])] [0, 1, 5, 37] [] mixed (by kernel_rfl) rfl (by decide) ?_
      refine dq 30 rfl (fun _ g u h => LWo.move (e_Limpl_Value t0) u.1 (hn := .nil (zn g))) ?_
      refine dq 31 rfl (fun _ g u h => LWo.move (e_int t5) u.1 (hn := .nil (zn g))) ?_
      refine dq 32 rfl (fun _ g u h => LWo.indexM (f := e_impl_Value) e26 u_Limpl_Value s_impl_Value u.1 u.2.1 (hn := .nil (zn g))) ?_
      refine dq 33 rfl (fun _ g u h => LWo.fieldAddr _ u_impl_Value rfl s_string u.1 rfl (hn := .nil (zn g))) ?_
      refine dq 34 rfl (fun _ g u h => LWo.load1 (c := (e_string x26.S)) g_string u.1 (hn := .nil (zn g))) ?_
      refine dq 35 rfl (fun _ g u h => LWo.move (e_int x23) u.1 (hn := .nil (zn g))) ?_
      refine dq 36 rfl (fun _ g u h => LWo.vcall rfl (av1 u.1) (c_laws_markText _ _ e27) (.same (.nil)) (hn := .nil (zn g))) ?_
      refine dq 37 rfl (fun _ g u h => LWo.str _ u.1 u.2.1 rfl (hn := .nil (zn g))) ?_
      refine ⟨rfl, by kernel_rfl, hN25 _ ?_⟩
      refine LWP.cond_split rfl (fun h28 => ?_) (fun h28 => ?_)
      ·have h := bT h28 h
       refine LWP.seq_k fun N29 hN29 => ?_
       refine LWP.region (l := [_]) ?_
       refine LWo.assign (e_int (-1 : Int)) rfl (hn := ?_)
       refine LWo.nil (hN29 _ ?_)
       obtain rfl := Option.some.inj h
       refine LWP.ret (QG.mk (.inr rfl) (.cons (.tmp (x := (e_int (-1 : Int))) rfl) (.nil)) (RetOK.one0 (.pure rfl) (by decide)) rfl rfl)
      ·have h := bF h28 h
       refine LWP.skip (hN24 _ ?_)
       refine LWP.region (l := [_,_,_]) ?_
       refine LWo.move (e_int x23) rfl (hn := ?_)
       refine bk h fun x30 e30 h => ?_
       refine LWo.int _ rfl rfl (add_ck e30) (hn := ?_)
       refine LWo.assign (e_int x30) rfl (hn := ?_)
       refine LWo.nil (hN9 _ ?_)
       refine LWP.region (l := [_,_,_]) ?_
       refine LWo.move (e_int t5) rfl (hn := ?_)
       refine bk h fun x31 e31 h => ?_
       refine LWo.int _ rfl rfl (add_ck e31) (hn := ?_)
       refine LWo.assign (e_int x31) rfl (hn := ?_)
       refine LWo.nil (hN4 (t0, x30, x31) _ ⟨rfl, rfl, rfl, trivial⟩ trivial h)
   ·have h := bF h8 h
    refine LWP.exit (hN2 t1 _ ⟨rfl, trivial⟩ trivial h)

def m_laws_heldVersionS_j1 (t1 : Int) : Option Int :=
  some t1
def m_laws_heldVersionS_l1 : Nat → (List S_impl_Version) → Int → Int → Option Int
  | 0, _, _, _ => none
  | n1 + 1, t0, t1, t5 =>
    bif decide (t5 < (t0.length : Int)) then ((at? t0 t5).bind fun x12 =>
    bif (x12.Key != t1) then (some (-1 : Int))
    else ((ckI (t1 + (1 : Int))).bind fun x16 =>
    (at? t0 t5).bind fun x19 =>
    bif (x19.Born != x16) then (some (-1 : Int))
    else ((ckI (x16 + (1 : Int))).bind fun x23 =>
    (at? t0 t5).bind fun x26 =>
    bif (x26.Died != x23) then (some (-1 : Int))
    else ((ckI (x23 + (1 : Int))).bind fun x30 =>
    (at? t0 t5).bind fun x32 =>
    (m_laws_heldValueS x32.Row x30).bind fun x33 =>
    bif decide (x33 < (0 : Int)) then (some (-1 : Int))
    else ((ckI (t5 + (1 : Int))).bind fun x37 =>
    (m_laws_heldVersionS_l1  n1) t0 x33 x37)))))
    else (m_laws_heldVersionS_j1  t1)
def m_laws_heldVersionS (a0 : (List S_impl_Version)) (a1 : Int) : Option Int :=
  m_laws_heldVersionS_l1  (((a0.length : Int) - (0 : Int)).toNat + 1) a0 a1 (0 : Int)
theorem c_laws_heldVersionS (a0 : (List S_impl_Version)) (a1 : Int) (r : Int) (h : m_laws_heldVersionS a0 a1 = some r) : Ret Try.prog f_laws_heldVersionS [e_Limpl_Version a0, e_int a1] (e_int r) := by
  refine Does.goG [] F_laws_heldVersionS rfl e_laws_heldVersionS n_laws_heldVersionS rfl (rvs := [.tmp 4]) rfl rfl ?_
  intro w0 ok0 lent ρ0
  refine LWP.seq_k fun N1 hN1 => ?_
  refine LWP.region (l := [_]) ?_
  refine LWo.assign (e_int (0 : Int)) rfl (hn := ?_)
  refine LWo.nil (hN1 _ ?_)
  refine LWP.join (α := Int) (fun z : Int => [(1, (e_int z))]) (fun z : Int => []) (fun z : Int => m_laws_heldVersionS_j1  z) r (fun _ => by simp [hkeys]) ?_ ?_
  ·rintro t1 h
   replace h : m_laws_heldVersionS_j1  t1 = some _ := h
   refine LWP.seq_k fun N38 hN38 => ?_
   refine LWP.region (l := [_,_]) ?_
   refine LWo.move (e_int t1) rfl (hn := ?_)
   refine LWo.assign (e_int t1) rfl (hn := ?_)
   refine LWo.nil (hN38 _ ?_)
   obtain rfl := Option.some.inj h
   refine LWP.ret (QG.mk (.inr rfl) (.cons (.tmp (x := (e_int t1)) rfl) (.nil)) (RetOK.one0 (.pure rfl) (by decide)) rfl rfl)
  ·intro N2 hN2
   refine LWP.seq_k fun N3 hN3 => ?_
   refine LWP.region (l := [_]) ?_
   refine LWo.assign (e_int (0 : Int)) rfl (hn := ?_)
   refine LWo.nil (hN3 _ ?_)
   refine LWP.block ?_
   refine LWP.loopM (α := (List S_impl_Version) × Int × Int) (fun z : (List S_impl_Version) × Int × Int => [(0, (e_Limpl_Version z.1)), (1, (e_int z.2.1)), (5, (e_int z.2.2))]) (fun z : (List S_impl_Version) × Int × Int => []) (fun n1 (z : (List S_impl_Version) × Int × Int) => m_laws_heldVersionS_l1  n1 z.1 z.2.1 z.2.2) r _ (a0, a1, (0 : Int)) h (fun _ => rfl) (fun _ => by simp [hkeys]) ⟨rfl, rfl, rfl, trivial⟩ trivial ?_
   rintro n1 ⟨t0, t1, t5⟩ h N4 hN4
   replace h : m_laws_heldVersionS_l1  (n1 + 1) t0 t1 t5 = some _ := h
   refine LWP.seq_k fun N6 hN6 => ?_
   refine LWP.seq_k fun N7 hN7 => ?_
   refine LWP.region (l := [_,_,_,_]) ?_
   refine LWo.move (e_int t5) rfl (hn := ?_)
   refine LWo.move (e_Limpl_Version t0) rfl (hn := ?_)
   refine LWo.lenM (f := e_impl_Version) (l := t0) u_Limpl_Version rfl (hn := ?_)
   refine LWo.int _ rfl rfl rfl (hn := ?_)
   refine LWo.nil (hN7 _ ?_)
   refine LWP.cond_split rfl (fun h8 => ?_) (fun h8 => ?_)
   ·have h := bT h8 h
    refine LWP.skip (hN6 _ ?_)
    refine LWP.seq_k fun N9 hN9 => ?_
    refine LWP.block ?_
    refine LWP.seq_k fun N10 hN10 => ?_
    refine LWP.seq_k fun N11 hN11 => ?_
    refine LWP.region (l := [_,_,_,_,_,_,_]) ?_
    refine LWo.move (e_Limpl_Version t0) rfl (hn := ?_)
    refine LWo.move (e_int t5) rfl (hn := ?_)
    refine bk h fun x12 e12 h => ?_
    refine LWo.indexM (f := e_impl_Version) e12 u_Limpl_Version s_impl_Version rfl rfl (hn := ?_)
    refine LWo.fieldAddr _ u_impl_Version rfl s_int rfl rfl (hn := ?_)
    refine LWo.load1 (c := (e_int x12.Key)) g_int rfl (hn := ?_)
    refine LWo.move (e_int t1) rfl (hn := ?_)
    refine LWo.int _ rfl rfl rfl (hn := ?_)
    refine LWo.nil (hN11 _ ?_)
    refine LWP.cond_split rfl (fun h13 => ?_) (fun h13 => ?_)
    ·have h := bT h13 h
     refine LWP.seq_k fun N14 hN14 => ?_
     refine LWP.region (l := [_]) ?_
     refine LWo.assign (e_int (-1 : Int)) rfl (hn := ?_)
     refine LWo.nil (hN14 _ ?_)
     obtain rfl := Option.some.inj h
     refine LWP.ret (QG.mk (.inr rfl) (.cons (.tmp (x := (e_int (-1 : Int))) rfl) (.nil)) (RetOK.one0 (.pure rfl) (by decide)) rfl rfl)
    ·have h := bF h13 h
     refine LWP.skip (hN10 _ ?_)
     refine LWP.seq_k fun N15 hN15 => ?_
     refine LWP.region (l := [_,_,_]) ?_
     refine LWo.move (e_int t1) rfl (hn := ?_)
     refine bk h fun x16 e16 h => ?_
     refine LWo.int _ rfl rfl (add_ck e16) (hn := ?_)
     refine LWo.assign (e_int x16) rfl (hn := ?_)
     refine LWo.nil (hN15 _ ?_)
     refine LWP.seq_k fun N17 hN17 => ?_
     refine LWP.seq_k fun N18 hN18 => ?_
     refine LWP.region (l := [_,_,_,_,_,_,_]) ?_
     refine LWo.move (e_Limpl_Version t0) rfl (hn := ?_)
     refine LWo.move (e_int t5) rfl (hn := ?_)
     refine bk h fun x19 e19 h => ?_
     refine LWo.indexM (f := e_impl_Version) e19 u_Limpl_Version s_impl_Version rfl rfl (hn := ?_)
     refine LWo.fieldAddr _ u_impl_Version rfl s_int rfl rfl (hn := ?_)
     refine LWo.load1 (c := (e_int x19.Born)) g_int rfl (hn := ?_)
     refine LWo.move (e_int x16) rfl (hn := ?_)
     refine LWo.int _ rfl rfl rfl (hn := ?_)
     refine LWo.nil (hN18 _ ?_)
     refine LWP.cond_split rfl (fun h20 => ?_) (fun h20 => ?_)
     ·have h := bT h20 h
      refine LWP.seq_k fun N21 hN21 => ?_
      refine LWP.region (l := [_]) ?_
      refine LWo.assign (e_int (-1 : Int)) rfl (hn := ?_)
      refine LWo.nil (hN21 _ ?_)
      obtain rfl := Option.some.inj h
      refine LWP.ret (QG.mk (.inr rfl) (.cons (.tmp (x := (e_int (-1 : Int))) rfl) (.nil)) (RetOK.one0 (.pure rfl) (by decide)) rfl rfl)
     ·have h := bF h20 h
      refine LWP.skip (hN17 _ ?_)
      refine LWP.seq_k fun N22 hN22 => ?_
      refine LWP.region (l := [_,_,_]) ?_
      refine LWo.move (e_int x16) rfl (hn := ?_)
      refine bk h fun x23 e23 h => ?_
      refine LWo.int _ rfl rfl (add_ck e23) (hn := ?_)
      refine LWo.assign (e_int x23) rfl (hn := ?_)
      refine LWo.nil (hN22 _ ?_)
      refine LWP.seq_k fun N24 hN24 => ?_
      refine LWP.seq_k fun N25 hN25 => ?_
      refine LWP.region (l := [_,_,_,_,_,_,_]) ?_
      refine LWo.move (e_Limpl_Version t0) rfl (hn := ?_)
      refine LWo.move (e_int t5) rfl (hn := ?_)
      refine bk h fun x26 e26 h => ?_
      refine LWo.indexM (f := e_impl_Version) e26 u_Limpl_Version s_impl_Version rfl rfl (hn := ?_)
      refine LWo.fieldAddr _ u_impl_Version rfl s_int rfl rfl (hn := ?_)
      refine LWo.load1 (c := (e_int x26.Died)) g_int rfl (hn := ?_)
      refine LWo.move (e_int x23) rfl (hn := ?_)
      refine LWo.int _ rfl rfl rfl (hn := ?_)
      refine LWo.nil (hN25 _ ?_)
      refine LWP.cond_split rfl (fun h27 => ?_) (fun h27 => ?_)
      ·have h := bT h27 h
       refine LWP.seq_k fun N28 hN28 => ?_
       refine LWP.region (l := [_]) ?_
       refine LWo.assign (e_int (-1 : Int)) rfl (hn := ?_)
       refine LWo.nil (hN28 _ ?_)
       obtain rfl := Option.some.inj h
       refine LWP.ret (QG.mk (.inr rfl) (.cons (.tmp (x := (e_int (-1 : Int))) rfl) (.nil)) (RetOK.one0 (.pure rfl) (by decide)) rfl rfl)
      ·have h := bF h27 h
       refine LWP.skip (hN24 _ ?_)
       refine LWP.seq_k fun N29 hN29 => ?_
       refine LWP.region (l := [_,_,_]) ?_
       refine LWo.move (e_int x23) rfl (hn := ?_)
       refine bk h fun x30 e30 h => ?_
       refine LWo.int _ rfl rfl (add_ck e30) (hn := ?_)
       refine LWo.assign (e_int x30) rfl (hn := ?_)
       refine LWo.nil (hN29 _ ?_)
       refine LWP.seq_k fun N31 hN31 => ?_
       refine LWP.region (l := [_,_,_,_,_,_,_,_]) ?_
       refine LWo.move (e_Limpl_Version t0) rfl (hn := ?_)
       refine LWo.move (e_int t5) rfl (hn := ?_)
       refine bk h fun x32 e32 h => ?_
       refine LWo.indexM (f := e_impl_Version) e32 u_Limpl_Version s_impl_Version rfl rfl (hn := ?_)
       refine LWo.fieldAddr _ u_impl_Version rfl s_Limpl_Value rfl rfl (hn := ?_)
       refine LWo.load1 (c := (e_Limpl_Value x32.Row)) g_Limpl_Value rfl (hn := ?_)
       refine LWo.move (e_int x30) rfl (hn := ?_)
       refine bk h fun x33 e33 h => ?_
       refine LWo.vcall rfl rfl (c_laws_heldValueS _ _ _ e33) (.same (.same (.nil))) (hn := ?_)
       refine LWo.assign (e_int x33) rfl (hn := ?_)
       refine LWo.nil (hN31 _ ?_)
       refine LWP.seq_k fun N34 hN34 => ?_
       refine LWP.region (l := [_,_]) ?_
       refine LWo.move (e_int x33) rfl (hn := ?_)
       refine LWo.int _ rfl rfl rfl (hn := ?_)
       refine LWo.nil (hN34 _ ?_)
       refine LWP.cond_split rfl (fun h35 => ?_) (fun h35 => ?_)
       ·have h := bT h35 h
        refine LWP.seq_k fun N36 hN36 => ?_
        refine LWP.region (l := [_]) ?_
        refine LWo.assign (e_int (-1 : Int)) rfl (hn := ?_)
        refine LWo.nil (hN36 _ ?_)
        obtain rfl := Option.some.inj h
        refine LWP.ret (QG.mk (.inr rfl) (.cons (.tmp (x := (e_int (-1 : Int))) rfl) (.nil)) (RetOK.one0 (.pure rfl) (by decide)) rfl rfl)
       ·have h := bF h35 h
        refine LWP.skip (hN9 _ ?_)
        refine LWP.region (l := [_,_,_]) ?_
        refine LWo.move (e_int t5) rfl (hn := ?_)
        refine bk h fun x37 e37 h => ?_
        refine LWo.int _ rfl rfl (add_ck e37) (hn := ?_)
        refine LWo.assign (e_int x37) rfl (hn := ?_)
        refine LWo.nil (hN4 (t0, x33, x37) _ ⟨rfl, rfl, rfl, trivial⟩ trivial h)
   ·have h := bF h8 h
    refine LWP.exit (hN2 t1 _ ⟨rfl, trivial⟩ trivial h)

def m_laws_FnExactLogRun_j1 (t0 : (List S_laws_Entry)) (t4 : (List S_impl_Version)) (t42 : Bool) (o1022 : (List S_impl_Version)) : Option Bool :=
  bif t42 then (some false)
  else ((m_laws_markVersionS o1022 (1 : Int)).bind fun x39 =>
  (lenQ x39.2.length o1022.length ()).bind fun u40 =>
  (m_laws_heldVersionS x39.2 (1 : Int)).bind fun x43 =>
  bif decide (x43 < (0 : Int)) then (some false)
  else (bif (x43 != x39.1) then (some false)
  else ((m_laws_toEntryS t0).bind fun x53 =>
  (m_impl_LogRun x53).bind fun x54 =>
  (m_laws_eqVersionS x54 t4).bind fun x57 =>
  bif (!x57) then (some false)
  else ((m_laws_heldVersionS x39.2 (1 : Int)).bind fun x62 =>
  bif decide (x62 < (0 : Int)) then (some false)
  else (bif (x62 != x39.1) then (some false)
  else (some true))))))
def m_laws_FnExactLogRun (a0 : (List S_laws_Entry)) : Option Bool :=
  (m_laws_szEntryS a0 (1048576 : Int)).bind fun x4 =>
  bif decide (x4 < (0 : Int)) then (some true)
  else ((m_laws_toEntryS a0).bind fun x10 =>
  (m_spec_LogRun x10).bind fun x11 =>
  (m_laws_toEntryS a0).bind fun x13 =>
  (m_impl_LogRun x13).bind fun x15 =>
  (m_laws_eqVersionS x15 x11).bind fun x18 =>
  bif (!x18) then (some false)
  else ((m_laws_toEntryS a0).bind fun x23 =>
  (m_laws_eqEntryS x13 x23).bind fun x24 =>
  bif (!x24) then (some false)
  else ((m_laws_markEntryS x13 (1 : Int)).bind fun x29 =>
  (lenQ x29.2.length x13.length ()).bind fun u30 =>
  bif decide (x29.1 < (0 : Int)) then (m_laws_FnExactLogRun_j1  a0 x11 true x15)
  else ((m_laws_eqVersionS x15 x11).bind fun x34 =>
    m_laws_FnExactLogRun_j1  a0 x11 (!x34) x15))))
theorem c_laws_FnExactLogRun (a0 : (List S_laws_Entry)) (r : Bool) (h : m_laws_FnExactLogRun a0 = some r) : Ret Try.prog f_laws_FnExactLogRun [e_Llaws_Entry a0] (e_bool r) := by
  refine Does.goG [] F_laws_FnExactLogRun rfl e_laws_FnExactLogRun n_laws_FnExactLogRun rfl (rvs := [.tmp 2]) rfl rfl ?_
  intro w0 ok0 lent ρ0
  refine LWP.seq_k fun N1 hN1 => ?_
  refine LWP.region (l := [_]) ?_
  refine LWo.assign (e_bool false) rfl (hn := ?_)
  refine LWo.nil (hN1 _ ?_)
  refine LWP.seq_k fun N2 hN2 => ?_
  refine LWP.region (l := [_]) ?_
  refine LWo.assign (e_int (1048576 : Int)) rfl (hn := ?_)
  refine LWo.nil (hN2 _ ?_)
  refine LWP.seq_k fun N3 hN3 => ?_
  refine LWP.region (l := [_,_,_,_]) ?_
  refine LWo.move (e_Llaws_Entry a0) rfl (hn := ?_)
  refine LWo.move (e_int (1048576 : Int)) rfl (hn := ?_)
  refine bk h fun x4 e4 h => ?_
  refine LWo.vcall rfl rfl (c_laws_szEntryS _ _ _ e4) (.same (.same (.nil))) (hn := ?_)
  refine LWo.assign (e_int x4) rfl (hn := ?_)
  refine LWo.nil (hN3 _ ?_)
  refine LWP.seq_k fun N5 hN5 => ?_
  refine LWP.seq_k fun N6 hN6 => ?_
  refine LWP.region (l := [_,_]) ?_
  refine LWo.move (e_int x4) rfl (hn := ?_)
  refine LWo.int _ rfl rfl rfl (hn := ?_)
  refine LWo.nil (hN6 _ ?_)
  refine LWP.cond_split rfl (fun h7 => ?_) (fun h7 => ?_)
  ·have h := bT h7 h
   refine LWP.seq_k fun N8 hN8 => ?_
   refine LWP.region (l := [_]) ?_
   refine LWo.assign (e_bool true) rfl (hn := ?_)
   refine LWo.nil (hN8 _ ?_)
   obtain rfl := Option.some.inj h
   refine LWP.ret (QG.mk (.inr rfl) (.cons (.tmp (x := (e_bool true)) rfl) (.nil)) (RetOK.one0 (.pure rfl) (by decide)) rfl rfl)
  ·have h := bF h7 h
   refine LWP.skip (hN5 _ ?_)
   refine LWP.seq_k fun N9 hN9 => ?_
   refine LWP.region (l := [_,_,_,_]) ?_
   refine LWo.move (e_Llaws_Entry a0) rfl (hn := ?_)
   refine bk h fun x10 e10 h => ?_
   refine LWo.vcall rfl rfl (c_laws_toEntryS _ _ e10) (.same (.nil)) (hn := ?_)
   refine bk h fun x11 e11 h => ?_
   refine LWo.vcall rfl rfl (c_spec_LogRun _ _ e11) (.same (.nil)) (hn := ?_)
   refine LWo.assign (e_Limpl_Version x11) rfl (hn := ?_)
   refine LWo.nil (hN9 _ ?_)
   refine LWP.seq_k fun N12 hN12 => ?_
   refine LWP.region (l := [_,_,_]) ?_
   refine LWo.move (e_Llaws_Entry a0) rfl (hn := ?_)
   refine bk h fun x13 e13 h => ?_
   refine LWo.ncallD (e := e_impl_Entry) 1020 rfl rfl (c_laws_toEntryS _ _ e13) (.same (.nil)) rfl (hn := ?_)
   refine LWo.assign (.own 1020 0 (x13).length) rfl (hn := ?_)
   refine LWo.nil (hN12 _ ?_)
   refine LWP.seq_k fun N14 hN14 => ?_
   refine LWP.region (l := [_,_,_]) ?_
   refine LWo.move (.own 1020 0 (x13).length) rfl (hn := ?_)
   refine bk h fun x15 e15 h => ?_
   refine LWo.ncallD (e := e_impl_Version) 1022 rfl rfl (c_impl_LogRun _ _ e15) (.viewD rfl rfl rfl (.nil)) rfl (hn := ?_)
   refine LWo.assign (.own 1022 0 (x15).length) rfl (hn := ?_)
   refine LWo.nil (hN14 _ ?_)
   refine LWP.seq_k fun N16 hN16 => ?_
   refine LWP.seq_k fun N17 hN17 => ?_
   refine LWP.region (l := [_,_,_,_]) ?_
   refine LWo.move (.own 1022 0 (x15).length) rfl (hn := ?_)
   refine LWo.move (e_Limpl_Version x11) rfl (hn := ?_)
   refine bk h fun x18 e18 h => ?_
   refine LWo.wcall rfl rfl (c_laws_eqVersionS _ _ _ e18) (.viewD rfl rfl rfl (.same (.nil))) rfl (hn := ?_)
   refine LWo.not rfl (hn := ?_)
   refine LWo.nil (hN17 _ ?_)
   refine LWP.cond_split rfl (fun h19 => ?_) (fun h19 => ?_)
   ·have h := bT h19 h
    refine LWP.seq_k fun N20 hN20 => ?_
    refine LWP.region (l := [_]) ?_
    refine LWo.assign (e_bool false) rfl (hn := ?_)
    refine LWo.nil (hN20 _ ?_)
    obtain rfl := Option.some.inj h
    refine LWP.ret (QG.mk (.inr rfl) (.cons (.tmp (x := (e_bool false)) rfl) (.nil)) (RetOK.one0 (.pure rfl) (by decide)) rfl rfl)
   ·have h := bF h19 h
    refine LWP.skip (hN16 _ ?_)
    refine LWP.seq_k fun N21 hN21 => ?_
    refine LWP.seq_k fun N22 hN22 => ?_
    refine LWP.region (l := [_,_,_,_,_]) ?_
    refine LWo.move (.own 1020 0 (x13).length) rfl (hn := ?_)
    refine LWo.move (e_Llaws_Entry a0) rfl (hn := ?_)
    refine bk h fun x23 e23 h => ?_
    refine LWo.vcall rfl rfl (c_laws_toEntryS _ _ e23) (.same (.nil)) (hn := ?_)
    refine bk h fun x24 e24 h => ?_
    refine LWo.wcall rfl rfl (c_laws_eqEntryS _ _ _ e24) (.viewD rfl rfl rfl (.same (.nil))) rfl (hn := ?_)
    refine LWo.not rfl (hn := ?_)
    refine LWo.nil (hN22 _ ?_)
    refine LWP.cond_split rfl (fun h25 => ?_) (fun h25 => ?_)
    ·have h := bT h25 h
     refine LWP.seq_k fun N26 hN26 => ?_
     refine LWP.region (l := [_]) ?_
     refine LWo.assign (e_bool false) rfl (hn := ?_)
     refine LWo.nil (hN26 _ ?_)
     obtain rfl := Option.some.inj h
     refine LWP.ret (QG.mk (.inr rfl) (.cons (.tmp (x := (e_bool false)) rfl) (.nil)) (RetOK.one0 (.pure rfl) (by decide)) rfl rfl)
    ·have h := bF h25 h
     refine LWP.skip (hN21 _ ?_)
     refine LWP.seq_k fun N27 hN27 => ?_
     refine LWP.region (l := [_]) ?_
     refine LWo.assign (e_int (1 : Int)) rfl (hn := ?_)
     refine LWo.nil (hN27 _ ?_)
     refine LWP.seq_k fun N28 hN28 => ?_
     refine LWP.region (l := [_,_,_,_]) ?_
     refine LWo.move (.own 1020 0 (x13).length) rfl (hn := ?_)
     refine LWo.move (e_int (1 : Int)) rfl (hn := ?_)
     refine bk h fun x29 e29 h => ?_
     refine bk h fun u30 e30 h => ?_
     refine LWo.ucallD (e := e_impl_Entry) rfl rfl (k_laws_markEntryS _ _ _ e29 1020) rfl rfl (some 34) rfl (hn := ?_)
     refine LWo.assign (e_int x29.1) rfl (hn := ?_)
     refine LWo.nil (hN28 _ ?_)
     refine LWP.seq_k fun N31 hN31 => ?_
     refine LWP.join (α := (List S_laws_Entry) × (List S_impl_Version) × Bool × (List S_impl_Version)) (fun z : (List S_laws_Entry) × (List S_impl_Version) × Bool × (List S_impl_Version) => [(0, (e_Llaws_Entry z.1)), (4, (e_Limpl_Version z.2.1)), (6, (.own 1022 0 (z.2.2.2).length)), (42, (e_bool z.2.2.1))]) (fun z : (List S_laws_Entry) × (List S_impl_Version) × Bool × (List S_impl_Version) => [(1022, (dob 4 e_impl_Version z.2.2.2))]) (fun z : (List S_laws_Entry) × (List S_impl_Version) × Bool × (List S_impl_Version) => m_laws_FnExactLogRun_j1  z.1 z.2.1 z.2.2.1 z.2.2.2) r (fun _ => by simp [hkeys]) ?_ ?_
     ·rintro ⟨t0, t4, t42, o1022⟩ h
      replace h : m_laws_FnExactLogRun_j1  t0 t4 t42 o1022 = some _ := h
      refine LWP.cond_split rfl (fun h35 => ?_) (fun h35 => ?_)
      ·have h := bT h35 h
       refine LWP.seq_k fun N36 hN36 => ?_
       refine LWP.region (l := [_]) ?_
       refine LWo.assign (e_bool false) rfl (hn := ?_)
       refine LWo.nil (hN36 _ ?_)
       obtain rfl := Option.some.inj h
       refine LWP.ret (QG.mk (.inr rfl) (.cons (.tmp (x := (e_bool false)) rfl) (.nil)) (RetOK.one0 (.pure rfl) (by decide)) rfl rfl)
      ·have h := bF h35 h
       refine LWP.skip (hN31 _ ?_)
       refine LWP.seq_k fun N37 hN37 => ?_
       refine LWP.region (l := [_]) ?_
       refine LWo.assign (e_int (1 : Int)) rfl (hn := ?_)
       refine LWo.nil (hN37 _ ?_)
       refine LWP.seq_k fun N38 hN38 => ?_
       refine LWP.region (l := [_,_,_,_]) ?_
       refine LWo.move (.own 1022 0 (o1022).length) rfl (hn := ?_)
       refine LWo.move (e_int (1 : Int)) rfl (hn := ?_)
       refine bk h fun x39 e39 h => ?_
       refine bk h fun u40 e40 h => ?_
       refine LWo.ucallD (e := e_impl_Version) rfl rfl (k_laws_markVersionS _ _ _ e39 1022) rfl rfl (some 45) rfl (hn := ?_)
       refine LWo.assign (e_int x39.1) rfl (hn := ?_)
       refine LWo.nil (hN38 _ ?_)
       refine LWP.seq_k fun N41 hN41 => ?_
       refine LWP.region (l := [_]) ?_
       refine LWo.assign (e_int (1 : Int)) rfl (hn := ?_)
       refine LWo.nil (hN41 _ ?_)
       refine LWP.seq_k fun N42 hN42 => ?_
       refine LWP.region (l := [_,_,_,_]) ?_
       refine LWo.move (.own 1022 0 (o1022).length) rfl (hn := ?_)
       refine LWo.move (e_int (1 : Int)) rfl (hn := ?_)
       refine bk h fun x43 e43 h => ?_
       refine LWo.wcall rfl rfl (c_laws_heldVersionS _ _ _ e43) (.viewD rfl ((lenQ_some e40).1.symm) rfl (.same (.nil))) rfl (hn := ?_)
       refine LWo.assign (e_int x43) rfl (hn := ?_)
       refine LWo.nil (hN42 _ ?_)
       refine LWP.seq_k fun N44 hN44 => ?_
       refine LWP.seq_k fun N45 hN45 => ?_
       refine LWP.region (l := [_,_]) ?_
       refine LWo.move (e_int x43) rfl (hn := ?_)
       refine LWo.int _ rfl rfl rfl (hn := ?_)
       refine LWo.nil (hN45 _ ?_)
       refine LWP.cond_split rfl (fun h46 => ?_) (fun h46 => ?_)
       ·have h := bT h46 h
        refine LWP.seq_k fun N47 hN47 => ?_
        refine LWP.region (l := [_]) ?_
        refine LWo.assign (e_bool false) rfl (hn := ?_)
        refine LWo.nil (hN47 _ ?_)
        obtain rfl := Option.some.inj h
        refine LWP.ret (QG.mk (.inr rfl) (.cons (.tmp (x := (e_bool false)) rfl) (.nil)) (RetOK.one0 (.pure rfl) (by decide)) rfl rfl)
       ·have h := bF h46 h
        refine LWP.skip (hN44 _ ?_)
        refine LWP.seq_k fun N48 hN48 => ?_
        refine LWP.seq_k fun N49 hN49 => ?_
        refine LWP.region (l := [_,_,_]) ?_
        refine LWo.move (e_int x43) rfl (hn := ?_)
        refine LWo.move (e_int x39.1) rfl (hn := ?_)
        refine LWo.int _ rfl rfl rfl (hn := ?_)
        refine LWo.nil (hN49 _ ?_)
        refine LWP.cond_split rfl (fun h50 => ?_) (fun h50 => ?_)
        ·have h := bT h50 h
         refine LWP.seq_k fun N51 hN51 => ?_
         refine LWP.region (l := [_]) ?_
         refine LWo.assign (e_bool false) rfl (hn := ?_)
         refine LWo.nil (hN51 _ ?_)
         obtain rfl := Option.some.inj h
         refine LWP.ret (QG.mk (.inr rfl) (.cons (.tmp (x := (e_bool false)) rfl) (.nil)) (RetOK.one0 (.pure rfl) (by decide)) rfl rfl)
        ·have h := bF h50 h
         refine LWP.skip (hN48 _ ?_)
         refine LWP.seq_k fun N52 hN52 => ?_
         refine LWP.region (l := [_,_,_,_]) ?_
         refine LWo.move (e_Llaws_Entry t0) rfl (hn := ?_)
         refine bk h fun x53 e53 h => ?_
         refine LWo.vcall rfl rfl (c_laws_toEntryS _ _ e53) (.same (.nil)) (hn := ?_)
         refine bk h fun x54 e54 h => ?_
         refine LWo.vcall rfl rfl (c_impl_LogRun _ _ e54) (.same (.nil)) (hn := ?_)
         refine LWo.assign (e_Limpl_Version x54) rfl (hn := ?_)
         refine LWo.nil (hN52 _ ?_)
         refine LWP.seq_k fun N55 hN55 => ?_
         refine LWP.seq_k fun N56 hN56 => ?_
         refine LWP.region (l := [_,_,_,_]) ?_
         refine LWo.move (e_Limpl_Version x54) rfl (hn := ?_)
         refine LWo.move (e_Limpl_Version t4) rfl (hn := ?_)
         refine bk h fun x57 e57 h => ?_
         refine LWo.vcall rfl rfl (c_laws_eqVersionS _ _ _ e57) (.same (.same (.nil))) (hn := ?_)
         refine LWo.not rfl (hn := ?_)
         refine LWo.nil (hN56 _ ?_)
         refine LWP.cond_split rfl (fun h58 => ?_) (fun h58 => ?_)
         ·have h := bT h58 h
          refine LWP.seq_k fun N59 hN59 => ?_
          refine LWP.region (l := [_]) ?_
          refine LWo.assign (e_bool false) rfl (hn := ?_)
          refine LWo.nil (hN59 _ ?_)
          obtain rfl := Option.some.inj h
          refine LWP.ret (QG.mk (.inr rfl) (.cons (.tmp (x := (e_bool false)) rfl) (.nil)) (RetOK.one0 (.pure rfl) (by decide)) rfl rfl)
         ·have h := bF h58 h
          refine LWP.skip (hN55 _ ?_)
          refine LWP.seq_k fun N60 hN60 => ?_
          refine LWP.region (l := [_]) ?_
          refine LWo.assign (e_int (1 : Int)) rfl (hn := ?_)
          refine LWo.nil (hN60 _ ?_)
          refine LWP.seq_k fun N61 hN61 => ?_
          refine LWP.region (l := [_,_,_,_]) ?_
          refine LWo.move (.own 1022 0 (o1022).length) rfl (hn := ?_)
          refine LWo.move (e_int (1 : Int)) rfl (hn := ?_)
          refine bk h fun x62 e62 h => ?_
          refine LWo.wcall rfl rfl (c_laws_heldVersionS _ _ _ e62) (.viewD rfl ((lenQ_some e40).1.symm) rfl (.same (.nil))) rfl (hn := ?_)
          refine LWo.assign (e_int x62) rfl (hn := ?_)
          refine LWo.nil (hN61 _ ?_)
          refine LWP.seq_k fun N63 hN63 => ?_
          refine LWP.seq_k fun N64 hN64 => ?_
          refine LWP.region (l := [_,_]) ?_
          refine LWo.move (e_int x62) rfl (hn := ?_)
          refine LWo.int _ rfl rfl rfl (hn := ?_)
          refine LWo.nil (hN64 _ ?_)
          refine LWP.cond_split rfl (fun h65 => ?_) (fun h65 => ?_)
          ·have h := bT h65 h
           refine LWP.seq_k fun N66 hN66 => ?_
           refine LWP.region (l := [_]) ?_
           refine LWo.assign (e_bool false) rfl (hn := ?_)
           refine LWo.nil (hN66 _ ?_)
           obtain rfl := Option.some.inj h
           refine LWP.ret (QG.mk (.inr rfl) (.cons (.tmp (x := (e_bool false)) rfl) (.nil)) (RetOK.one0 (.pure rfl) (by decide)) rfl rfl)
          ·have h := bF h65 h
           refine LWP.skip (hN63 _ ?_)
           refine LWP.seq_k fun N67 hN67 => ?_
           refine LWP.seq_k fun N68 hN68 => ?_
           refine LWP.region (l := [_,_,_]) ?_
           refine LWo.move (e_int x62) rfl (hn := ?_)
           refine LWo.move (e_int x39.1) rfl (hn := ?_)
           refine LWo.int _ rfl rfl rfl (hn := ?_)
           refine LWo.nil (hN68 _ ?_)
           refine LWP.cond_split rfl (fun h69 => ?_) (fun h69 => ?_)
           ·have h := bT h69 h
            refine LWP.seq_k fun N70 hN70 => ?_
            refine LWP.region (l := [_]) ?_
            refine LWo.assign (e_bool false) rfl (hn := ?_)
            refine LWo.nil (hN70 _ ?_)
            obtain rfl := Option.some.inj h
            refine LWP.ret (QG.mk (.inr rfl) (.cons (.tmp (x := (e_bool false)) rfl) (.nil)) (RetOK.one0 (.pure rfl) (by decide)) rfl rfl)
           ·have h := bF h69 h
            refine LWP.skip (hN67 _ ?_)
            refine LWP.seq_k fun N71 hN71 => ?_
            refine LWP.region (l := [_]) ?_
            refine LWo.assign (e_bool true) rfl (hn := ?_)
            refine LWo.nil (hN71 _ ?_)
            obtain rfl := Option.some.inj h
            refine LWP.ret (QG.mk (.inr rfl) (.cons (.tmp (x := (e_bool true)) rfl) (.nil)) (RetOK.one0 (.pure rfl) (by decide)) rfl rfl)
     ·intro N32 hN32
      refine LWP.region (l := [_,_,_,_,_,_,_,_]) ?_
      refine LWo.move (e_int x29.1) rfl (hn := ?_)
      refine LWo.int _ rfl rfl rfl (hn := ?_)
      refine LWo.move (e_bool (decide (x29.1 < (0 : Int)))) rfl (hn := ?_)
      refine LWo.byCases (t := 37) _ rfl (fun h33 => ?_) (fun h33 => ?_)
      ·have h := bT h33 h
       refine LWo.guardNU (t := 37) rfl h33 rfl rfl rfl rfl rfl ?_
       refine LWo.guardNU (t := 37) rfl h33 rfl rfl rfl rfl rfl ?_
       refine LWo.guardNU (t := 37) rfl h33 rfl rfl rfl rfl rfl ?_
       refine LWo.guardNU (t := 37) rfl h33 rfl rfl rfl rfl rfl ?_
       refine LWo.pickTM (e_bool true) rfl h33 rfl (hn := ?_)
       refine LWo.nil (hN32 (a0, x11, true, x15) _ ⟨rfl, rfl, rfl, rfl, trivial⟩ ⟨rfl, trivial⟩ h)
      ·have h := bF h33 h
       refine LWo.guardY (t := 37) rfl h33 rfl rfl ?_
       refine LWo.move (.own 1022 0 (x15).length) rfl (hn := ?_)
       refine LWo.guardY (t := 37) rfl h33 rfl rfl ?_
       refine LWo.move (e_Limpl_Version x11) rfl (hn := ?_)
       refine bk h fun x34 e34 h => ?_
       refine LWo.guardY (t := 37) rfl h33 rfl rfl ?_
       refine LWo.wcall rfl rfl (c_laws_eqVersionS _ _ _ e34) (.viewD rfl rfl rfl (.same (.nil))) rfl (hn := ?_)
       refine LWo.guardY (t := 37) rfl h33 rfl rfl ?_
       refine LWo.not rfl (hn := ?_)
       refine LWo.pickFM (e_bool (!x34)) rfl h33 rfl (hn := ?_)
       refine LWo.nil (hN32 (a0, x11, (!x34), x15) _ ⟨rfl, rfl, rfl, rfl, trivial⟩ ⟨rfl, trivial⟩ h)
end Go.Proofs.Ytkgmomocjkmipaa
