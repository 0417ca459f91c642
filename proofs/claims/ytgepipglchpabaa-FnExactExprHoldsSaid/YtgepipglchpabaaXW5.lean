/- Mirrors of functions, and that the functions return what the mirrors say. -/
import Derived.Test.YtgepipglchpabaaXW4
set_option linter.unusedVariables false
set_option linter.unusedSimpArgs false
set_option linter.unnecessarySimpa false
namespace Go.Proofs.Ytgepipglchpabaa
open Go.Proofs Go.Lift Go.RowKit
def m_impl_exprHolds (a0 : (List S_impl_Value)) (a1 : (List S_impl_Part)) : Option Bool :=
  (m_impl_exprValue a0 a1).bind fun x3 =>
  (m_impl_ValueOf (1 : Int)).bind fun x4 =>
  some (decide (x3 = x4))
theorem c_impl_exprHolds (a0 : (List S_impl_Value)) (a1 : (List S_impl_Part)) (r : Bool) (h : m_impl_exprHolds a0 a1 = some r) : Ret Try.prog f_impl_exprHolds [e_Limpl_Value a0, e_Limpl_Part a1] (e_bool r) := by
  refine Does.goG [] F_impl_exprHolds rfl e_impl_exprHolds n_impl_exprHolds rfl (rvs := [.tmp 4]) rfl rfl ?_
  intro w0 ok0 lent ρ0
  refine LWP.seq_k fun N1 hN1 => ?_
  refine LWP.region (l := [_]) ?_
  refine LWo.assign (e_bool false) rfl (hn := ?_)
  refine LWo.nil (hN1 _ ?_)
  refine LWP.seq_k fun N2 hN2 => ?_
  refine LWP.region (l := [_,_,_,_,_,_]) ?_
  refine LWo.move (e_Limpl_Value a0) rfl (hn := ?_)
  refine LWo.move (e_Limpl_Part a1) rfl (hn := ?_)
  refine bk h fun x3 e3 h => ?_
  refine LWo.vcall rfl rfl (c_impl_exprValue _ _ _ e3) (.same (.same (.nil))) (hn := ?_)
  refine bk h fun x4 e4 h => ?_
  refine LWo.vcall rfl rfl (c_impl_ValueOf _ _ e4) (.same (.nil)) (hn := ?_)
  refine LWo.eq_impl_Value _ _ rfl rfl (hn := ?_)
  refine LWo.assign (e_bool (decide (x3 = x4))) rfl (hn := ?_)
  refine LWo.nil (hN2 _ ?_)
  obtain rfl := Option.some.inj h
  refine LWP.ret (QG.mk (.inr rfl) (.cons (.tmp (x := (e_bool (decide (x3 = x4)))) rfl) (.nil)) (RetOK.one0 (.pure rfl) (by decide)) rfl rfl)

def m_impl_ExprHolds_j1 (t6 : Bool) : Option Bool :=
  some t6
def m_impl_ExprHolds (a0 : (List S_impl_Column)) (a1 : (List S_impl_Value)) (a2 : (List S_impl_Part)) : Option Bool :=
  (m_impl_ExprKind a0 a2).bind fun x3 =>
  bif (x3 == (3 : Int)) then ((m_impl_RowFits a0 a1).bind fun x5 =>
    bif x5 then ((m_impl_exprHolds a1 a2).bind fun x7 =>
      m_impl_ExprHolds_j1  x7)
    else (m_impl_ExprHolds_j1  false))
  else (m_impl_ExprHolds_j1  false)
theorem c_impl_ExprHolds (a0 : (List S_impl_Column)) (a1 : (List S_impl_Value)) (a2 : (List S_impl_Part)) (r : Bool) (h : m_impl_ExprHolds a0 a1 a2 = some r) : Ret Try.prog f_impl_ExprHolds [e_Limpl_Column a0, e_Limpl_Value a1, e_Limpl_Part a2] (e_bool r) := by
  refine Does.goG [] F_impl_ExprHolds rfl e_impl_ExprHolds n_impl_ExprHolds rfl (rvs := [.tmp 6]) rfl rfl ?_
  intro w0 ok0 lent ρ0
  refine LWP.seq_k fun N1 hN1 => ?_
  refine LWP.region (l := [_]) ?_
  refine LWo.assign (e_bool false) rfl (hn := ?_)
  refine LWo.nil (hN1 _ ?_)
  refine LWP.join (α := Bool) (fun z : Bool => [(6, (e_bool z))]) (fun z : Bool => []) (fun z : Bool => m_impl_ExprHolds_j1  z) r (fun _ => by simp [hkeys]) ?_ ?_
  ·rintro t6 h
   replace h : m_impl_ExprHolds_j1  t6 = some _ := h
   obtain rfl := Option.some.inj h
   refine LWP.ret (QG.mk (.inr rfl) (.cons (.tmp (x := (e_bool t6)) rfl) (.nil)) (RetOK.one0 (.pure rfl) (by decide)) rfl rfl)
  ·intro N2 hN2
   refine LWP.region (l := [_,_,_,_,_,_,_,_,_,_,_,_,_,_,_]) ?_
   refine LWo.move (e_Limpl_Column a0) rfl (hn := ?_)
   refine LWo.move (e_Limpl_Part a2) rfl (hn := ?_)
   refine bk h fun x3 e3 h => ?_
   refine LWo.vcall rfl rfl (c_impl_ExprKind _ _ _ e3) (.same (.same (.nil))) (hn := ?_)
   refine LWo.int _ rfl rfl rfl (hn := ?_)
   refine LWo.move (e_bool (x3 == (3 : Int))) rfl (hn := ?_)
   refine LWo.byCases (t := 11) _ rfl (fun h4 => ?_) (fun h4 => ?_)
   ·have h := bT h4 h
    refine LWo.guardY (t := 11) rfl h4 rfl rfl ?_
    refine LWo.move (e_Limpl_Column a0) rfl (hn := ?_)
    refine LWo.guardY (t := 11) rfl h4 rfl rfl ?_
    refine LWo.move (e_Limpl_Value a1) rfl (hn := ?_)
    refine bk h fun x5 e5 h => ?_
    refine LWo.guardY (t := 11) rfl h4 rfl rfl ?_
    refine LWo.vcall rfl rfl (c_impl_RowFits _ _ _ e5) (.same (.same (.nil))) (hn := ?_)
    refine LWo.pickTM (e_bool x5) rfl h4 rfl (hn := ?_)
    refine LWo.move (e_bool x5) rfl (hn := ?_)
    refine LWo.byCases (t := 16) _ rfl (fun h6 => ?_) (fun h6 => ?_)
    ·have h := bT h6 h
     refine LWo.guardY (t := 16) rfl h6 rfl rfl ?_
     refine LWo.move (e_Limpl_Value a1) rfl (hn := ?_)
     refine LWo.guardY (t := 16) rfl h6 rfl rfl ?_
     refine LWo.move (e_Limpl_Part a2) rfl (hn := ?_)
     refine bk h fun x7 e7 h => ?_
     refine LWo.guardY (t := 16) rfl h6 rfl rfl ?_
     refine LWo.vcall rfl rfl (c_impl_exprHolds _ _ _ e7) (.same (.same (.nil))) (hn := ?_)
     refine LWo.pickTM (e_bool x7) rfl h6 rfl (hn := ?_)
     refine LWo.assign (e_bool x7) rfl (hn := ?_)
     refine LWo.nil (hN2 x7 _ ⟨rfl, trivial⟩ trivial h)
    ·have h := bF h6 h
     refine LWo.guardNU (t := 16) rfl h6 rfl rfl rfl rfl rfl ?_
     refine LWo.guardNU (t := 16) rfl h6 rfl rfl rfl rfl rfl ?_
     refine LWo.guardNU (t := 16) rfl h6 rfl rfl rfl rfl rfl ?_
     refine LWo.pickFM (e_bool false) rfl h6 rfl (hn := ?_)
     refine LWo.assign (e_bool false) rfl (hn := ?_)
     refine LWo.nil (hN2 false _ ⟨rfl, trivial⟩ trivial h)
   ·have h := bF h4 h
    refine LWo.guardNU (t := 11) rfl h4 rfl rfl rfl rfl rfl ?_
    refine LWo.guardNU (t := 11) rfl h4 rfl rfl rfl rfl rfl ?_
    refine LWo.guardNU (t := 11) rfl h4 rfl rfl rfl rfl rfl ?_
    refine LWo.pickFM (e_bool false) rfl h4 rfl (hn := ?_)
    refine LWo.move (e_bool false) rfl (hn := ?_)
    refine LWo.guardNU (t := 16) rfl rfl rfl rfl rfl rfl rfl ?_
    refine LWo.guardNU (t := 16) rfl rfl rfl rfl rfl rfl rfl ?_
    refine LWo.guardNU (t := 16) rfl rfl rfl rfl rfl rfl rfl ?_
    refine LWo.pickFM (e_bool false) rfl rfl rfl (hn := ?_)
    refine LWo.assign (e_bool false) rfl (hn := ?_)
    refine LWo.nil (hN2 false _ ⟨rfl, trivial⟩ trivial h)

def m_laws_eqColumn (a0 : S_impl_Column) (a1 : S_impl_Column) : Option Bool :=
  bif (a0.Kind != a1.Kind) then (some false)
  else (bif (a0.Empty != a1.Empty) then (some false)
  else (some true))
theorem c_laws_eqColumn (a0 : S_impl_Column) (a1 : S_impl_Column) (r : Bool) (h : m_laws_eqColumn a0 a1 = some r) : Ret Try.prog f_laws_eqColumn [e_impl_Column a0, e_impl_Column a1] (e_bool r) := by
  refine Does.goG [] F_laws_eqColumn rfl e_laws_eqColumn n_laws_eqColumn rfl (rvs := [.tmp 4]) rfl rfl ?_
  intro w0 ok0 lent ρ0
  refine LWP.seq_k fun N1 hN1 => ?_
  refine LWP.region (l := [_,_,_]) ?_
  refine LWo.boxF (e_impl_Column a0) rfl rfl rfl (hn := ?_)
  refine LWo.boxF (e_impl_Column a1) rfl rfl rfl (hn := ?_)
  refine LWo.assign (e_bool false) rfl (hn := ?_)
  refine LWo.nil (hN1 _ ?_)
  refine LWP.seq_k fun N2 hN2 => ?_
  refine LWP.seq_k fun N3 hN3 => ?_
  refine LWP.region (l := [_,_,_,_,_]) ?_
  refine LWo.fieldAddr _ u_impl_Column rfl s_int rfl rfl (hn := ?_)
  refine LWo.load1 (c := (e_int a0.Kind)) g_int rfl (hn := ?_)
  refine LWo.fieldAddr _ u_impl_Column rfl s_int rfl rfl (hn := ?_)
  refine LWo.load1 (c := (e_int a1.Kind)) g_int rfl (hn := ?_)
  refine LWo.int _ rfl rfl rfl (hn := ?_)
  refine LWo.nil (hN3 _ ?_)
  refine LWP.cond_split rfl (fun h4 => ?_) (fun h4 => ?_)
  ·have h := bT h4 h
   refine LWP.seq_k fun N5 hN5 => ?_
   refine LWP.region (l := [_]) ?_
   refine LWo.assign (e_bool false) rfl (hn := ?_)
   refine LWo.nil (hN5 _ ?_)
   obtain rfl := Option.some.inj h
   refine LWP.ret (QG.mk (.inr rfl) (.cons (.tmp (x := (e_bool false)) rfl) (.nil)) (RetOK.one0 (.pure rfl) (by decide)) rfl rfl)
  ·have h := bF h4 h
   refine LWP.skip (hN2 _ ?_)
   refine LWP.seq_k fun N6 hN6 => ?_
   refine LWP.seq_k fun N7 hN7 => ?_
   refine LWP.region (l := [_,_,_,_,_]) ?_
   refine LWo.fieldAddr _ u_impl_Column rfl s_bool rfl rfl (hn := ?_)
   refine LWo.load1 (c := (e_bool a0.Empty)) g_bool rfl (hn := ?_)
   refine LWo.fieldAddr _ u_impl_Column rfl s_bool rfl rfl (hn := ?_)
   refine LWo.load1 (c := (e_bool a1.Empty)) g_bool rfl (hn := ?_)
   refine LWo.boolNe u_bool rfl rfl (hn := ?_)
   refine LWo.nil (hN7 _ ?_)
   refine LWP.cond_split rfl (fun h8 => ?_) (fun h8 => ?_)
   ·have h := bT h8 h
    refine LWP.seq_k fun N9 hN9 => ?_
    refine LWP.region (l := [_]) ?_
    refine LWo.assign (e_bool false) rfl (hn := ?_)
    refine LWo.nil (hN9 _ ?_)
    obtain rfl := Option.some.inj h
    refine LWP.ret (QG.mk (.inr rfl) (.cons (.tmp (x := (e_bool false)) rfl) (.nil)) (RetOK.one0 (.pure rfl) (by decide)) rfl rfl)
   ·have h := bF h8 h
    refine LWP.skip (hN6 _ ?_)
    refine LWP.seq_k fun N10 hN10 => ?_
    refine LWP.region (l := [_]) ?_
    refine LWo.assign (e_bool true) rfl (hn := ?_)
    refine LWo.nil (hN10 _ ?_)
    obtain rfl := Option.some.inj h
    refine LWP.ret (QG.mk (.inr rfl) (.cons (.tmp (x := (e_bool true)) rfl) (.nil)) (RetOK.one0 (.pure rfl) (by decide)) rfl rfl)

def m_laws_eqColumnS_j1  : Option Bool :=
  some true
def m_laws_eqColumnS_l1 : Nat → (List S_impl_Column) → (List S_impl_Column) → Int → Option Bool
  | 0, _, _, _ => none
  | n1 + 1, t0, t1, t5 =>
    bif decide (t5 < (t0.length : Int)) then ((at? t0 t5).bind fun x15 =>
    (at? t1 t5).bind fun x16 =>
    (m_laws_eqColumn x15 x16).bind fun x17 =>
    bif (!x17) then (some false)
    else ((ckI (t5 + (1 : Int))).bind fun x20 =>
    (m_laws_eqColumnS_l1  n1) t0 t1 x20))
    else (m_laws_eqColumnS_j1  )
def m_laws_eqColumnS (a0 : (List S_impl_Column)) (a1 : (List S_impl_Column)) : Option Bool :=
  bif ((a0.length : Int) != (a1.length : Int)) then (some false)
  else (m_laws_eqColumnS_l1  (((a0.length : Int) - (0 : Int)).toNat + 1) a0 a1 (0 : Int))
theorem c_laws_eqColumnS (a0 : (List S_impl_Column)) (a1 : (List S_impl_Column)) (r : Bool) (h : m_laws_eqColumnS a0 a1 = some r) : Ret Try.prog f_laws_eqColumnS [e_Limpl_Column a0, e_Limpl_Column a1] (e_bool r) := by
  refine Does.goG [] F_laws_eqColumnS rfl e_laws_eqColumnS n_laws_eqColumnS rfl (rvs := [.tmp 4]) rfl rfl ?_
  intro w0 ok0 lent ρ0
  refine LWP.seq_k fun N1 hN1 => ?_
  refine LWP.region (l := [_]) ?_
  refine LWo.assign (e_bool false) rfl (hn := ?_)
  refine LWo.nil (hN1 _ ?_)
  refine LWP.seq_k fun N2 hN2 => ?_
  refine LWP.seq_k fun N3 hN3 => ?_
  refine LWP.region (l := [_,_,_,_,_]) ?_
  refine LWo.move (e_Limpl_Column a0) rfl (hn := ?_)
  refine LWo.lenM (f := e_impl_Column) (l := a0) u_Limpl_Column rfl (hn := ?_)
  refine LWo.move (e_Limpl_Column a1) rfl (hn := ?_)
  refine LWo.lenM (f := e_impl_Column) (l := a1) u_Limpl_Column rfl (hn := ?_)
  refine LWo.int _ rfl rfl rfl (hn := ?_)
  refine LWo.nil (hN3 _ ?_)
  refine LWP.cond_split rfl (fun h4 => ?_) (fun h4 => ?_)
  ·have h := bT h4 h
   refine LWP.seq_k fun N5 hN5 => ?_
   refine LWP.region (l := [_]) ?_
   refine LWo.assign (e_bool false) rfl (hn := ?_)
   refine LWo.nil (hN5 _ ?_)
   obtain rfl := Option.some.inj h
   refine LWP.ret (QG.mk (.inr rfl) (.cons (.tmp (x := (e_bool false)) rfl) (.nil)) (RetOK.one0 (.pure rfl) (by decide)) rfl rfl)
  ·have h := bF h4 h
   refine LWP.skip (hN2 _ ?_)
   refine LWP.join (α := Unit) (fun z : Unit => []) (fun z : Unit => []) (fun z : Unit => m_laws_eqColumnS_j1  ) r (fun _ => by simp [hkeys]) ?_ ?_
   ·rintro _ h
    replace h : m_laws_eqColumnS_j1   = some _ := h
    refine LWP.seq_k fun N21 hN21 => ?_
    refine LWP.region (l := [_]) ?_
    refine LWo.assign (e_bool true) rfl (hn := ?_)
    refine LWo.nil (hN21 _ ?_)
    obtain rfl := Option.some.inj h
    refine LWP.ret (QG.mk (.inr rfl) (.cons (.tmp (x := (e_bool true)) rfl) (.nil)) (RetOK.one0 (.pure rfl) (by decide)) rfl rfl)
   ·intro N6 hN6
    refine LWP.seq_k fun N7 hN7 => ?_
    refine LWP.region (l := [_]) ?_
    refine LWo.assign (e_int (0 : Int)) rfl (hn := ?_)
    refine LWo.nil (hN7 _ ?_)
    refine LWP.block ?_
    refine LWP.loopM (α := (List S_impl_Column) × (List S_impl_Column) × Int) (fun z : (List S_impl_Column) × (List S_impl_Column) × Int => [(0, (e_Limpl_Column z.1)), (1, (e_Limpl_Column z.2.1)), (5, (e_int z.2.2))]) (fun z : (List S_impl_Column) × (List S_impl_Column) × Int => []) (fun n1 (z : (List S_impl_Column) × (List S_impl_Column) × Int) => m_laws_eqColumnS_l1  n1 z.1 z.2.1 z.2.2) r _ (a0, a1, (0 : Int)) h (fun _ => rfl) (fun _ => by simp [hkeys]) ⟨rfl, rfl, rfl, trivial⟩ trivial ?_
    rintro n1 ⟨t0, t1, t5⟩ h N8 hN8
    replace h : m_laws_eqColumnS_l1  (n1 + 1) t0 t1 t5 = some _ := h
    refine LWP.seq_k fun N10 hN10 => ?_
    refine LWP.seq_k fun N11 hN11 => ?_
    refine LWP.region (l := [_,_,_,_]) ?_
    refine LWo.move (e_int t5) rfl (hn := ?_)
    refine LWo.move (e_Limpl_Column t0) rfl (hn := ?_)
    refine LWo.lenM (f := e_impl_Column) (l := t0) u_Limpl_Column rfl (hn := ?_)
    refine LWo.int _ rfl rfl rfl (hn := ?_)
    refine LWo.nil (hN11 _ ?_)
    refine LWP.cond_split rfl (fun h12 => ?_) (fun h12 => ?_)
    ·have h := bT h12 h
     refine LWP.skip (hN10 _ ?_)
     refine LWP.seq_k fun N13 hN13 => ?_
     refine LWP.block ?_
     refine LWP.seq_k fun N14 hN14 => ?_
     refine bk h fun x15 e15 h => ?_
     refine bk h fun x16 e16 h => ?_
     refine bk h fun x17 e17 h => ?_
     refine LWP.drawF (l := [_,_,_,_,_,_,_,_,_,_]) [] [0, 1, 5] [([0], []), ([5], []), ([17, 18], []), ([19], []), ([1], []), ([5], []), ([21, 22], []), ([23], []), ([20, 24], []), ([25], [])] [0, 1, 5, 26] [] mixed (by kernel_rfl) rfl (by decide) ?_
     refine dq 17 rfl (fun _ g u h => LWo.move (e_Limpl_Column t0) u.1 (hn := .nil (zn g))) ?_
     refine dq 18 rfl (fun _ g u h => LWo.move (e_int t5) u.1 (hn := .nil (zn g))) ?_
     refine dq 19 rfl (fun _ g u h => LWo.indexM (f := e_impl_Column) e15 u_Limpl_Column s_impl_Column u.1 u.2.1 (hn := .nil (zn g))) ?_
     refine dq 20 rfl (fun _ g u h => LWo.loadN ((e_impl_Column x15)).cells g_impl_Column s_impl_Column u.1 (Nat.le_of_ble_eq_true rfl) rfl (hn := .nil (zn g))) ?_
     refine dq 21 rfl (fun _ g u h => LWo.move (e_Limpl_Column t1) u.1 (hn := .nil (zn g))) ?_
     refine dq 22 rfl (fun _ g u h => LWo.move (e_int t5) u.1 (hn := .nil (zn g))) ?_
     refine dq 23 rfl (fun _ g u h => LWo.indexM (f := e_impl_Column) e16 u_Limpl_Column s_impl_Column u.1 u.2.1 (hn := .nil (zn g))) ?_
     refine dq 24 rfl (fun _ g u h => LWo.loadN ((e_impl_Column x16)).cells g_impl_Column s_impl_Column u.1 (Nat.le_of_ble_eq_true rfl) rfl (hn := .nil (zn g))) ?_
     refine dq 25 rfl (fun _ g u h => LWo.vcall rfl (av2 u.1 u.2.1) (c_laws_eqColumn _ _ _ e17) (.same (.same (.nil))) (hn := .nil (zn g))) ?_
     refine dq 26 rfl (fun _ g u h => LWo.not u.1 (hn := .nil (zn g))) ?_
     refine ⟨rfl, by kernel_rfl, hN14 _ ?_⟩
     refine LWP.cond_split rfl (fun h18 => ?_) (fun h18 => ?_)
     ·have h := bT h18 h
      refine LWP.seq_k fun N19 hN19 => ?_
      refine LWP.region (l := [_]) ?_
      refine LWo.assign (e_bool false) rfl (hn := ?_)
      refine LWo.nil (hN19 _ ?_)
      obtain rfl := Option.some.inj h
      refine LWP.ret (QG.mk (.inr rfl) (.cons (.tmp (x := (e_bool false)) rfl) (.nil)) (RetOK.one0 (.pure rfl) (by decide)) rfl rfl)
     ·have h := bF h18 h
      refine LWP.skip (hN13 _ ?_)
      refine LWP.region (l := [_,_,_]) ?_
      refine LWo.move (e_int t5) rfl (hn := ?_)
      refine bk h fun x20 e20 h => ?_
      refine LWo.int _ rfl rfl (add_ck e20) (hn := ?_)
      refine LWo.assign (e_int x20) rfl (hn := ?_)
      refine LWo.nil (hN8 (t0, t1, x20) _ ⟨rfl, rfl, rfl, trivial⟩ trivial h)
    ·have h := bF h12 h
     refine LWP.exit (hN6 () _ trivial trivial h)

def m_laws_eqValue (a0 : S_impl_Value) (a1 : S_impl_Value) : Option Bool :=
  bif (a0.Kind != a1.Kind) then (some false)
  else (bif (a0.N != a1.N) then (some false)
  else (bif (!(sEq a0.S a1.S)) then (some false)
  else (some true)))
theorem c_laws_eqValue (a0 : S_impl_Value) (a1 : S_impl_Value) (r : Bool) (h : m_laws_eqValue a0 a1 = some r) : Ret Try.prog f_laws_eqValue [e_impl_Value a0, e_impl_Value a1] (e_bool r) := by
  refine Does.goG [] F_laws_eqValue rfl e_laws_eqValue n_laws_eqValue rfl (rvs := [.tmp 4]) rfl rfl ?_
  intro w0 ok0 lent ρ0
  refine LWP.seq_k fun N1 hN1 => ?_
  refine LWP.region (l := [_,_,_]) ?_
  refine LWo.boxF (e_impl_Value a0) rfl rfl rfl (hn := ?_)
  refine LWo.boxF (e_impl_Value a1) rfl rfl rfl (hn := ?_)
  refine LWo.assign (e_bool false) rfl (hn := ?_)
  refine LWo.nil (hN1 _ ?_)
  refine LWP.seq_k fun N2 hN2 => ?_
  refine LWP.seq_k fun N3 hN3 => ?_
  refine LWP.region (l := [_,_,_,_,_]) ?_
  refine LWo.fieldAddr _ u_impl_Value rfl s_int rfl rfl (hn := ?_)
  refine LWo.load1 (c := (e_int a0.Kind)) g_int rfl (hn := ?_)
  refine LWo.fieldAddr _ u_impl_Value rfl s_int rfl rfl (hn := ?_)
  refine LWo.load1 (c := (e_int a1.Kind)) g_int rfl (hn := ?_)
  refine LWo.int _ rfl rfl rfl (hn := ?_)
  refine LWo.nil (hN3 _ ?_)
  refine LWP.cond_split rfl (fun h4 => ?_) (fun h4 => ?_)
  ·have h := bT h4 h
   refine LWP.seq_k fun N5 hN5 => ?_
   refine LWP.region (l := [_]) ?_
   refine LWo.assign (e_bool false) rfl (hn := ?_)
   refine LWo.nil (hN5 _ ?_)
   obtain rfl := Option.some.inj h
   refine LWP.ret (QG.mk (.inr rfl) (.cons (.tmp (x := (e_bool false)) rfl) (.nil)) (RetOK.one0 (.pure rfl) (by decide)) rfl rfl)
  ·have h := bF h4 h
   refine LWP.skip (hN2 _ ?_)
   refine LWP.seq_k fun N6 hN6 => ?_
   refine LWP.seq_k fun N7 hN7 => ?_
   refine LWP.region (l := [_,_,_,_,_]) ?_
   refine LWo.fieldAddr _ u_impl_Value rfl s_int rfl rfl (hn := ?_)
   refine LWo.load1 (c := (e_int a0.N)) g_int rfl (hn := ?_)
   refine LWo.fieldAddr _ u_impl_Value rfl s_int rfl rfl (hn := ?_)
   refine LWo.load1 (c := (e_int a1.N)) g_int rfl (hn := ?_)
   refine LWo.int _ rfl rfl rfl (hn := ?_)
   refine LWo.nil (hN7 _ ?_)
   refine LWP.cond_split rfl (fun h8 => ?_) (fun h8 => ?_)
   ·have h := bT h8 h
    refine LWP.seq_k fun N9 hN9 => ?_
    refine LWP.region (l := [_]) ?_
    refine LWo.assign (e_bool false) rfl (hn := ?_)
    refine LWo.nil (hN9 _ ?_)
    obtain rfl := Option.some.inj h
    refine LWP.ret (QG.mk (.inr rfl) (.cons (.tmp (x := (e_bool false)) rfl) (.nil)) (RetOK.one0 (.pure rfl) (by decide)) rfl rfl)
   ·have h := bF h8 h
    refine LWP.skip (hN6 _ ?_)
    refine LWP.seq_k fun N10 hN10 => ?_
    refine LWP.seq_k fun N11 hN11 => ?_
    refine LWP.region (l := [_,_,_,_,_]) ?_
    refine LWo.fieldAddr _ u_impl_Value rfl s_string rfl rfl (hn := ?_)
    refine LWo.load1 (c := (e_string a0.S)) g_string rfl (hn := ?_)
    refine LWo.fieldAddr _ u_impl_Value rfl s_string rfl rfl (hn := ?_)
    refine LWo.load1 (c := (e_string a1.S)) g_string rfl (hn := ?_)
    refine LWo.str _ rfl rfl rfl (hn := ?_)
    refine LWo.nil (hN11 _ ?_)
    refine LWP.cond_split rfl (fun h12 => ?_) (fun h12 => ?_)
    ·have h := bT h12 h
     refine LWP.seq_k fun N13 hN13 => ?_
     refine LWP.region (l := [_]) ?_
     refine LWo.assign (e_bool false) rfl (hn := ?_)
     refine LWo.nil (hN13 _ ?_)
     obtain rfl := Option.some.inj h
     refine LWP.ret (QG.mk (.inr rfl) (.cons (.tmp (x := (e_bool false)) rfl) (.nil)) (RetOK.one0 (.pure rfl) (by decide)) rfl rfl)
    ·have h := bF h12 h
     refine LWP.skip (hN10 _ ?_)
     refine LWP.seq_k fun N14 hN14 => ?_
     refine LWP.region (l := [_]) ?_
     refine LWo.assign (e_bool true) rfl (hn := ?_)
     refine LWo.nil (hN14 _ ?_)
     obtain rfl := Option.some.inj h
     refine LWP.ret (QG.mk (.inr rfl) (.cons (.tmp (x := (e_bool true)) rfl) (.nil)) (RetOK.one0 (.pure rfl) (by decide)) rfl rfl)

def m_laws_eqValueS_j1  : Option Bool :=
  some true
def m_laws_eqValueS_l1 : Nat → (List S_impl_Value) → (List S_impl_Value) → Int → Option Bool
  | 0, _, _, _ => none
  | n1 + 1, t0, t1, t5 =>
    bif decide (t5 < (t0.length : Int)) then ((at? t0 t5).bind fun x15 =>
    (at? t1 t5).bind fun x16 =>
    (m_laws_eqValue x15 x16).bind fun x17 =>
    bif (!x17) then (some false)
    else ((ckI (t5 + (1 : Int))).bind fun x20 =>
    (m_laws_eqValueS_l1  n1) t0 t1 x20))
    else (m_laws_eqValueS_j1  )
def m_laws_eqValueS (a0 : (List S_impl_Value)) (a1 : (List S_impl_Value)) : Option Bool :=
  bif ((a0.length : Int) != (a1.length : Int)) then (some false)
  else (m_laws_eqValueS_l1  (((a0.length : Int) - (0 : Int)).toNat + 1) a0 a1 (0 : Int))
theorem c_laws_eqValueS (a0 : (List S_impl_Value)) (a1 : (List S_impl_Value)) (r : Bool) (h : m_laws_eqValueS a0 a1 = some r) : Ret Try.prog f_laws_eqValueS [e_Limpl_Value a0, e_Limpl_Value a1] (e_bool r) := by
  refine Does.goG [] F_laws_eqValueS rfl e_laws_eqValueS n_laws_eqValueS rfl (rvs := [.tmp 4]) rfl rfl ?_
  intro w0 ok0 lent ρ0
  refine LWP.seq_k fun N1 hN1 => ?_
  refine LWP.region (l := [_]) ?_
  refine LWo.assign (e_bool false) rfl (hn := ?_)
  refine LWo.nil (hN1 _ ?_)
  refine LWP.seq_k fun N2 hN2 => ?_
  refine LWP.seq_k fun N3 hN3 => ?_
  refine LWP.region (l := [_,_,_,_,_]) ?_
  refine LWo.move (e_Limpl_Value a0) rfl (hn := ?_)
  refine LWo.lenM (f := e_impl_Value) (l := a0) u_Limpl_Value rfl (hn := ?_)
  refine LWo.move (e_Limpl_Value a1) rfl (hn := ?_)
  refine LWo.lenM (f := e_impl_Value) (l := a1) u_Limpl_Value rfl (hn := ?_)
  refine LWo.int _ rfl rfl rfl (hn := ?_)
  refine LWo.nil (hN3 _ ?_)
  refine LWP.cond_split rfl (fun h4 => ?_) (fun h4 => ?_)
  ·have h := bT h4 h
   refine LWP.seq_k fun N5 hN5 => ?_
   refine LWP.region (l := [_]) ?_
   refine LWo.assign (e_bool false) rfl (hn := ?_)
   refine LWo.nil (hN5 _ ?_)
   obtain rfl := Option.some.inj h
   refine LWP.ret (QG.mk (.inr rfl) (.cons (.tmp (x := (e_bool false)) rfl) (.nil)) (RetOK.one0 (.pure rfl) (by decide)) rfl rfl)
  ·have h := bF h4 h
   refine LWP.skip (hN2 _ ?_)
   refine LWP.join (α := Unit) (fun z : Unit => []) (fun z : Unit => []) (fun z : Unit => m_laws_eqValueS_j1  ) r (fun _ => by simp [hkeys]) ?_ ?_
   ·rintro _ h
    replace h : m_laws_eqValueS_j1   = some _ := h
    refine LWP.seq_k fun N21 hN21 => ?_
    refine LWP.region (l := [_]) ?_
    refine LWo.assign (e_bool true) rfl (hn := ?_)
    refine LWo.nil (hN21 _ ?_)
    obtain rfl := Option.some.inj h
    refine LWP.ret (QG.mk (.inr rfl) (.cons (.tmp (x := (e_bool true)) rfl) (.nil)) (RetOK.one0 (.pure rfl) (by decide)) rfl rfl)
   ·intro N6 hN6
    refine LWP.seq_k fun N7 hN7 => ?_
    refine LWP.region (l := [_]) ?_
    refine LWo.assign (e_int (0 : Int)) rfl (hn := ?_)
    refine LWo.nil (hN7 _ ?_)
    refine LWP.block ?_
    refine LWP.loopM (α := (List S_impl_Value) × (List S_impl_Value) × Int) (fun z : (List S_impl_Value) × (List S_impl_Value) × Int => [(0, (e_Limpl_Value z.1)), (1, (e_Limpl_Value z.2.1)), (5, (e_int z.2.2))]) (fun z : (List S_impl_Value) × (List S_impl_Value) × Int => []) (fun n1 (z : (List S_impl_Value) × (List S_impl_Value) × Int) => m_laws_eqValueS_l1  n1 z.1 z.2.1 z.2.2) r _ (a0, a1, (0 : Int)) h (fun _ => rfl) (fun _ => by simp [hkeys]) ⟨rfl, rfl, rfl, trivial⟩ trivial ?_
    rintro n1 ⟨t0, t1, t5⟩ h N8 hN8
    replace h : m_laws_eqValueS_l1  (n1 + 1) t0 t1 t5 = some _ := h
    refine LWP.seq_k fun N10 hN10 => ?_
    refine LWP.seq_k fun N11 hN11 => ?_
    refine LWP.region (l := [_,_,_,_]) ?_
    refine LWo.move (e_int t5) rfl (hn := ?_)
    refine LWo.move (e_Limpl_Value t0) rfl (hn := ?_)
    refine LWo.lenM (f := e_impl_Value) (l := t0) u_Limpl_Value rfl (hn := ?_)
    refine LWo.int _ rfl rfl rfl (hn := ?_)
    refine LWo.nil (hN11 _ ?_)
    refine LWP.cond_split rfl (fun h12 => ?_) (fun h12 => ?_)
    ·have h := bT h12 h
     refine LWP.skip (hN10 _ ?_)
     refine LWP.seq_k fun N13 hN13 => ?_
     refine LWP.block ?_
     refine LWP.seq_k fun N14 hN14 => ?_
     refine bk h fun x15 e15 h => ?_
     refine bk h fun x16 e16 h => ?_
     refine bk h fun x17 e17 h => ?_
     refine LWP.drawF (l := [_,_,_,_,_,_,_,_,_,_]) [] [0, 1, 5] [([0], []), ([5], []), ([17, 18], []), ([19], []), ([1], []), ([5], []), ([21, 22], []), ([23], []), ([20, 24], []), ([25], [])] [0, 1, 5, 26] [] mixed (by kernel_rfl) rfl (by decide) ?_
     refine dq 17 rfl (fun _ g u h => LWo.move (e_Limpl_Value t0) u.1 (hn := .nil (zn g))) ?_
     refine dq 18 rfl (fun _ g u h => LWo.move (e_int t5) u.1 (hn := .nil (zn g))) ?_
     refine dq 19 rfl (fun _ g u h => LWo.indexM (f := e_impl_Value) e15 u_Limpl_Value s_impl_Value u.1 u.2.1 (hn := .nil (zn g))) ?_
     refine dq 20 rfl (fun _ g u h => LWo.loadN ((e_impl_Value x15)).cells g_impl_Value s_impl_Value u.1 (Nat.le_of_ble_eq_true rfl) rfl (hn := .nil (zn g))) ?_
     refine dq 21 rfl (fun _ g u h => LWo.move (e_Limpl_Value t1) u.1 (hn := .nil (zn g))) ?_
     refine dq 22 rfl (fun _ g u h => LWo.move (e_int t5) u.1 (hn := .nil (zn g))) ?_
     refine dq 23 rfl (fun _ g u h => LWo.indexM (f := e_impl_Value) e16 u_Limpl_Value s_impl_Value u.1 u.2.1 (hn := .nil (zn g))) ?_
     refine dq 24 rfl (fun _ g u h => LWo.loadN ((e_impl_Value x16)).cells g_impl_Value s_impl_Value u.1 (Nat.le_of_ble_eq_true rfl) rfl (hn := .nil (zn g))) ?_
     refine dq 25 rfl (fun _ g u h => LWo.vcall rfl (av2 u.1 u.2.1) (c_laws_eqValue _ _ _ e17) (.same (.same (.nil))) (hn := .nil (zn g))) ?_
     refine dq 26 rfl (fun _ g u h => LWo.not u.1 (hn := .nil (zn g))) ?_
     refine ⟨rfl, by kernel_rfl, hN14 _ ?_⟩
     refine LWP.cond_split rfl (fun h18 => ?_) (fun h18 => ?_)
     ·have h := bT h18 h
      refine LWP.seq_k fun N19 hN19 => ?_
      refine LWP.region (l := [_]) ?_
      refine LWo.assign (e_bool false) rfl (hn := ?_)
      refine LWo.nil (hN19 _ ?_)
      obtain rfl := Option.some.inj h
      refine LWP.ret (QG.mk (.inr rfl) (.cons (.tmp (x := (e_bool false)) rfl) (.nil)) (RetOK.one0 (.pure rfl) (by decide)) rfl rfl)
     ·have h := bF h18 h
      refine LWP.skip (hN13 _ ?_)
      refine LWP.region (l := [_,_,_]) ?_
      refine LWo.move (e_int t5) rfl (hn := ?_)
      refine bk h fun x20 e20 h => ?_
      refine LWo.int _ rfl rfl (add_ck e20) (hn := ?_)
      refine LWo.assign (e_int x20) rfl (hn := ?_)
      refine LWo.nil (hN8 (t0, t1, x20) _ ⟨rfl, rfl, rfl, trivial⟩ trivial h)
    ·have h := bF h12 h
     refine LWP.exit (hN6 () _ trivial trivial h)

def m_laws_eqPart (a0 : S_impl_Part) (a1 : S_impl_Part) : Option Bool :=
  bif (a0.Kind != a1.Kind) then (some false)
  else (bif (a0.N != a1.N) then (some false)
  else ((m_laws_eqValue a0.V a1.V).bind fun x12 =>
  bif (!x12) then (some false)
  else (some true)))
theorem c_laws_eqPart (a0 : S_impl_Part) (a1 : S_impl_Part) (r : Bool) (h : m_laws_eqPart a0 a1 = some r) : Ret Try.prog f_laws_eqPart [e_impl_Part a0, e_impl_Part a1] (e_bool r) := by
  refine Does.goG [] F_laws_eqPart rfl e_laws_eqPart n_laws_eqPart rfl (rvs := [.tmp 4]) rfl rfl ?_
  intro w0 ok0 lent ρ0
  refine LWP.seq_k fun N1 hN1 => ?_
  refine LWP.region (l := [_,_,_]) ?_
  refine LWo.boxF (e_impl_Part a0) rfl rfl rfl (hn := ?_)
  refine LWo.boxF (e_impl_Part a1) rfl rfl rfl (hn := ?_)
  refine LWo.assign (e_bool false) rfl (hn := ?_)
  refine LWo.nil (hN1 _ ?_)
  refine LWP.seq_k fun N2 hN2 => ?_
  refine LWP.seq_k fun N3 hN3 => ?_
  refine LWP.region (l := [_,_,_,_,_]) ?_
  refine LWo.fieldAddr _ u_impl_Part rfl s_int rfl rfl (hn := ?_)
  refine LWo.load1 (c := (e_int a0.Kind)) g_int rfl (hn := ?_)
  refine LWo.fieldAddr _ u_impl_Part rfl s_int rfl rfl (hn := ?_)
  refine LWo.load1 (c := (e_int a1.Kind)) g_int rfl (hn := ?_)
  refine LWo.int _ rfl rfl rfl (hn := ?_)
  refine LWo.nil (hN3 _ ?_)
  refine LWP.cond_split rfl (fun h4 => ?_) (fun h4 => ?_)
  ·have h := bT h4 h
   refine LWP.seq_k fun N5 hN5 => ?_
   refine LWP.region (l := [_]) ?_
   refine LWo.assign (e_bool false) rfl (hn := ?_)
   refine LWo.nil (hN5 _ ?_)
   obtain rfl := Option.some.inj h
   refine LWP.ret (QG.mk (.inr rfl) (.cons (.tmp (x := (e_bool false)) rfl) (.nil)) (RetOK.one0 (.pure rfl) (by decide)) rfl rfl)
  ·have h := bF h4 h
   refine LWP.skip (hN2 _ ?_)
   refine LWP.seq_k fun N6 hN6 => ?_
   refine LWP.seq_k fun N7 hN7 => ?_
   refine LWP.region (l := [_,_,_,_,_]) ?_
   refine LWo.fieldAddr _ u_impl_Part rfl s_int rfl rfl (hn := ?_)
   refine LWo.load1 (c := (e_int a0.N)) g_int rfl (hn := ?_)
   refine LWo.fieldAddr _ u_impl_Part rfl s_int rfl rfl (hn := ?_)
   refine LWo.load1 (c := (e_int a1.N)) g_int rfl (hn := ?_)
   refine LWo.int _ rfl rfl rfl (hn := ?_)
   refine LWo.nil (hN7 _ ?_)
   refine LWP.cond_split rfl (fun h8 => ?_) (fun h8 => ?_)
   ·have h := bT h8 h
    refine LWP.seq_k fun N9 hN9 => ?_
    refine LWP.region (l := [_]) ?_
    refine LWo.assign (e_bool false) rfl (hn := ?_)
    refine LWo.nil (hN9 _ ?_)
    obtain rfl := Option.some.inj h
    refine LWP.ret (QG.mk (.inr rfl) (.cons (.tmp (x := (e_bool false)) rfl) (.nil)) (RetOK.one0 (.pure rfl) (by decide)) rfl rfl)
   ·have h := bF h8 h
    refine LWP.skip (hN6 _ ?_)
    refine LWP.seq_k fun N10 hN10 => ?_
    refine LWP.seq_k fun N11 hN11 => ?_
    refine LWP.region (l := [_,_,_,_,_,_]) ?_
    refine LWo.fieldAddr _ u_impl_Part rfl s_impl_Value rfl rfl (hn := ?_)
    refine LWo.loadN ((e_impl_Value a0.V)).cells g_impl_Value s_impl_Value rfl (Nat.le_of_ble_eq_true rfl) rfl (hn := ?_)
    refine LWo.fieldAddr _ u_impl_Part rfl s_impl_Value rfl rfl (hn := ?_)
    refine LWo.loadN ((e_impl_Value a1.V)).cells g_impl_Value s_impl_Value rfl (Nat.le_of_ble_eq_true rfl) rfl (hn := ?_)
    refine bk h fun x12 e12 h => ?_
    refine LWo.vcall rfl rfl (c_laws_eqValue _ _ _ e12) (.same (.same (.nil))) (hn := ?_)
    refine LWo.not rfl (hn := ?_)
    refine LWo.nil (hN11 _ ?_)
    refine LWP.cond_split rfl (fun h13 => ?_) (fun h13 => ?_)
    ·have h := bT h13 h
     refine LWP.seq_k fun N14 hN14 => ?_
     refine LWP.region (l := [_]) ?_
     refine LWo.assign (e_bool false) rfl (hn := ?_)
     refine LWo.nil (hN14 _ ?_)
     obtain rfl := Option.some.inj h
     refine LWP.ret (QG.mk (.inr rfl) (.cons (.tmp (x := (e_bool false)) rfl) (.nil)) (RetOK.one0 (.pure rfl) (by decide)) rfl rfl)
    ·have h := bF h13 h
     refine LWP.skip (hN10 _ ?_)
     refine LWP.seq_k fun N15 hN15 => ?_
     refine LWP.region (l := [_]) ?_
     refine LWo.assign (e_bool true) rfl (hn := ?_)
     refine LWo.nil (hN15 _ ?_)
     obtain rfl := Option.some.inj h
     refine LWP.ret (QG.mk (.inr rfl) (.cons (.tmp (x := (e_bool true)) rfl) (.nil)) (RetOK.one0 (.pure rfl) (by decide)) rfl rfl)

def m_laws_eqPartS_j1  : Option Bool :=
  some true
def m_laws_eqPartS_l1 : Nat → (List S_impl_Part) → (List S_impl_Part) → Int → Option Bool
  | 0, _, _, _ => none
  | n1 + 1, t0, t1, t5 =>
    bif decide (t5 < (t0.length : Int)) then ((at? t0 t5).bind fun x15 =>
    (at? t1 t5).bind fun x16 =>
    (m_laws_eqPart x15 x16).bind fun x17 =>
    bif (!x17) then (some false)
    else ((ckI (t5 + (1 : Int))).bind fun x20 =>
    (m_laws_eqPartS_l1  n1) t0 t1 x20))
    else (m_laws_eqPartS_j1  )
def m_laws_eqPartS (a0 : (List S_impl_Part)) (a1 : (List S_impl_Part)) : Option Bool :=
  bif ((a0.length : Int) != (a1.length : Int)) then (some false)
  else (m_laws_eqPartS_l1  (((a0.length : Int) - (0 : Int)).toNat + 1) a0 a1 (0 : Int))
theorem c_laws_eqPartS (a0 : (List S_impl_Part)) (a1 : (List S_impl_Part)) (r : Bool) (h : m_laws_eqPartS a0 a1 = some r) : Ret Try.prog f_laws_eqPartS [e_Limpl_Part a0, e_Limpl_Part a1] (e_bool r) := by
  refine Does.goG [] F_laws_eqPartS rfl e_laws_eqPartS n_laws_eqPartS rfl (rvs := [.tmp 4]) rfl rfl ?_
  intro w0 ok0 lent ρ0
  refine LWP.seq_k fun N1 hN1 => ?_
  refine LWP.region (l := [_]) ?_
  refine LWo.assign (e_bool false) rfl (hn := ?_)
  refine LWo.nil (hN1 _ ?_)
  refine LWP.seq_k fun N2 hN2 => ?_
  refine LWP.seq_k fun N3 hN3 => ?_
  refine LWP.region (l := [_,_,_,_,_]) ?_
  refine LWo.move (e_Limpl_Part a0) rfl (hn := ?_)
  refine LWo.lenM (f := e_impl_Part) (l := a0) u_Limpl_Part rfl (hn := ?_)
  refine LWo.move (e_Limpl_Part a1) rfl (hn := ?_)
  refine LWo.lenM (f := e_impl_Part) (l := a1) u_Limpl_Part rfl (hn := ?_)
  refine LWo.int _ rfl rfl rfl (hn := ?_)
  refine LWo.nil (hN3 _ ?_)
  refine LWP.cond_split rfl (fun h4 => ?_) (fun h4 => ?_)
  ·have h := bT h4 h
   refine LWP.seq_k fun N5 hN5 => ?_
   refine LWP.region (l := [_]) ?_
   refine LWo.assign (e_bool false) rfl (hn := ?_)
   refine LWo.nil (hN5 _ ?_)
   obtain rfl := Option.some.inj h
   refine LWP.ret (QG.mk (.inr rfl) (.cons (.tmp (x := (e_bool false)) rfl) (.nil)) (RetOK.one0 (.pure rfl) (by decide)) rfl rfl)
  ·have h := bF h4 h
   refine LWP.skip (hN2 _ ?_)
   refine LWP.join (α := Unit) (fun z : Unit => []) (fun z : Unit => []) (fun z : Unit => m_laws_eqPartS_j1  ) r (fun _ => by simp [hkeys]) ?_ ?_
   ·rintro _ h
    replace h : m_laws_eqPartS_j1   = some _ := h
    refine LWP.seq_k fun N21 hN21 => ?_
    refine LWP.region (l := [_]) ?_
    refine LWo.assign (e_bool true) rfl (hn := ?_)
    refine LWo.nil (hN21 _ ?_)
    obtain rfl := Option.some.inj h
    refine LWP.ret (QG.mk (.inr rfl) (.cons (.tmp (x := (e_bool true)) rfl) (.nil)) (RetOK.one0 (.pure rfl) (by decide)) rfl rfl)
   ·intro N6 hN6
    refine LWP.seq_k fun N7 hN7 => ?_
    refine LWP.region (l := [_]) ?_
    refine LWo.assign (e_int (0 : Int)) rfl (hn := ?_)
    refine LWo.nil (hN7 _ ?_)
    refine LWP.block ?_
    refine LWP.loopM (α := (List S_impl_Part) × (List S_impl_Part) × Int) (fun z : (List S_impl_Part) × (List S_impl_Part) × Int => [(0, (e_Limpl_Part z.1)), (1, (e_Limpl_Part z.2.1)), (5, (e_int z.2.2))]) (fun z : (List S_impl_Part) × (List S_impl_Part) × Int => []) (fun n1 (z : (List S_impl_Part) × (List S_impl_Part) × Int) => m_laws_eqPartS_l1  n1 z.1 z.2.1 z.2.2) r _ (a0, a1, (0 : Int)) h (fun _ => rfl) (fun _ => by simp [hkeys]) ⟨rfl, rfl, rfl, trivial⟩ trivial ?_
    rintro n1 ⟨t0, t1, t5⟩ h N8 hN8
    replace h : m_laws_eqPartS_l1  (n1 + 1) t0 t1 t5 = some _ := h
    refine LWP.seq_k fun N10 hN10 => ?_
    refine LWP.seq_k fun N11 hN11 => ?_
    refine LWP.region (l := [_,_,_,_]) ?_
    refine LWo.move (e_int t5) rfl (hn := ?_)
    refine LWo.move (e_Limpl_Part t0) rfl (hn := ?_)
    refine LWo.lenM (f := e_impl_Part) (l := t0) u_Limpl_Part rfl (hn := ?_)
    refine LWo.int _ rfl rfl rfl (hn := ?_)
    refine LWo.nil (hN11 _ ?_)
    refine LWP.cond_split rfl (fun h12 => ?_) (fun h12 => ?_)
    ·have h := bT h12 h
     refine LWP.skip (hN10 _ ?_)
     refine LWP.seq_k fun N13 hN13 => ?_
     refine LWP.block ?_
     refine LWP.seq_k fun N14 hN14 => ?_
     refine bk h fun x15 e15 h => ?_
     refine bk h fun x16 e16 h => ?_
     refine bk h fun x17 e17 h => ?_
     refine LWP.drawF (l := [_,_,_,_,_,_,_,_,_,_]) [] [0, 1, 5] [([0], []), ([5], []), ([17, 18], []), ([19], []), ([1], []), ([5], []), ([21, 22], []), ([23], []), ([20, 24], []), ([25], [])] [0, 1, 5, 26] [] mixed (by kernel_rfl) rfl (by decide) ?_
     refine dq 17 rfl (fun _ g u h => LWo.move (e_Limpl_Part t0) u.1 (hn := .nil (zn g))) ?_
     refine dq 18 rfl (fun _ g u h => LWo.move (e_int t5) u.1 (hn := .nil (zn g))) ?_
     refine dq 19 rfl (fun _ g u h => LWo.indexM (f := e_impl_Part) e15 u_Limpl_Part s_impl_Part u.1 u.2.1 (hn := .nil (zn g))) ?_
     refine dq 20 rfl (fun _ g u h => LWo.loadN ((e_impl_Part x15)).cells g_impl_Part s_impl_Part u.1 (Nat.le_of_ble_eq_true rfl) rfl (hn := .nil (zn g))) ?_
     refine dq 21 rfl (fun _ g u h => LWo.move (e_Limpl_Part t1) u.1 (hn := .nil (zn g))) ?_
     refine dq 22 rfl (fun _ g u h => LWo.move (e_int t5) u.1 (hn := .nil (zn g))) ?_
     refine dq 23 rfl (fun _ g u h => LWo.indexM (f := e_impl_Part) e16 u_Limpl_Part s_impl_Part u.1 u.2.1 (hn := .nil (zn g))) ?_
     refine dq 24 rfl (fun _ g u h => LWo.loadN ((e_impl_Part x16)).cells g_impl_Part s_impl_Part u.1 (Nat.le_of_ble_eq_true rfl) rfl (hn := .nil (zn g))) ?_
     refine dq 25 rfl (fun _ g u h => LWo.vcall rfl (av2 u.1 u.2.1) (c_laws_eqPart _ _ _ e17) (.same (.same (.nil))) (hn := .nil (zn g))) ?_
     refine dq 26 rfl (fun _ g u h => LWo.not u.1 (hn := .nil (zn g))) ?_
     refine ⟨rfl, by kernel_rfl, hN14 _ ?_⟩
     refine LWP.cond_split rfl (fun h18 => ?_) (fun h18 => ?_)
     ·have h := bT h18 h
      refine LWP.seq_k fun N19 hN19 => ?_
      refine LWP.region (l := [_]) ?_
      refine LWo.assign (e_bool false) rfl (hn := ?_)
      refine LWo.nil (hN19 _ ?_)
      obtain rfl := Option.some.inj h
      refine LWP.ret (QG.mk (.inr rfl) (.cons (.tmp (x := (e_bool false)) rfl) (.nil)) (RetOK.one0 (.pure rfl) (by decide)) rfl rfl)
     ·have h := bF h18 h
      refine LWP.skip (hN13 _ ?_)
      refine LWP.region (l := [_,_,_]) ?_
      refine LWo.move (e_int t5) rfl (hn := ?_)
      refine bk h fun x20 e20 h => ?_
      refine LWo.int _ rfl rfl (add_ck e20) (hn := ?_)
      refine LWo.assign (e_int x20) rfl (hn := ?_)
      refine LWo.nil (hN8 (t0, t1, x20) _ ⟨rfl, rfl, rfl, trivial⟩ trivial h)
    ·have h := bF h12 h
     refine LWP.exit (hN6 () _ trivial trivial h)

def m_laws_FnExactExprHolds (a0 : (List S_laws_Column)) (a1 : (List S_laws_Value)) (a2 : (List S_laws_Part)) : Option Bool :=
  (m_laws_szColumnS a0 (1048576 : Int)).bind fun x4 =>
  bif decide (x4 < (0 : Int)) then (some true)
  else ((m_laws_szValueS a1 x4).bind fun x10 =>
  bif decide (x10 < (0 : Int)) then (some true)
  else ((m_laws_szPartS a2 x10).bind fun x16 =>
  bif decide (x16 < (0 : Int)) then (some true)
  else ((m_laws_toColumnS a0).bind fun x22 =>
  (m_laws_toValueS a1).bind fun x23 =>
  (m_laws_toPartS a2).bind fun x24 =>
  (m_spec_ExprHolds x22 x23 x24).bind fun x25 =>
  (m_laws_toColumnS a0).bind fun x27 =>
  (m_laws_toValueS a1).bind fun x29 =>
  (m_laws_toPartS a2).bind fun x31 =>
  (m_impl_ExprHolds x27 x29 x31).bind fun x33 =>
  bif (x33 != x25) then (some false)
  else ((m_laws_toColumnS a0).bind fun x40 =>
  (m_laws_eqColumnS x27 x40).bind fun x41 =>
  bif (!x41) then (some false)
  else ((m_laws_toValueS a1).bind fun x46 =>
  (m_laws_eqValueS x29 x46).bind fun x47 =>
  bif (!x47) then (some false)
  else ((m_laws_toPartS a2).bind fun x52 =>
  (m_laws_eqPartS x31 x52).bind fun x53 =>
  bif (!x53) then (some false)
  else (some true)))))))
theorem c_laws_FnExactExprHolds (a0 : (List S_laws_Column)) (a1 : (List S_laws_Value)) (a2 : (List S_laws_Part)) (r : Bool) (h : m_laws_FnExactExprHolds a0 a1 a2 = some r) : Ret Try.prog f_laws_FnExactExprHolds [e_Llaws_Column a0, e_Llaws_Value a1, e_Llaws_Part a2] (e_bool r) := by
  refine Does.goG [] F_laws_FnExactExprHolds rfl e_laws_FnExactExprHolds n_laws_FnExactExprHolds rfl (rvs := [.tmp 6]) rfl rfl ?_
  intro w0 ok0 lent ρ0
  refine LWP.seq_k fun N1 hN1 => ?_
  refine LWP.region (l := [_]) ?_
  refine LWo.assign (e_bool false) rfl (hn := ?_)
  refine LWo.nil (hN1 _ ?_)
  refine LWP.seq_k fun N2 hN2 => ?_
  refine LWP.region (l := [_]) ?_
  refine LWo.assign (e_int (1048576 : Int)) rfl (hn := ?_)
  refine LWo.nil (hN2 _ ?_)
  refine LWP.seq_k fun N3 hN3 => ?_
  refine LWP.region (l := [_,_,_,_]) ?_
  refine LWo.move (e_Llaws_Column a0) rfl (hn := ?_)
  refine LWo.move (e_int (1048576 : Int)) rfl (hn := ?_)
  refine bk h fun x4 e4 h => ?_
  refine LWo.vcall rfl rfl (c_laws_szColumnS _ _ _ e4) (.same (.same (.nil))) (hn := ?_)
  refine LWo.assign (e_int x4) rfl (hn := ?_)
  refine LWo.nil (hN3 _ ?_)
  refine LWP.seq_k fun N5 hN5 => ?_
  refine LWP.seq_k fun N6 hN6 => ?_
  refine LWP.region (l := [_,_]) ?_
  refine LWo.move (e_int x4) rfl (hn := ?_)
  refine LWo.int _ rfl rfl rfl (hn := ?_)
  refine LWo.nil (hN6 _ ?_)
  refine LWP.cond_split rfl (fun h7 => ?_) (fun h7 => ?_)
  ·have h := bT h7 h
   refine LWP.seq_k fun N8 hN8 => ?_
   refine LWP.region (l := [_]) ?_
   refine LWo.assign (e_bool true) rfl (hn := ?_)
   refine LWo.nil (hN8 _ ?_)
   obtain rfl := Option.some.inj h
   refine LWP.ret (QG.mk (.inr rfl) (.cons (.tmp (x := (e_bool true)) rfl) (.nil)) (RetOK.one0 (.pure rfl) (by decide)) rfl rfl)
  ·have h := bF h7 h
   refine LWP.skip (hN5 _ ?_)
   refine LWP.seq_k fun N9 hN9 => ?_
   refine LWP.region (l := [_,_,_,_]) ?_
   refine LWo.move (e_Llaws_Value a1) rfl (hn := ?_)
   refine LWo.move (e_int x4) rfl (hn := ?_)
   refine bk h fun x10 e10 h => ?_
   refine LWo.vcall rfl rfl (c_laws_szValueS _ _ _ e10) (.same (.same (.nil))) (hn := ?_)
   refine LWo.assign (e_int x10) rfl (hn := ?_)
   refine LWo.nil (hN9 _ ?_)
   refine LWP.seq_k fun N11 hN11 => ?_
   refine LWP.seq_k fun N12 hN12 => ?_
   refine LWP.region (l := [_,_]) ?_
   refine LWo.move (e_int x10) rfl (hn := ?_)
   refine LWo.int _ rfl rfl rfl (hn := ?_)
   refine LWo.nil (hN12 _ ?_)
   refine LWP.cond_split rfl (fun h13 => ?_) (fun h13 => ?_)
   ·have h := bT h13 h
    refine LWP.seq_k fun N14 hN14 => ?_
    refine LWP.region (l := [_]) ?_
    refine LWo.assign (e_bool true) rfl (hn := ?_)
    refine LWo.nil (hN14 _ ?_)
    obtain rfl := Option.some.inj h
    refine LWP.ret (QG.mk (.inr rfl) (.cons (.tmp (x := (e_bool true)) rfl) (.nil)) (RetOK.one0 (.pure rfl) (by decide)) rfl rfl)
   ·have h := bF h13 h
    refine LWP.skip (hN11 _ ?_)
    refine LWP.seq_k fun N15 hN15 => ?_
    refine LWP.region (l := [_,_,_,_]) ?_
    refine LWo.move (e_Llaws_Part a2) rfl (hn := ?_)
    refine LWo.move (e_int x10) rfl (hn := ?_)
    refine bk h fun x16 e16 h => ?_
    refine LWo.vcall rfl rfl (c_laws_szPartS _ _ _ e16) (.same (.same (.nil))) (hn := ?_)
    refine LWo.assign (e_int x16) rfl (hn := ?_)
    refine LWo.nil (hN15 _ ?_)
    refine LWP.seq_k fun N17 hN17 => ?_
    refine LWP.seq_k fun N18 hN18 => ?_
    refine LWP.region (l := [_,_]) ?_
    refine LWo.move (e_int x16) rfl (hn := ?_)
    refine LWo.int _ rfl rfl rfl (hn := ?_)
    refine LWo.nil (hN18 _ ?_)
    refine LWP.cond_split rfl (fun h19 => ?_) (fun h19 => ?_)
    ·have h := bT h19 h
     refine LWP.seq_k fun N20 hN20 => ?_
     refine LWP.region (l := [_]) ?_
     refine LWo.assign (e_bool true) rfl (hn := ?_)
     refine LWo.nil (hN20 _ ?_)
     obtain rfl := Option.some.inj h
     refine LWP.ret (QG.mk (.inr rfl) (.cons (.tmp (x := (e_bool true)) rfl) (.nil)) (RetOK.one0 (.pure rfl) (by decide)) rfl rfl)
    ·have h := bF h19 h
     refine LWP.skip (hN17 _ ?_)
     refine LWP.seq_k fun N21 hN21 => ?_
     refine LWP.region (l := [_,_,_,_,_,_,_,_]) ?_
     refine LWo.move (e_Llaws_Column a0) rfl (hn := ?_)
     refine bk h fun x22 e22 h => ?_
     refine LWo.vcall rfl rfl (c_laws_toColumnS _ _ e22) (.same (.nil)) (hn := ?_)
     refine LWo.move (e_Llaws_Value a1) rfl (hn := ?_)
     refine bk h fun x23 e23 h => ?_
     refine LWo.vcall rfl rfl (c_laws_toValueS _ _ e23) (.same (.nil)) (hn := ?_)
     refine LWo.move (e_Llaws_Part a2) rfl (hn := ?_)
     refine bk h fun x24 e24 h => ?_
     refine LWo.vcall rfl rfl (c_laws_toPartS _ _ e24) (.same (.nil)) (hn := ?_)
     refine bk h fun x25 e25 h => ?_
     refine LWo.vcall rfl rfl (c_spec_ExprHolds _ _ _ _ e25) (.same (.same (.same (.nil)))) (hn := ?_)
     refine LWo.assign (e_bool x25) rfl (hn := ?_)
     refine LWo.nil (hN21 _ ?_)
     refine LWP.seq_k fun N26 hN26 => ?_
     refine LWP.region (l := [_,_,_]) ?_
     refine LWo.move (e_Llaws_Column a0) rfl (hn := ?_)
     refine bk h fun x27 e27 h => ?_
     refine LWo.vcall rfl rfl (c_laws_toColumnS _ _ e27) (.same (.nil)) (hn := ?_)
     refine LWo.assign (e_Limpl_Column x27) rfl (hn := ?_)
     refine LWo.nil (hN26 _ ?_)
     refine LWP.seq_k fun N28 hN28 => ?_
     refine LWP.region (l := [_,_,_]) ?_
     refine LWo.move (e_Llaws_Value a1) rfl (hn := ?_)
     refine bk h fun x29 e29 h => ?_
     refine LWo.vcall rfl rfl (c_laws_toValueS _ _ e29) (.same (.nil)) (hn := ?_)
     refine LWo.assign (e_Limpl_Value x29) rfl (hn := ?_)
     refine LWo.nil (hN28 _ ?_)
     refine LWP.seq_k fun N30 hN30 => ?_
     refine LWP.region (l := [_,_,_]) ?_
     refine LWo.move (e_Llaws_Part a2) rfl (hn := ?_)
     refine bk h fun x31 e31 h => ?_
     refine LWo.vcall rfl rfl (c_laws_toPartS _ _ e31) (.same (.nil)) (hn := ?_)
     refine LWo.assign (e_Limpl_Part x31) rfl (hn := ?_)
     refine LWo.nil (hN30 _ ?_)
     refine LWP.seq_k fun N32 hN32 => ?_
     refine LWP.region (l := [_,_,_,_,_]) ?_
     refine LWo.move (e_Limpl_Column x27) rfl (hn := ?_)
     refine LWo.move (e_Limpl_Value x29) rfl (hn := ?_)
     refine LWo.move (e_Limpl_Part x31) rfl (hn := ?_)
     refine bk h fun x33 e33 h => ?_
     refine LWo.vcall rfl rfl (c_impl_ExprHolds _ _ _ _ e33) (.same (.same (.same (.nil)))) (hn := ?_)
     refine LWo.assign (e_bool x33) rfl (hn := ?_)
     refine LWo.nil (hN32 _ ?_)
     refine LWP.seq_k fun N34 hN34 => ?_
     refine LWP.seq_k fun N35 hN35 => ?_
     refine LWP.region (l := [_,_,_]) ?_
     refine LWo.move (e_bool x33) rfl (hn := ?_)
     refine LWo.move (e_bool x25) rfl (hn := ?_)
     refine LWo.boolNe u_bool rfl rfl (hn := ?_)
     refine LWo.nil (hN35 _ ?_)
     refine LWP.cond_split rfl (fun h36 => ?_) (fun h36 => ?_)
     ·have h := bT h36 h
      refine LWP.seq_k fun N37 hN37 => ?_
      refine LWP.region (l := [_]) ?_
      refine LWo.assign (e_bool false) rfl (hn := ?_)
      refine LWo.nil (hN37 _ ?_)
      obtain rfl := Option.some.inj h
      refine LWP.ret (QG.mk (.inr rfl) (.cons (.tmp (x := (e_bool false)) rfl) (.nil)) (RetOK.one0 (.pure rfl) (by decide)) rfl rfl)
     ·have h := bF h36 h
      refine LWP.skip (hN34 _ ?_)
      refine LWP.seq_k fun N38 hN38 => ?_
      refine LWP.seq_k fun N39 hN39 => ?_
      refine LWP.region (l := [_,_,_,_,_]) ?_
      refine LWo.move (e_Limpl_Column x27) rfl (hn := ?_)
      refine LWo.move (e_Llaws_Column a0) rfl (hn := ?_)
      refine bk h fun x40 e40 h => ?_
      refine LWo.vcall rfl rfl (c_laws_toColumnS _ _ e40) (.same (.nil)) (hn := ?_)
      refine bk h fun x41 e41 h => ?_
      refine LWo.vcall rfl rfl (c_laws_eqColumnS _ _ _ e41) (.same (.same (.nil))) (hn := ?_)
      refine LWo.not rfl (hn := ?_)
      refine LWo.nil (hN39 _ ?_)
      refine LWP.cond_split rfl (fun h42 => ?_) (fun h42 => ?_)
      ·have h := bT h42 h
       refine LWP.seq_k fun N43 hN43 => ?_
       refine LWP.region (l := [_]) ?_
       refine LWo.assign (e_bool false) rfl (hn := ?_)
       refine LWo.nil (hN43 _ ?_)
       obtain rfl := Option.some.inj h
       refine LWP.ret (QG.mk (.inr rfl) (.cons (.tmp (x := (e_bool false)) rfl) (.nil)) (RetOK.one0 (.pure rfl) (by decide)) rfl rfl)
      ·have h := bF h42 h
       refine LWP.skip (hN38 _ ?_)
       refine LWP.seq_k fun N44 hN44 => ?_
       refine LWP.seq_k fun N45 hN45 => ?_
       refine LWP.region (l := [_,_,_,_,_]) ?_
       refine LWo.move (e_Limpl_Value x29) rfl (hn := ?_)
       refine LWo.move (e_Llaws_Value a1) rfl (hn := ?_)
       refine bk h fun x46 e46 h => ?_
       refine LWo.vcall rfl rfl (c_laws_toValueS _ _ e46) (.same (.nil)) (hn := ?_)
       refine bk h fun x47 e47 h => ?_
       refine LWo.vcall rfl rfl (c_laws_eqValueS _ _ _ e47) (.same (.same (.nil))) (hn := ?_)
       refine LWo.not rfl (hn := ?_)
       refine LWo.nil (hN45 _ ?_)
       refine LWP.cond_split rfl (fun h48 => ?_) (fun h48 => ?_)
       ·have h := bT h48 h
        refine LWP.seq_k fun N49 hN49 => ?_
        refine LWP.region (l := [_]) ?_
        refine LWo.assign (e_bool false) rfl (hn := ?_)
        refine LWo.nil (hN49 _ ?_)
        obtain rfl := Option.some.inj h
        refine LWP.ret (QG.mk (.inr rfl) (.cons (.tmp (x := (e_bool false)) rfl) (.nil)) (RetOK.one0 (.pure rfl) (by decide)) rfl rfl)
       ·have h := bF h48 h
        refine LWP.skip (hN44 _ ?_)
        refine LWP.seq_k fun N50 hN50 => ?_
        refine LWP.seq_k fun N51 hN51 => ?_
        refine LWP.region (l := [_,_,_,_,_]) ?_
        refine LWo.move (e_Limpl_Part x31) rfl (hn := ?_)
        refine LWo.move (e_Llaws_Part a2) rfl (hn := ?_)
        refine bk h fun x52 e52 h => ?_
        refine LWo.vcall rfl rfl (c_laws_toPartS _ _ e52) (.same (.nil)) (hn := ?_)
        refine bk h fun x53 e53 h => ?_
        refine LWo.vcall rfl rfl (c_laws_eqPartS _ _ _ e53) (.same (.same (.nil))) (hn := ?_)
        refine LWo.not rfl (hn := ?_)
        refine LWo.nil (hN51 _ ?_)
        refine LWP.cond_split rfl (fun h54 => ?_) (fun h54 => ?_)
        ·have h := bT h54 h
         refine LWP.seq_k fun N55 hN55 => ?_
         refine LWP.region (l := [_]) ?_
         refine LWo.assign (e_bool false) rfl (hn := ?_)
         refine LWo.nil (hN55 _ ?_)
         obtain rfl := Option.some.inj h
         refine LWP.ret (QG.mk (.inr rfl) (.cons (.tmp (x := (e_bool false)) rfl) (.nil)) (RetOK.one0 (.pure rfl) (by decide)) rfl rfl)
        ·have h := bF h54 h
         refine LWP.skip (hN50 _ ?_)
         refine LWP.seq_k fun N56 hN56 => ?_
         refine LWP.region (l := [_]) ?_
         refine LWo.assign (e_bool true) rfl (hn := ?_)
         refine LWo.nil (hN56 _ ?_)
         obtain rfl := Option.some.inj h
         refine LWP.ret (QG.mk (.inr rfl) (.cons (.tmp (x := (e_bool true)) rfl) (.nil)) (RetOK.one0 (.pure rfl) (by decide)) rfl rfl)
end Go.Proofs.Ytgepipglchpabaa
