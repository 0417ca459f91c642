/- Mirrors of functions, and that the functions return what the mirrors say. -/
import Derived.Test.YtgepipglchpabaaXW3
set_option linter.unusedVariables false
set_option linter.unusedSimpArgs false
set_option linter.unnecessarySimpa false
namespace Go.Proofs.Ytgepipglchpabaa
open Go.Proofs Go.Lift Go.RowKit
def m_laws_eqColumn (a0 : S_impl_Column) (a1 : S_impl_Column) : Option Bool :=
  bif (a0.Kind != a1.Kind) then (some false)
  else (bif (a0.Empty != a1.Empty) then (some false)
  else (some true))
theorem c_laws_eqColumn (a0 : S_impl_Column) (a1 : S_impl_Column) (r : Bool) (h : m_laws_eqColumn a0 a1 = some r) : Ret Try.prog f_laws_eqColumn [e_impl_Column a0, e_impl_Column a1] (e_bool r) := by
  refine Does.goG [] F_laws_eqColumn rfl e_laws_eqColumn n_laws_eqColumn rfl (rvs := [.tmp 4]) rfl rfl ?_
  intro w0 ok0 lent ρ0
  refine LWP.seq_k fun N1 hN1 => ?_
  refine LWP.region (l := [_,_,_]) ?_
  refine LWo.boxF (e_impl_Column a0) rfl rfl rfl (hn := ?_)
  refine LWo.boxF (e_impl_Column a1) rfl rfl rfl (hn := ?_)
  refine LWo.assign (e_bool false) rfl (hn := ?_)
  refine LWo.nil (hN1 _ ?_)
  refine LWP.seq_k fun N2 hN2 => ?_
  refine LWP.seq_k fun N3 hN3 => ?_
  refine LWP.region (l := [_,_,_,_,_]) ?_
  refine LWo.fieldAddr _ u_impl_Column rfl s_int rfl rfl (hn := ?_)
  refine LWo.load1 (c := (e_int a0.Kind)) g_int rfl (hn := ?_)
  refine LWo.fieldAddr _ u_impl_Column rfl s_int rfl rfl (hn := ?_)
  refine LWo.load1 (c := (e_int a1.Kind)) g_int rfl (hn := ?_)
  refine LWo.int _ rfl rfl rfl (hn := ?_)
  refine LWo.nil (hN3 _ ?_)
  refine LWP.cond_split rfl (fun h4 => ?_) (fun h4 => ?_)
  ·have h := bT h4 h
   refine LWP.seq_k fun N5 hN5 => ?_
   refine LWP.region (l := [_]) ?_
   refine LWo.assign (e_bool false) rfl (hn := ?_)
   refine LWo.nil (hN5 _ ?_)
   obtain rfl := Option.some.inj h
   refine LWP.ret (QG.mk (.inr rfl) (.cons (.tmp (x := (e_bool false)) rfl) (.nil)) (RetOK.one0 (.pure rfl) (by decide)) rfl rfl)
  ·have h := bF h4 h
   refine LWP.skip (hN2 _ ?_)
   refine LWP.seq_k fun N6 hN6 => ?_
   refine LWP.seq_k fun N7 hN7 => ?_
   refine LWP.region (l := [_,_,_,_,_]) ?_
   refine LWo.fieldAddr _ u_impl_Column rfl s_bool rfl rfl (hn := ?_)
   refine LWo.load1 (c := (e_bool a0.Empty)) g_bool rfl (hn := ?_)
   refine LWo.fieldAddr _ u_impl_Column rfl s_bool rfl rfl (hn := ?_)
   refine LWo.load1 (c := (e_bool a1.Empty)) g_bool rfl (hn := ?_)
   refine LWo.boolNe u_bool rfl rfl (hn := ?_)
   refine LWo.nil (hN7 _ ?_)
   refine LWP.cond_split rfl (fun h8 => ?_) (fun h8 => ?_)
   ·have h := bT h8 h
    refine LWP.seq_k fun N9 hN9 => ?_
    refine LWP.region (l := [_]) ?_
    refine LWo.assign (e_bool false) rfl (hn := ?_)
    refine LWo.nil (hN9 _ ?_)
    obtain rfl := Option.some.inj h
    refine LWP.ret (QG.mk (.inr rfl) (.cons (.tmp (x := (e_bool false)) rfl) (.nil)) (RetOK.one0 (.pure rfl) (by decide)) rfl rfl)
   ·have h := bF h8 h
    refine LWP.skip (hN6 _ ?_)
    refine LWP.seq_k fun N10 hN10 => ?_
    refine LWP.region (l := [_]) ?_
    refine LWo.assign (e_bool true) rfl (hn := ?_)
    refine LWo.nil (hN10 _ ?_)
    obtain rfl := Option.some.inj h
    refine LWP.ret (QG.mk (.inr rfl) (.cons (.tmp (x := (e_bool true)) rfl) (.nil)) (RetOK.one0 (.pure rfl) (by decide)) rfl rfl)

def m_laws_eqColumnS_j1  : Option Bool :=
  some true
def m_laws_eqColumnS_l1 : Nat → (List S_impl_Column) → (List S_impl_Column) → Int → Option Bool
  | 0, _, _, _ => none
  | n1 + 1, t0, t1, t5 =>
    bif decide (t5 < (t0.length : Int)) then ((at? t0 t5).bind fun x15 =>
    (at? t1 t5).bind fun x16 =>
    (m_laws_eqColumn x15 x16).bind fun x17 =>
    bif (!x17) then (some false)
    else ((ckI (t5 + (1 : Int))).bind fun x20 =>
    (m_laws_eqColumnS_l1  n1) t0 t1 x20))
    else (m_laws_eqColumnS_j1  )
def m_laws_eqColumnS (a0 : (List S_impl_Column)) (a1 : (List S_impl_Column)) : Option Bool :=
  bif ((a0.length : Int) != (a1.length : Int)) then (some false)
  else (m_laws_eqColumnS_l1  (((a0.length : Int) - (0 : Int)).toNat + 1) a0 a1 (0 : Int))
theorem c_laws_eqColumnS (a0 : (List S_impl_Column)) (a1 : (List S_impl_Column)) (r : Bool) (h : m_laws_eqColumnS a0 a1 = some r) : Ret Try.prog f_laws_eqColumnS [e_Limpl_Column a0, e_Limpl_Column a1] (e_bool r) := by
  refine Does.goG [] F_laws_eqColumnS rfl e_laws_eqColumnS n_laws_eqColumnS rfl (rvs := [.tmp 4]) rfl rfl ?_
  intro w0 ok0 lent ρ0
  refine LWP.seq_k fun N1 hN1 => ?_
  refine LWP.region (l := [_]) ?_
  refine LWo.assign (e_bool false) rfl (hn := ?_)
  refine LWo.nil (hN1 _ ?_)
  refine LWP.seq_k fun N2 hN2 => ?_
  refine LWP.seq_k fun N3 hN3 => ?_
  refine LWP.region (l := [_,_,_,_,_]) ?_
  refine LWo.move (e_Limpl_Column a0) rfl (hn := ?_)
  refine LWo.lenM (f := e_impl_Column) (l := a0) u_Limpl_Column rfl (hn := ?_)
  refine LWo.move (e_Limpl_Column a1) rfl (hn := ?_)
  refine LWo.lenM (f := e_impl_Column) (l := a1) u_Limpl_Column rfl (hn := ?_)
  refine LWo.int _ rfl rfl rfl (hn := ?_)
  refine LWo.nil (hN3 _ ?_)
  refine LWP.cond_split rfl (fun h4 => ?_) (fun h4 => ?_)
  ·have h := bT h4 h
   refine LWP.seq_k fun N5 hN5 => ?_
   refine LWP.region (l := [_]) ?_
   refine LWo.assign (e_bool false) rfl (hn := ?_)
   refine LWo.nil (hN5 _ ?_)
   obtain rfl := Option.some.inj h
   refine LWP.ret (QG.mk (.inr rfl) (.cons (.tmp (x := (e_bool false)) rfl) (.nil)) (RetOK.one0 (.pure rfl) (by decide)) rfl rfl)
  ·have h := bF h4 h
   refine LWP.skip (hN2 _ ?_)
   refine LWP.join (α := Unit) (fun z : Unit => []) (fun z : Unit => []) (fun z : Unit => m_laws_eqColumnS_j1  ) r (fun _ => by simp [hkeys]) ?_ ?_
   ·rintro _ h
    replace h : m_laws_eqColumnS_j1   = some _ := h
    refine LWP.seq_k fun N21 hN21 => ?_
    refine LWP.region (l := [_]) ?_
    refine LWo.assign (e_bool true) rfl (hn := ?_)
    refine LWo.nil (hN21 _ ?_)
    obtain rfl := Option.some.inj h
    refine LWP.ret (QG.mk (.inr rfl) (.cons (.tmp (x := (e_bool true)) rfl) (.nil)) (RetOK.one0 (.pure rfl) (by decide)) rfl rfl)
   ·intro N6 hN6
    refine LWP.seq_k fun N7 hN7 => ?_
    refine LWP.region (l := [_]) ?_
    refine LWo.assign (e_int (0 : Int)) rfl (hn := ?_)
    refine LWo.nil (hN7 _ ?_)
    refine LWP.block ?_
    refine LWP.loopM (α := (List S_impl_Column) × (List S_impl_Column) × Int) (fun z : (List S_impl_Column) × (List S_impl_Column) × Int => [(0, (e_Limpl_Column z.1)), (1, (e_Limpl_Column z.2.1)), (5, (e_int z.2.2))]) (fun z : (List S_impl_Column) × (List S_impl_Column) × Int => []) (fun n1 (z : (List S_impl_Column) × (List S_impl_Column) × Int) => m_laws_eqColumnS_l1  n1 z.1 z.2.1 z.2.2) r _ (a0, a1, (0 : Int)) h (fun _ => rfl) (fun _ => by simp [hkeys]) ⟨rfl, rfl, rfl, trivial⟩ trivial ?_
    rintro n1 ⟨t0, t1, t5⟩ h N8 hN8
    replace h : m_laws_eqColumnS_l1  (n1 + 1) t0 t1 t5 = some _ := h
    refine LWP.seq_k fun N10 hN10 => ?_
    refine LWP.seq_k fun N11 hN11 => ?_
    refine LWP.region (l := [_,_,_,_]) ?_
    refine LWo.move (e_int t5) rfl (hn := ?_)
    refine LWo.move (e_Limpl_Column t0) rfl (hn := ?_)
    refine LWo.lenM (f := e_impl_Column) (l := t0) u_Limpl_Column rfl (hn := ?_)
    refine LWo.int _ rfl rfl rfl (hn := ?_)
    refine LWo.nil (hN11 _ ?_)
    refine LWP.cond_split rfl (fun h12 => ?_) (fun h12 => ?_)
    ·have h := bT h12 h
     refine LWP.skip (hN10 _ ?_)
     refine LWP.seq_k fun N13 hN13 => ?_
     refine LWP.block ?_
     refine LWP.seq_k fun N14 hN14 => ?_
     refine bk h fun x15 e15 h => ?_
     refine bk h fun x16 e16 h => ?_
     refine bk h fun x17 e17 h => ?_
     refine LWP.drawF (l := [_,_,_,_,_,_,_,_,_,_]) [] [0, 1, 5] [([0], []), ([5], []), ([17, 18], []), ([19], []), ([1], []), ([5], []), ([21, 22], []), ([23], []), ([20, 24], []), ([25], [])] [0, 1, 5, 26] [] mixed (by kernel_rfl) rfl (by decide) ?_
     refine dq 17 rfl (fun _ g u h => LWo.move (e_Limpl_Column t0) u.1 (hn := .nil (zn g))) ?_
     refine dq 18 rfl (fun _ g u h => LWo.move (e_int t5) u.1 (hn := .nil (zn g))) ?_
     refine dq 19 rfl (fun _ g u h => LWo.indexM (f := e_impl_Column) e15 u_Limpl_Column s_impl_Column u.1 u.2.1 (hn := .nil (zn g))) ?_
     refine dq 20 rfl (fun _ g u h => LWo.loadN ((e_impl_Column x15)).cells g_impl_Column s_impl_Column u.1 (Nat.le_of_ble_eq_true rfl) rfl (hn := .nil (zn g))) ?_
     refine dq 21 rfl (fun _ g u h => LWo.move (e_Limpl_Column t1) u.1 (hn := .nil (zn g))) ?_
     refine dq 22 rfl (fun _ g u h => LWo.move (e_int t5) u.1 (hn := .nil (zn g))) ?_
     refine dq 23 rfl (fun _ g u h => LWo.indexM (f := e_impl_Column) e16 u_Limpl_Column s_impl_Column u.1 u.2.1 (hn := .nil (zn g))) ?_
     refine dq 24 rfl (fun _ g u h => LWo.loadN ((e_impl_Column x16)).cells g_impl_Column s_impl_Column u.1 (Nat.le_of_ble_eq_true rfl) rfl (hn := .nil (zn g))) ?_
     refine dq 25 rfl (fun _ g u h => LWo.vcall rfl (av2 u.1 u.2.1) (c_laws_eqColumn _ _ _ e17) (.same (.same (.nil))) (hn := .nil (zn g))) ?_
     refine dq 26 rfl (fun _ g u h => LWo.not u.1 (hn := .nil (zn g))) ?_
     refine ⟨rfl, by kernel_rfl, hN14 _ ?_⟩
     refine LWP.cond_split rfl (fun h18 => ?_) (fun h18 => ?_)
     ·have h := bT h18 h
      refine LWP.seq_k fun N19 hN19 => ?_
      refine LWP.region (l := [_]) ?_
      refine LWo.assign (e_bool false) rfl (hn := ?_)
      refine LWo.nil (hN19 _ ?_)
      obtain rfl := Option.some.inj h
      refine LWP.ret (QG.mk (.inr rfl) (.cons (.tmp (x := (e_bool false)) rfl) (.nil)) (RetOK.one0 (.pure rfl) (by decide)) rfl rfl)
     ·have h := bF h18 h
      refine LWP.skip (hN13 _ ?_)
      refine LWP.region (l := [_,_,_]) ?_
      refine LWo.move (e_int t5) rfl (hn := ?_)
      refine bk h fun x20 e20 h => ?_
      refine LWo.int _ rfl rfl (add_ck e20) (hn := ?_)
      refine LWo.assign (e_int x20) rfl (hn := ?_)
      refine LWo.nil (hN8 (t0, t1, x20) _ ⟨rfl, rfl, rfl, trivial⟩ trivial h)
    ·have h := bF h12 h
     refine LWP.exit (hN6 () _ trivial trivial h)

def m_laws_eqValue (a0 : S_impl_Value) (a1 : S_impl_Value) : Option Bool :=
  bif (a0.Kind != a1.Kind) then (some false)
  else (bif (a0.N != a1.N) then (some false)
  else (bif (!(sEq a0.S a1.S)) then (some false)
  else (some true)))
theorem c_laws_eqValue (a0 : S_impl_Value) (a1 : S_impl_Value) (r : Bool) (h : m_laws_eqValue a0 a1 = some r) : Ret Try.prog f_laws_eqValue [e_impl_Value a0, e_impl_Value a1] (e_bool r) := by
  refine Does.goG [] F_laws_eqValue rfl e_laws_eqValue n_laws_eqValue rfl (rvs := [.tmp 4]) rfl rfl ?_
  intro w0 ok0 lent ρ0
  refine LWP.seq_k fun N1 hN1 => ?_
  refine LWP.region (l := [_,_,_]) ?_
  refine LWo.boxF (e_impl_Value a0) rfl rfl rfl (hn := ?_)
  refine LWo.boxF (e_impl_Value a1) rfl rfl rfl (hn := ?_)
  refine LWo.assign (e_bool false) rfl (hn := ?_)
  refine LWo.nil (hN1 _ ?_)
  refine LWP.seq_k fun N2 hN2 => ?_
  refine LWP.seq_k fun N3 hN3 => ?_
  refine LWP.region (l := [_,_,_,_,_]) ?_
  refine LWo.fieldAddr _ u_impl_Value rfl s_int rfl rfl (hn := ?_)
  refine LWo.load1 (c := (e_int a0.Kind)) g_int rfl (hn := ?_)
  refine LWo.fieldAddr _ u_impl_Value rfl s_int rfl rfl (hn := ?_)
  refine LWo.load1 (c := (e_int a1.Kind)) g_int rfl (hn := ?_)
  refine LWo.int _ rfl rfl rfl (hn := ?_)
  refine LWo.nil (hN3 _ ?_)
  refine LWP.cond_split rfl (fun h4 => ?_) (fun h4 => ?_)
  ·have h := bT h4 h
   refine LWP.seq_k fun N5 hN5 => ?_
   refine LWP.region (l := [_]) ?_
   refine LWo.assign (e_bool false) rfl (hn := ?_)
   refine LWo.nil (hN5 _ ?_)
   obtain rfl := Option.some.inj h
   refine LWP.ret (QG.mk (.inr rfl) (.cons (.tmp (x := (e_bool false)) rfl) (.nil)) (RetOK.one0 (.pure rfl) (by decide)) rfl rfl)
  ·have h := bF h4 h
   refine LWP.skip (hN2 _ ?_)
   refine LWP.seq_k fun N6 hN6 => ?_
   refine LWP.seq_k fun N7 hN7 => ?_
   refine LWP.region (l := [_,_,_,_,_]) ?_
   refine LWo.fieldAddr _ u_impl_Value rfl s_int rfl rfl (hn := ?_)
   refine LWo.load1 (c := (e_int a0.N)) g_int rfl (hn := ?_)
   refine LWo.fieldAddr _ u_impl_Value rfl s_int rfl rfl (hn := ?_)
   refine LWo.load1 (c := (e_int a1.N)) g_int rfl (hn := ?_)
   refine LWo.int _ rfl rfl rfl (hn := ?_)
   refine LWo.nil (hN7 _ ?_)
   refine LWP.cond_split rfl (fun h8 => ?_) (fun h8 => ?_)
   ·have h := bT h8 h
    refine LWP.seq_k fun N9 hN9 => ?_
    refine LWP.region (l := [_]) ?_
    refine LWo.assign (e_bool false) rfl (hn := ?_)
    refine LWo.nil (hN9 _ ?_)
    obtain rfl := Option.some.inj h
    refine LWP.ret (QG.mk (.inr rfl) (.cons (.tmp (x := (e_bool false)) rfl) (.nil)) (RetOK.one0 (.pure rfl) (by decide)) rfl rfl)
   ·have h := bF h8 h
    refine LWP.skip (hN6 _ ?_)
    refine LWP.seq_k fun N10 hN10 => ?_
    refine LWP.seq_k fun N11 hN11 => ?_
    refine LWP.region (l := [_,_,_,_,_]) ?_
    refine LWo.fieldAddr _ u_impl_Value rfl s_string rfl rfl (hn := ?_)
    refine LWo.load1 (c := (e_string a0.S)) g_string rfl (hn := ?_)
    refine LWo.fieldAddr _ u_impl_Value rfl s_string rfl rfl (hn := ?_)
    refine LWo.load1 (c := (e_string a1.S)) g_string rfl (hn := ?_)
    refine LWo.str _ rfl rfl rfl (hn := ?_)
    refine LWo.nil (hN11 _ ?_)
    refine LWP.cond_split rfl (fun h12 => ?_) (fun h12 => ?_)
    ·have h := bT h12 h
     refine LWP.seq_k fun N13 hN13 => ?_
     refine LWP.region (l := [_]) ?_
     refine LWo.assign (e_bool false) rfl (hn := ?_)
     refine LWo.nil (hN13 _ ?_)
     obtain rfl := Option.some.inj h
     refine LWP.ret (QG.mk (.inr rfl) (.cons (.tmp (x := (e_bool false)) rfl) (.nil)) (RetOK.one0 (.pure rfl) (by decide)) rfl rfl)
    ·have h := bF h12 h
     refine LWP.skip (hN10 _ ?_)
     refine LWP.seq_k fun N14 hN14 => ?_
     refine LWP.region (l := [_]) ?_
     refine LWo.assign (e_bool true) rfl (hn := ?_)
     refine LWo.nil (hN14 _ ?_)
     obtain rfl := Option.some.inj h
     refine LWP.ret (QG.mk (.inr rfl) (.cons (.tmp (x := (e_bool true)) rfl) (.nil)) (RetOK.one0 (.pure rfl) (by decide)) rfl rfl)

def m_laws_eqValueS_j1  : Option Bool :=
  some true
def m_laws_eqValueS_l1 : Nat → (List S_impl_Value) → (List S_impl_Value) → Int → Option Bool
  | 0, _, _, _ => none
  | n1 + 1, t0, t1, t5 =>
    bif decide (t5 < (t0.length : Int)) then ((at? t0 t5).bind fun x15 =>
    (at? t1 t5).bind fun x16 =>
    (m_laws_eqValue x15 x16).bind fun x17 =>
    bif (!x17) then (some false)
    else ((ckI (t5 + (1 : Int))).bind fun x20 =>
    (m_laws_eqValueS_l1  n1) t0 t1 x20))
    else (m_laws_eqValueS_j1  )
def m_laws_eqValueS (a0 : (List S_impl_Value)) (a1 : (List S_impl_Value)) : Option Bool :=
  bif ((a0.length : Int) != (a1.length : Int)) then (some false)
  else (m_laws_eqValueS_l1  (((a0.length : Int) - (0 : Int)).toNat + 1) a0 a1 (0 : Int))
theorem c_laws_eqValueS (a0 : (List S_impl_Value)) (a1 : (List S_impl_Value)) (r : Bool) (h : m_laws_eqValueS a0 a1 = some r) : Ret Try.prog f_laws_eqValueS [e_Limpl_Value a0, e_Limpl_Value a1] (e_bool r) := by
  refine Does.goG [] F_laws_eqValueS rfl e_laws_eqValueS n_laws_eqValueS rfl (rvs := [.tmp 4]) rfl rfl ?_
  intro w0 ok0 lent ρ0
  refine LWP.seq_k fun N1 hN1 => ?_
  refine LWP.region (l := [_]) ?_
  refine LWo.assign (e_bool false) rfl (hn := ?_)
  refine LWo.nil (hN1 _ ?_)
  refine LWP.seq_k fun N2 hN2 => ?_
  refine LWP.seq_k fun N3 hN3 => ?_
  refine LWP.region (l := [_,_,_,_,_]) ?_
  refine LWo.move (e_Limpl_Value a0) rfl (hn := ?_)
  refine LWo.lenM (f := e_impl_Value) (l := a0) u_Limpl_Value rfl (hn := ?_)
  refine LWo.move (e_Limpl_Value a1) rfl (hn := ?_)
  refine LWo.lenM (f := e_impl_Value) (l := a1) u_Limpl_Value rfl (hn := ?_)
  refine LWo.int _ rfl rfl rfl (hn := ?_)
  refine LWo.nil (hN3 _ ?_)
  refine LWP.cond_split rfl (fun h4 => ?_) (fun h4 => ?_)
  ·have h := bT h4 h
   refine LWP.seq_k fun N5 hN5 => ?_
   refine LWP.region (l := [_]) ?_
   refine LWo.assign (e_bool false) rfl (hn := ?_)
   refine LWo.nil (hN5 _ ?_)
   obtain rfl := Option.some.inj h
   refine LWP.ret (QG.mk (.inr rfl) (.cons (.tmp (x := (e_bool false)) rfl) (.nil)) (RetOK.one0 (.pure rfl) (by decide)) rfl rfl)
  ·have h := bF h4 h
   refine LWP.skip (hN2 _ ?_)
   refine LWP.join (α := Unit) (fun z : Unit => []) (fun z : Unit => []) (fun z : Unit => m_laws_eqValueS_j1  ) r (fun _ => by simp [hkeys]) ?_ ?_
   ·rintro _ h
    replace h : m_laws_eqValueS_j1   = some _ := h
    refine LWP.seq_k fun N21 hN21 => ?_
    refine LWP.region (l := [_]) ?_
    refine LWo.assign (e_bool true) rfl (hn := ?_)
    refine LWo.nil (hN21 _ ?_)
    obtain rfl := Option.some.inj h
    refine LWP.ret (QG.mk (.inr rfl) (.cons (.tmp (x := (e_bool true)) rfl) (.nil)) (RetOK.one0 (.pure rfl) (by decide)) rfl rfl)
   ·intro N6 hN6
    refine LWP.seq_k fun N7 hN7 => ?_
    refine LWP.region (l := [_]) ?_
    refine LWo.assign (e_int (0 : Int)) rfl (hn := ?_)
    refine LWo.nil (hN7 _ ?_)
    refine LWP.block ?_
    refine LWP.loopM (α := (List S_impl_Value) × (List S_impl_Value) × Int) (fun z : (List S_impl_Value) × (List S_impl_Value) × Int => [(0, (e_Limpl_Value z.1)), (1, (e_Limpl_Value z.2.1)), (5, (e_int z.2.2))]) (fun z : (List S_impl_Value) × (List S_impl_Value) × Int => []) (fun n1 (z : (List S_impl_Value) × (List S_impl_Value) × Int) => m_laws_eqValueS_l1  n1 z.1 z.2.1 z.2.2) r _ (a0, a1, (0 : Int)) h (fun _ => rfl) (fun _ => by simp [hkeys]) ⟨rfl, rfl, rfl, trivial⟩ trivial ?_
    rintro n1 ⟨t0, t1, t5⟩ h N8 hN8
    replace h : m_laws_eqValueS_l1  (n1 + 1) t0 t1 t5 = some _ := h
    refine LWP.seq_k fun N10 hN10 => ?_
    refine LWP.seq_k fun N11 hN11 => ?_
    refine LWP.region (l := [_,_,_,_]) ?_
    refine LWo.move (e_int t5) rfl (hn := ?_)
    refine LWo.move (e_Limpl_Value t0) rfl (hn := ?_)
    refine LWo.lenM (f := e_impl_Value) (l := t0) u_Limpl_Value rfl (hn := ?_)
    refine LWo.int _ rfl rfl rfl (hn := ?_)
    refine LWo.nil (hN11 _ ?_)
    refine LWP.cond_split rfl (fun h12 => ?_) (fun h12 => ?_)
    ·have h := bT h12 h
     refine LWP.skip (hN10 _ ?_)
     refine LWP.seq_k fun N13 hN13 => ?_
     refine LWP.block ?_
     refine LWP.seq_k fun N14 hN14 => ?_
     refine bk h fun x15 e15 h => ?_
     refine bk h fun x16 e16 h => ?_
     refine bk h fun x17 e17 h => ?_
     refine LWP.drawF (l := [_,_,_,_,_,_,_,_,_,_]) [] [0, 1, 5] [([0], []), ([5], []), ([17, 18], []), ([19], []), ([1], []), ([5], []), ([21, 22], []), ([23], []), ([20, 24], []), ([25], [])] [0, 1, 5, 26] [] mixed (by kernel_rfl) rfl (by decide) ?_
     refine dq 17 rfl (fun _ g u h => LWo.move (e_Limpl_Value t0) u.1 (hn := .nil (zn g))) ?_
     refine dq 18 rfl (fun _ g u h => LWo.move (e_int t5) u.1 (hn := .nil (zn g))) ?_
     refine dq 19 rfl (fun _ g u h => LWo.indexM (f := e_impl_Value) e15 u_Limpl_Value s_impl_Value u.1 u.2.1 (hn := .nil (zn g))) ?_
     refine dq 20 rfl (fun _ g u h => LWo.loadN ((e_impl_Value x15)).cells g_impl_Value s_impl_Value u.1 (Nat.le_of_ble_eq_true rfl) rfl (hn := .nil (zn g))) ?_
     refine dq 21 rfl (fun _ g u h => LWo.move (e_Limpl_Value t1) u.1 (hn := .nil (zn g))) ?_
     refine dq 22 rfl (fun _ g u h => LWo.move (e_int t5) u.1 (hn := .nil (zn g))) ?_
     refine dq 23 rfl (fun _ g u h => LWo.indexM (f := e_impl_Value) e16 u_Limpl_Value s_impl_Value u.1 u.2.1 (hn := .nil (zn g))) ?_
     refine dq 24 rfl (fun _ g u h => LWo.loadN ((e_impl_Value x16)).cells g_impl_Value s_impl_Value u.1 (Nat.le_of_ble_eq_true rfl) rfl (hn := .nil (zn g))) ?_
     refine dq 25 rfl (fun _ g u h => LWo.vcall rfl (av2 u.1 u.2.1) (c_laws_eqValue _ _ _ e17) (.same (.same (.nil))) (hn := .nil (zn g))) ?_
     refine dq 26 rfl (fun _ g u h => LWo.not u.1 (hn := .nil (zn g))) ?_
     refine ⟨rfl, by kernel_rfl, hN14 _ ?_⟩
     refine LWP.cond_split rfl (fun h18 => ?_) (fun h18 => ?_)
     ·have h := bT h18 h
      refine LWP.seq_k fun N19 hN19 => ?_
      refine LWP.region (l := [_]) ?_
      refine LWo.assign (e_bool false) rfl (hn := ?_)
      refine LWo.nil (hN19 _ ?_)
      obtain rfl := Option.some.inj h
      refine LWP.ret (QG.mk (.inr rfl) (.cons (.tmp (x := (e_bool false)) rfl) (.nil)) (RetOK.one0 (.pure rfl) (by decide)) rfl rfl)
     ·have h := bF h18 h
      refine LWP.skip (hN13 _ ?_)
      refine LWP.region (l := [_,_,_]) ?_
      refine LWo.move (e_int t5) rfl (hn := ?_)
      refine bk h fun x20 e20 h => ?_
      refine LWo.int _ rfl rfl (add_ck e20) (hn := ?_)
      refine LWo.assign (e_int x20) rfl (hn := ?_)
      refine LWo.nil (hN8 (t0, t1, x20) _ ⟨rfl, rfl, rfl, trivial⟩ trivial h)
    ·have h := bF h12 h
     refine LWP.exit (hN6 () _ trivial trivial h)

def m_laws_eqValueSS_j1  : Option Bool :=
  some true
def m_laws_eqValueSS_l1 : Nat → (List (List S_impl_Value)) → (List (List S_impl_Value)) → Int → Option Bool
  | 0, _, _, _ => none
  | n1 + 1, t0, t1, t5 =>
    bif decide (t5 < (t0.length : Int)) then ((at? t0 t5).bind fun x15 =>
    (at? t1 t5).bind fun x16 =>
    (m_laws_eqValueS x15 x16).bind fun x17 =>
    bif (!x17) then (some false)
    else ((ckI (t5 + (1 : Int))).bind fun x20 =>
    (m_laws_eqValueSS_l1  n1) t0 t1 x20))
    else (m_laws_eqValueSS_j1  )
def m_laws_eqValueSS (a0 : (List (List S_impl_Value))) (a1 : (List (List S_impl_Value))) : Option Bool :=
  bif ((a0.length : Int) != (a1.length : Int)) then (some false)
  else (m_laws_eqValueSS_l1  (((a0.length : Int) - (0 : Int)).toNat + 1) a0 a1 (0 : Int))
theorem c_laws_eqValueSS (a0 : (List (List S_impl_Value))) (a1 : (List (List S_impl_Value))) (r : Bool) (h : m_laws_eqValueSS a0 a1 = some r) : Ret Try.prog f_laws_eqValueSS [e_LLimpl_Value a0, e_LLimpl_Value a1] (e_bool r) := by
  refine Does.goG [] F_laws_eqValueSS rfl e_laws_eqValueSS n_laws_eqValueSS rfl (rvs := [.tmp 4]) rfl rfl ?_
  intro w0 ok0 lent ρ0
  refine LWP.seq_k fun N1 hN1 => ?_
  refine LWP.region (l := [_]) ?_
  refine LWo.assign (e_bool false) rfl (hn := ?_)
  refine LWo.nil (hN1 _ ?_)
  refine LWP.seq_k fun N2 hN2 => ?_
  refine LWP.seq_k fun N3 hN3 => ?_
  refine LWP.region (l := [_,_,_,_,_]) ?_
  refine LWo.move (e_LLimpl_Value a0) rfl (hn := ?_)
  refine LWo.lenM (f := e_Limpl_Value) (l := a0) u_LLimpl_Value rfl (hn := ?_)
  refine LWo.move (e_LLimpl_Value a1) rfl (hn := ?_)
  refine LWo.lenM (f := e_Limpl_Value) (l := a1) u_LLimpl_Value rfl (hn := ?_)
  refine LWo.int _ rfl rfl rfl (hn := ?_)
  refine LWo.nil (hN3 _ ?_)
  refine LWP.cond_split rfl (fun h4 => ?_) (fun h4 => ?_)
  ·have h := bT h4 h
   refine LWP.seq_k fun N5 hN5 => ?_
   refine LWP.region (l := [_]) ?_
   refine LWo.assign (e_bool false) rfl (hn := ?_)
   refine LWo.nil (hN5 _ ?_)
   obtain rfl := Option.some.inj h
   refine LWP.ret (QG.mk (.inr rfl) (.cons (.tmp (x := (e_bool false)) rfl) (.nil)) (RetOK.one0 (.pure rfl) (by decide)) rfl rfl)
  ·have h := bF h4 h
   refine LWP.skip (hN2 _ ?_)
   refine LWP.join (α := Unit) (fun z : Unit => []) (fun z : Unit => []) (fun z : Unit => m_laws_eqValueSS_j1  ) r (fun _ => by simp [hkeys]) ?_ ?_
   ·rintro _ h
    replace h : m_laws_eqValueSS_j1   = some _ := h
    refine LWP.seq_k fun N21 hN21 => ?_
    refine LWP.region (l := [_]) ?_
    refine LWo.assign (e_bool true) rfl (hn := ?_)
    refine LWo.nil (hN21 _ ?_)
    obtain rfl := Option.some.inj h
    refine LWP.ret (QG.mk (.inr rfl) (.cons (.tmp (x := (e_bool true)) rfl) (.nil)) (RetOK.one0 (.pure rfl) (by decide)) rfl rfl)
   ·intro N6 hN6
    refine LWP.seq_k fun N7 hN7 => ?_
    refine LWP.region (l := [_]) ?_
    refine LWo.assign (e_int (0 : Int)) rfl (hn := ?_)
    refine LWo.nil (hN7 _ ?_)
    refine LWP.block ?_
    refine LWP.loopM (α := (List (List S_impl_Value)) × (List (List S_impl_Value)) × Int) (fun z : (List (List S_impl_Value)) × (List (List S_impl_Value)) × Int => [(0, (e_LLimpl_Value z.1)), (1, (e_LLimpl_Value z.2.1)), (5, (e_int z.2.2))]) (fun z : (List (List S_impl_Value)) × (List (List S_impl_Value)) × Int => []) (fun n1 (z : (List (List S_impl_Value)) × (List (List S_impl_Value)) × Int) => m_laws_eqValueSS_l1  n1 z.1 z.2.1 z.2.2) r _ (a0, a1, (0 : Int)) h (fun _ => rfl) (fun _ => by simp [hkeys]) ⟨rfl, rfl, rfl, trivial⟩ trivial ?_
    rintro n1 ⟨t0, t1, t5⟩ h N8 hN8
    replace h : m_laws_eqValueSS_l1  (n1 + 1) t0 t1 t5 = some _ := h
    refine LWP.seq_k fun N10 hN10 => ?_
    refine LWP.seq_k fun N11 hN11 => ?_
    refine LWP.region (l := [_,_,_,_]) ?_
    refine LWo.move (e_int t5) rfl (hn := ?_)
    refine LWo.move (e_LLimpl_Value t0) rfl (hn := ?_)
    refine LWo.lenM (f := e_Limpl_Value) (l := t0) u_LLimpl_Value rfl (hn := ?_)
    refine LWo.int _ rfl rfl rfl (hn := ?_)
    refine LWo.nil (hN11 _ ?_)
    refine LWP.cond_split rfl (fun h12 => ?_) (fun h12 => ?_)
    ·have h := bT h12 h
     refine LWP.skip (hN10 _ ?_)
     refine LWP.seq_k fun N13 hN13 => ?_
     refine LWP.block ?_
     refine LWP.seq_k fun N14 hN14 => ?_
     refine bk h fun x15 e15 h => ?_
     refine bk h fun x16 e16 h => ?_
     refine bk h fun x17 e17 h => ?_
     refine LWP.drawF (l := [_,_,_,_,_,_,_,_,_,_]) [] [0, 1, 5] [([0], []), ([5], []), ([17, 18], []), ([19], []), ([1], []), ([5], []), ([21, 22], []), ([23], []), ([20, 24], []), ([25], [])] [0, 1, 5, 26] [] mixed (by kernel_rfl) rfl (by decide) ?_
     refine dq 17 rfl (fun _ g u h => LWo.move (e_LLimpl_Value t0) u.1 (hn := .nil (zn g))) ?_
     refine dq 18 rfl (fun _ g u h => LWo.move (e_int t5) u.1 (hn := .nil (zn g))) ?_
     refine dq 19 rfl (fun _ g u h => LWo.indexM (f := e_Limpl_Value) e15 u_LLimpl_Value s_Limpl_Value u.1 u.2.1 (hn := .nil (zn g))) ?_
     refine dq 20 rfl (fun _ g u h => LWo.load1 (c := (e_Limpl_Value x15)) g_Limpl_Value u.1 (hn := .nil (zn g))) ?_
     refine dq 21 rfl (fun _ g u h => LWo.move (e_LLimpl_Value t1) u.1 (hn := .nil (zn g))) ?_
     refine dq 22 rfl (fun _ g u h => LWo.move (e_int t5) u.1 (hn := .nil (zn g))) ?_
     refine dq 23 rfl (fun _ g u h => LWo.indexM (f := e_Limpl_Value) e16 u_LLimpl_Value s_Limpl_Value u.1 u.2.1 (hn := .nil (zn g))) ?_
     refine dq 24 rfl (fun _ g u h => LWo.load1 (c := (e_Limpl_Value x16)) g_Limpl_Value u.1 (hn := .nil (zn g))) ?_
     refine dq 25 rfl (fun _ g u h => LWo.vcall rfl (av2 u.1 u.2.1) (c_laws_eqValueS _ _ _ e17) (.same (.same (.nil))) (hn := .nil (zn g))) ?_
     refine dq 26 rfl (fun _ g u h => LWo.not u.1 (hn := .nil (zn g))) ?_
     refine ⟨rfl, by kernel_rfl, hN14 _ ?_⟩
     refine LWP.cond_split rfl (fun h18 => ?_) (fun h18 => ?_)
     ·have h := bT h18 h
      refine LWP.seq_k fun N19 hN19 => ?_
      refine LWP.region (l := [_]) ?_
      refine LWo.assign (e_bool false) rfl (hn := ?_)
      refine LWo.nil (hN19 _ ?_)
      obtain rfl := Option.some.inj h
      refine LWP.ret (QG.mk (.inr rfl) (.cons (.tmp (x := (e_bool false)) rfl) (.nil)) (RetOK.one0 (.pure rfl) (by decide)) rfl rfl)
     ·have h := bF h18 h
      refine LWP.skip (hN13 _ ?_)
      refine LWP.region (l := [_,_,_]) ?_
      refine LWo.move (e_int t5) rfl (hn := ?_)
      refine bk h fun x20 e20 h => ?_
      refine LWo.int _ rfl rfl (add_ck e20) (hn := ?_)
      refine LWo.assign (e_int x20) rfl (hn := ?_)
      refine LWo.nil (hN8 (t0, t1, x20) _ ⟨rfl, rfl, rfl, trivial⟩ trivial h)
    ·have h := bF h12 h
     refine LWP.exit (hN6 () _ trivial trivial h)

def m_laws_eqTable (a0 : S_impl_Table) (a1 : S_impl_Table) : Option Bool :=
  (m_laws_eqColumnS a0.Columns a1.Columns).bind fun x4 =>
  bif (!x4) then (some false)
  else ((m_laws_eqValueSS a0.Rows a1.Rows).bind fun x9 =>
  bif (!x9) then (some false)
  else (some true))
theorem c_laws_eqTable (a0 : S_impl_Table) (a1 : S_impl_Table) (r : Bool) (h : m_laws_eqTable a0 a1 = some r) : Ret Try.prog f_laws_eqTable [e_impl_Table a0, e_impl_Table a1] (e_bool r) := by
  refine Does.goG [] F_laws_eqTable rfl e_laws_eqTable n_laws_eqTable rfl (rvs := [.tmp 4]) rfl rfl ?_
  intro w0 ok0 lent ρ0
  refine LWP.seq_k fun N1 hN1 => ?_
  refine LWP.region (l := [_,_,_]) ?_
  refine LWo.boxF (e_impl_Table a0) rfl rfl rfl (hn := ?_)
  refine LWo.boxF (e_impl_Table a1) rfl rfl rfl (hn := ?_)
  refine LWo.assign (e_bool false) rfl (hn := ?_)
  refine LWo.nil (hN1 _ ?_)
  refine LWP.seq_k fun N2 hN2 => ?_
  refine LWP.seq_k fun N3 hN3 => ?_
  refine LWP.region (l := [_,_,_,_,_,_]) ?_
  refine LWo.fieldAddr _ u_impl_Table rfl s_Limpl_Column rfl rfl (hn := ?_)
  refine LWo.load1 (c := (e_Limpl_Column a0.Columns)) g_Limpl_Column rfl (hn := ?_)
  refine LWo.fieldAddr _ u_impl_Table rfl s_Limpl_Column rfl rfl (hn := ?_)
  refine LWo.load1 (c := (e_Limpl_Column a1.Columns)) g_Limpl_Column rfl (hn := ?_)
  refine bk h fun x4 e4 h => ?_
  refine LWo.vcall rfl rfl (c_laws_eqColumnS _ _ _ e4) (.same (.same (.nil))) (hn := ?_)
  refine LWo.not rfl (hn := ?_)
  refine LWo.nil (hN3 _ ?_)
  refine LWP.cond_split rfl (fun h5 => ?_) (fun h5 => ?_)
  ·have h := bT h5 h
   refine LWP.seq_k fun N6 hN6 => ?_
   refine LWP.region (l := [_]) ?_
   refine LWo.assign (e_bool false) rfl (hn := ?_)
   refine LWo.nil (hN6 _ ?_)
   obtain rfl := Option.some.inj h
   refine LWP.ret (QG.mk (.inr rfl) (.cons (.tmp (x := (e_bool false)) rfl) (.nil)) (RetOK.one0 (.pure rfl) (by decide)) rfl rfl)
  ·have h := bF h5 h
   refine LWP.skip (hN2 _ ?_)
   refine LWP.seq_k fun N7 hN7 => ?_
   refine LWP.seq_k fun N8 hN8 => ?_
   refine LWP.region (l := [_,_,_,_,_,_]) ?_
   refine LWo.fieldAddr _ u_impl_Table rfl s_LLimpl_Value rfl rfl (hn := ?_)
   refine LWo.load1 (c := (e_LLimpl_Value a0.Rows)) g_LLimpl_Value rfl (hn := ?_)
   refine LWo.fieldAddr _ u_impl_Table rfl s_LLimpl_Value rfl rfl (hn := ?_)
   refine LWo.load1 (c := (e_LLimpl_Value a1.Rows)) g_LLimpl_Value rfl (hn := ?_)
   refine bk h fun x9 e9 h => ?_
   refine LWo.vcall rfl rfl (c_laws_eqValueSS _ _ _ e9) (.same (.same (.nil))) (hn := ?_)
   refine LWo.not rfl (hn := ?_)
   refine LWo.nil (hN8 _ ?_)
   refine LWP.cond_split rfl (fun h10 => ?_) (fun h10 => ?_)
   ·have h := bT h10 h
    refine LWP.seq_k fun N11 hN11 => ?_
    refine LWP.region (l := [_]) ?_
    refine LWo.assign (e_bool false) rfl (hn := ?_)
    refine LWo.nil (hN11 _ ?_)
    obtain rfl := Option.some.inj h
    refine LWP.ret (QG.mk (.inr rfl) (.cons (.tmp (x := (e_bool false)) rfl) (.nil)) (RetOK.one0 (.pure rfl) (by decide)) rfl rfl)
   ·have h := bF h10 h
    refine LWP.skip (hN7 _ ?_)
    refine LWP.seq_k fun N12 hN12 => ?_
    refine LWP.region (l := [_]) ?_
    refine LWo.assign (e_bool true) rfl (hn := ?_)
    refine LWo.nil (hN12 _ ?_)
    obtain rfl := Option.some.inj h
    refine LWP.ret (QG.mk (.inr rfl) (.cons (.tmp (x := (e_bool true)) rfl) (.nil)) (RetOK.one0 (.pure rfl) (by decide)) rfl rfl)

def m_laws_eqTableS_j1  : Option Bool :=
  some true
def m_laws_eqTableS_l1 : Nat → (List S_impl_Table) → (List S_impl_Table) → Int → Option Bool
  | 0, _, _, _ => none
  | n1 + 1, t0, t1, t5 =>
    bif decide (t5 < (t0.length : Int)) then ((at? t0 t5).bind fun x15 =>
    (at? t1 t5).bind fun x16 =>
    (m_laws_eqTable x15 x16).bind fun x17 =>
    bif (!x17) then (some false)
    else ((ckI (t5 + (1 : Int))).bind fun x20 =>
    (m_laws_eqTableS_l1  n1) t0 t1 x20))
    else (m_laws_eqTableS_j1  )
def m_laws_eqTableS (a0 : (List S_impl_Table)) (a1 : (List S_impl_Table)) : Option Bool :=
  bif ((a0.length : Int) != (a1.length : Int)) then (some false)
  else (m_laws_eqTableS_l1  (((a0.length : Int) - (0 : Int)).toNat + 1) a0 a1 (0 : Int))
theorem c_laws_eqTableS (a0 : (List S_impl_Table)) (a1 : (List S_impl_Table)) (r : Bool) (h : m_laws_eqTableS a0 a1 = some r) : Ret Try.prog f_laws_eqTableS [e_Limpl_Table a0, e_Limpl_Table a1] (e_bool r) := by
  refine Does.goG [] F_laws_eqTableS rfl e_laws_eqTableS n_laws_eqTableS rfl (rvs := [.tmp 4]) rfl rfl ?_
  intro w0 ok0 lent ρ0
  refine LWP.seq_k fun N1 hN1 => ?_
  refine LWP.region (l := [_]) ?_
  refine LWo.assign (e_bool false) rfl (hn := ?_)
  refine LWo.nil (hN1 _ ?_)
  refine LWP.seq_k fun N2 hN2 => ?_
  refine LWP.seq_k fun N3 hN3 => ?_
  refine LWP.region (l := [_,_,_,_,_]) ?_
  refine LWo.move (e_Limpl_Table a0) rfl (hn := ?_)
  refine LWo.lenM (f := e_impl_Table) (l := a0) u_Limpl_Table rfl (hn := ?_)
  refine LWo.move (e_Limpl_Table a1) rfl (hn := ?_)
  refine LWo.lenM (f := e_impl_Table) (l := a1) u_Limpl_Table rfl (hn := ?_)
  refine LWo.int _ rfl rfl rfl (hn := ?_)
  refine LWo.nil (hN3 _ ?_)
  refine LWP.cond_split rfl (fun h4 => ?_) (fun h4 => ?_)
  ·have h := bT h4 h
   refine LWP.seq_k fun N5 hN5 => ?_
   refine LWP.region (l := [_]) ?_
   refine LWo.assign (e_bool false) rfl (hn := ?_)
   refine LWo.nil (hN5 _ ?_)
   obtain rfl := Option.some.inj h
   refine LWP.ret (QG.mk (.inr rfl) (.cons (.tmp (x := (e_bool false)) rfl) (.nil)) (RetOK.one0 (.pure rfl) (by decide)) rfl rfl)
  ·have h := bF h4 h
   refine LWP.skip (hN2 _ ?_)
   refine LWP.join (α := Unit) (fun z : Unit => []) (fun z : Unit => []) (fun z : Unit => m_laws_eqTableS_j1  ) r (fun _ => by simp [hkeys]) ?_ ?_
   ·rintro _ h
    replace h : m_laws_eqTableS_j1   = some _ := h
    refine LWP.seq_k fun N21 hN21 => ?_
    refine LWP.region (l := [_]) ?_
    refine LWo.assign (e_bool true) rfl (hn := ?_)
    refine LWo.nil (hN21 _ ?_)
    obtain rfl := Option.some.inj h
    refine LWP.ret (QG.mk (.inr rfl) (.cons (.tmp (x := (e_bool true)) rfl) (.nil)) (RetOK.one0 (.pure rfl) (by decide)) rfl rfl)
   ·intro N6 hN6
    refine LWP.seq_k fun N7 hN7 => ?_
    refine LWP.region (l := [_]) ?_
    refine LWo.assign (e_int (0 : Int)) rfl (hn := ?_)
    refine LWo.nil (hN7 _ ?_)
    refine LWP.block ?_
    refine LWP.loopM (α := (List S_impl_Table) × (List S_impl_Table) × Int) (fun z : (List S_impl_Table) × (List S_impl_Table) × Int => [(0, (e_Limpl_Table z.1)), (1, (e_Limpl_Table z.2.1)), (5, (e_int z.2.2))]) (fun z : (List S_impl_Table) × (List S_impl_Table) × Int => []) (fun n1 (z : (List S_impl_Table) × (List S_impl_Table) × Int) => m_laws_eqTableS_l1  n1 z.1 z.2.1 z.2.2) r _ (a0, a1, (0 : Int)) h (fun _ => rfl) (fun _ => by simp [hkeys]) ⟨rfl, rfl, rfl, trivial⟩ trivial ?_
    rintro n1 ⟨t0, t1, t5⟩ h N8 hN8
    replace h : m_laws_eqTableS_l1  (n1 + 1) t0 t1 t5 = some _ := h
    refine LWP.seq_k fun N10 hN10 => ?_
    refine LWP.seq_k fun N11 hN11 => ?_
    refine LWP.region (l := [_,_,_,_]) ?_
    refine LWo.move (e_int t5) rfl (hn := ?_)
    refine LWo.move (e_Limpl_Table t0) rfl (hn := ?_)
    refine LWo.lenM (f := e_impl_Table) (l := t0) u_Limpl_Table rfl (hn := ?_)
    refine LWo.int _ rfl rfl rfl (hn := ?_)
    refine LWo.nil (hN11 _ ?_)
    refine LWP.cond_split rfl (fun h12 => ?_) (fun h12 => ?_)
    ·have h := bT h12 h
     refine LWP.skip (hN10 _ ?_)
     refine LWP.seq_k fun N13 hN13 => ?_
     refine LWP.block ?_
     refine LWP.seq_k fun N14 hN14 => ?_
     refine bk h fun x15 e15 h => ?_
     refine bk h fun x16 e16 h => ?_
     refine bk h fun x17 e17 h => ?_
     refine LWP.drawF (l := [_,_,_,_,_,_,_,_,_,_]) [] [0, 1, 5] [([0], []), ([5], []), ([17, 18], []), ([19], []), ([1], []), ([5], []), ([21, 22], []), ([23], []), ([20, 24], []), ([25], [])] [0, 1, 5, 26] [] mixed (by kernel_rfl) rfl (by decide) ?_
     refine dq 17 rfl (fun _ g u h => LWo.move (e_Limpl_Table t0) u.1 (hn := .nil (zn g))) ?_
     refine dq 18 rfl (fun _ g u h => LWo.move (e_int t5) u.1 (hn := .nil (zn g))) ?_
     refine dq 19 rfl (fun _ g u h => LWo.indexM (f := e_impl_Table) e15 u_Limpl_Table s_impl_Table u.1 u.2.1 (hn := .nil (zn g))) ?_
     refine dq 20 rfl (fun _ g u h => LWo.loadN ((e_impl_Table x15)).cells g_impl_Table s_impl_Table u.1 (Nat.le_of_ble_eq_true rfl) rfl (hn := .nil (zn g))) ?_
     refine dq 21 rfl (fun _ g u h => LWo.move (e_Limpl_Table t1) u.1 (hn := .nil (zn g))) ?_
     refine dq 22 rfl (fun _ g u h => LWo.move (e_int t5) u.1 (hn := .nil (zn g))) ?_
     refine dq 23 rfl (fun _ g u h => LWo.indexM (f := e_impl_Table) e16 u_Limpl_Table s_impl_Table u.1 u.2.1 (hn := .nil (zn g))) ?_
     refine dq 24 rfl (fun _ g u h => LWo.loadN ((e_impl_Table x16)).cells g_impl_Table s_impl_Table u.1 (Nat.le_of_ble_eq_true rfl) rfl (hn := .nil (zn g))) ?_
     refine dq 25 rfl (fun _ g u h => LWo.vcall rfl (av2 u.1 u.2.1) (c_laws_eqTable _ _ _ e17) (.same (.same (.nil))) (hn := .nil (zn g))) ?_
     refine dq 26 rfl (fun _ g u h => LWo.not u.1 (hn := .nil (zn g))) ?_
     refine ⟨rfl, by kernel_rfl, hN14 _ ?_⟩
     refine LWP.cond_split rfl (fun h18 => ?_) (fun h18 => ?_)
     ·have h := bT h18 h
      refine LWP.seq_k fun N19 hN19 => ?_
      refine LWP.region (l := [_]) ?_
      refine LWo.assign (e_bool false) rfl (hn := ?_)
      refine LWo.nil (hN19 _ ?_)
      obtain rfl := Option.some.inj h
      refine LWP.ret (QG.mk (.inr rfl) (.cons (.tmp (x := (e_bool false)) rfl) (.nil)) (RetOK.one0 (.pure rfl) (by decide)) rfl rfl)
     ·have h := bF h18 h
      refine LWP.skip (hN13 _ ?_)
      refine LWP.region (l := [_,_,_]) ?_
      refine LWo.move (e_int t5) rfl (hn := ?_)
      refine bk h fun x20 e20 h => ?_
      refine LWo.int _ rfl rfl (add_ck e20) (hn := ?_)
      refine LWo.assign (e_int x20) rfl (hn := ?_)
      refine LWo.nil (hN8 (t0, t1, x20) _ ⟨rfl, rfl, rfl, trivial⟩ trivial h)
    ·have h := bF h12 h
     refine LWP.exit (hN6 () _ trivial trivial h)

def m_laws_eqPart (a0 : S_impl_Part) (a1 : S_impl_Part) : Option Bool :=
  bif (a0.Kind != a1.Kind) then (some false)
  else (bif (a0.N != a1.N) then (some false)
  else ((m_laws_eqValue a0.V a1.V).bind fun x12 =>
  bif (!x12) then (some false)
  else (some true)))
theorem c_laws_eqPart (a0 : S_impl_Part) (a1 : S_impl_Part) (r : Bool) (h : m_laws_eqPart a0 a1 = some r) : Ret Try.prog f_laws_eqPart [e_impl_Part a0, e_impl_Part a1] (e_bool r) := by
  refine Does.goG [] F_laws_eqPart rfl e_laws_eqPart n_laws_eqPart rfl (rvs := [.tmp 4]) rfl rfl ?_
  intro w0 ok0 lent ρ0
  refine LWP.seq_k fun N1 hN1 => ?_
  refine LWP.region (l := [_,_,_]) ?_
  refine LWo.boxF (e_impl_Part a0) rfl rfl rfl (hn := ?_)
  refine LWo.boxF (e_impl_Part a1) rfl rfl rfl (hn := ?_)
  refine LWo.assign (e_bool false) rfl (hn := ?_)
  refine LWo.nil (hN1 _ ?_)
  refine LWP.seq_k fun N2 hN2 => ?_
  refine LWP.seq_k fun N3 hN3 => ?_
  refine LWP.region (l := [_,_,_,_,_]) ?_
  refine LWo.fieldAddr _ u_impl_Part rfl s_int rfl rfl (hn := ?_)
  refine LWo.load1 (c := (e_int a0.Kind)) g_int rfl (hn := ?_)
  refine LWo.fieldAddr _ u_impl_Part rfl s_int rfl rfl (hn := ?_)
  refine LWo.load1 (c := (e_int a1.Kind)) g_int rfl (hn := ?_)
  refine LWo.int _ rfl rfl rfl (hn := ?_)
  refine LWo.nil (hN3 _ ?_)
  refine LWP.cond_split rfl (fun h4 => ?_) (fun h4 => ?_)
  ·have h := bT h4 h
   refine LWP.seq_k fun N5 hN5 => ?_
   refine LWP.region (l := [_]) ?_
   refine LWo.assign (e_bool false) rfl (hn := ?_)
   refine LWo.nil (hN5 _ ?_)
   obtain rfl := Option.some.inj h
   refine LWP.ret (QG.mk (.inr rfl) (.cons (.tmp (x := (e_bool false)) rfl) (.nil)) (RetOK.one0 (.pure rfl) (by decide)) rfl rfl)
  ·have h := bF h4 h
   refine LWP.skip (hN2 _ ?_)
   refine LWP.seq_k fun N6 hN6 => ?_
   refine LWP.seq_k fun N7 hN7 => ?_
   refine LWP.region (l := [_,_,_,_,_]) ?_
   refine LWo.fieldAddr _ u_impl_Part rfl s_int rfl rfl (hn := ?_)
   refine LWo.load1 (c := (e_int a0.N)) g_int rfl (hn := ?_)
   refine LWo.fieldAddr _ u_impl_Part rfl s_int rfl rfl (hn := ?_)
   refine LWo.load1 (c := (e_int a1.N)) g_int rfl (hn := ?_)
   refine LWo.int _ rfl rfl rfl (hn := ?_)
   refine LWo.nil (hN7 _ ?_)
   refine LWP.cond_split rfl (fun h8 => ?_) (fun h8 => ?_)
   ·have h := bT h8 h
    refine LWP.seq_k fun N9 hN9 => ?_
    refine LWP.region (l := [_]) ?_
    refine LWo.assign (e_bool false) rfl (hn := ?_)
    refine LWo.nil (hN9 _ ?_)
    obtain rfl := Option.some.inj h
    refine LWP.ret (QG.mk (.inr rfl) (.cons (.tmp (x := (e_bool false)) rfl) (.nil)) (RetOK.one0 (.pure rfl) (by decide)) rfl rfl)
   ·have h := bF h8 h
    refine LWP.skip (hN6 _ ?_)
    refine LWP.seq_k fun N10 hN10 => ?_
    refine LWP.seq_k fun N11 hN11 => ?_
    refine LWP.region (l := [_,_,_,_,_,_]) ?_
    refine LWo.fieldAddr _ u_impl_Part rfl s_impl_Value rfl rfl (hn := ?_)
    refine LWo.loadN ((e_impl_Value a0.V)).cells g_impl_Value s_impl_Value rfl (Nat.le_of_ble_eq_true rfl) rfl (hn := ?_)
    refine LWo.fieldAddr _ u_impl_Part rfl s_impl_Value rfl rfl (hn := ?_)
    refine LWo.loadN ((e_impl_Value a1.V)).cells g_impl_Value s_impl_Value rfl (Nat.le_of_ble_eq_true rfl) rfl (hn := ?_)
    refine bk h fun x12 e12 h => ?_
    refine LWo.vcall rfl rfl (c_laws_eqValue _ _ _ e12) (.same (.same (.nil))) (hn := ?_)
    refine LWo.not rfl (hn := ?_)
    refine LWo.nil (hN11 _ ?_)
    refine LWP.cond_split rfl (fun h13 => ?_) (fun h13 => ?_)
    ·have h := bT h13 h
     refine LWP.seq_k fun N14 hN14 => ?_
     refine LWP.region (l := [_]) ?_
     refine LWo.assign (e_bool false) rfl (hn := ?_)
     refine LWo.nil (hN14 _ ?_)
     obtain rfl := Option.some.inj h
     refine LWP.ret (QG.mk (.inr rfl) (.cons (.tmp (x := (e_bool false)) rfl) (.nil)) (RetOK.one0 (.pure rfl) (by decide)) rfl rfl)
    ·have h := bF h13 h
     refine LWP.skip (hN10 _ ?_)
     refine LWP.seq_k fun N15 hN15 => ?_
     refine LWP.region (l := [_]) ?_
     refine LWo.assign (e_bool true) rfl (hn := ?_)
     refine LWo.nil (hN15 _ ?_)
     obtain rfl := Option.some.inj h
     refine LWP.ret (QG.mk (.inr rfl) (.cons (.tmp (x := (e_bool true)) rfl) (.nil)) (RetOK.one0 (.pure rfl) (by decide)) rfl rfl)

def m_laws_eqPartS_j1  : Option Bool :=
  some true
def m_laws_eqPartS_l1 : Nat → (List S_impl_Part) → (List S_impl_Part) → Int → Option Bool
  | 0, _, _, _ => none
  | n1 + 1, t0, t1, t5 =>
    bif decide (t5 < (t0.length : Int)) then ((at? t0 t5).bind fun x15 =>
    (at? t1 t5).bind fun x16 =>
    (m_laws_eqPart x15 x16).bind fun x17 =>
    bif (!x17) then (some false)
    else ((ckI (t5 + (1 : Int))).bind fun x20 =>
    (m_laws_eqPartS_l1  n1) t0 t1 x20))
    else (m_laws_eqPartS_j1  )
def m_laws_eqPartS (a0 : (List S_impl_Part)) (a1 : (List S_impl_Part)) : Option Bool :=
  bif ((a0.length : Int) != (a1.length : Int)) then (some false)
  else (m_laws_eqPartS_l1  (((a0.length : Int) - (0 : Int)).toNat + 1) a0 a1 (0 : Int))
theorem c_laws_eqPartS (a0 : (List S_impl_Part)) (a1 : (List S_impl_Part)) (r : Bool) (h : m_laws_eqPartS a0 a1 = some r) : Ret Try.prog f_laws_eqPartS [e_Limpl_Part a0, e_Limpl_Part a1] (e_bool r) := by
  refine Does.goG [] F_laws_eqPartS rfl e_laws_eqPartS n_laws_eqPartS rfl (rvs := [.tmp 4]) rfl rfl ?_
  intro w0 ok0 lent ρ0
  refine LWP.seq_k fun N1 hN1 => ?_
  refine LWP.region (l := [_]) ?_
  refine LWo.assign (e_bool false) rfl (hn := ?_)
  refine LWo.nil (hN1 _ ?_)
  refine LWP.seq_k fun N2 hN2 => ?_
  refine LWP.seq_k fun N3 hN3 => ?_
  refine LWP.region (l := [_,_,_,_,_]) ?_
  refine LWo.move (e_Limpl_Part a0) rfl (hn := ?_)
  refine LWo.lenM (f := e_impl_Part) (l := a0) u_Limpl_Part rfl (hn := ?_)
  refine LWo.move (e_Limpl_Part a1) rfl (hn := ?_)
  refine LWo.lenM (f := e_impl_Part) (l := a1) u_Limpl_Part rfl (hn := ?_)
  refine LWo.int _ rfl rfl rfl (hn := ?_)
  refine LWo.nil (hN3 _ ?_)
  refine LWP.cond_split rfl (fun h4 => ?_) (fun h4 => ?_)
  ·have h := bT h4 h
   refine LWP.seq_k fun N5 hN5 => ?_
   refine LWP.region (l := [_]) ?_
   refine LWo.assign (e_bool false) rfl (hn := ?_)
   refine LWo.nil (hN5 _ ?_)
   obtain rfl := Option.some.inj h
   refine LWP.ret (QG.mk (.inr rfl) (.cons (.tmp (x := (e_bool false)) rfl) (.nil)) (RetOK.one0 (.pure rfl) (by decide)) rfl rfl)
  ·have h := bF h4 h
   refine LWP.skip (hN2 _ ?_)
   refine LWP.join (α := Unit) (fun z : Unit => []) (fun z : Unit => []) (fun z : Unit => m_laws_eqPartS_j1  ) r (fun _ => by simp [hkeys]) ?_ ?_
   ·rintro _ h
    replace h : m_laws_eqPartS_j1   = some _ := h
    refine LWP.seq_k fun N21 hN21 => ?_
    refine LWP.region (l := [_]) ?_
    refine LWo.assign (e_bool true) rfl (hn := ?_)
    refine LWo.nil (hN21 _ ?_)
    obtain rfl := Option.some.inj h
    refine LWP.ret (QG.mk (.inr rfl) (.cons (.tmp (x := (e_bool true)) rfl) (.nil)) (RetOK.one0 (.pure rfl) (by decide)) rfl rfl)
   ·intro N6 hN6
    refine LWP.seq_k fun N7 hN7 => ?_
    refine LWP.region (l := [_]) ?_
    refine LWo.assign (e_int (0 : Int)) rfl (hn := ?_)
    refine LWo.nil (hN7 _ ?_)
    refine LWP.block ?_
    refine LWP.loopM (α := (List S_impl_Part) × (List S_impl_Part) × Int) (fun z : (List S_impl_Part) × (List S_impl_Part) × Int => [(0, (e_Limpl_Part z.1)), (1, (e_Limpl_Part z.2.1)), (5, (e_int z.2.2))]) (fun z : (List S_impl_Part) × (List S_impl_Part) × Int => []) (fun n1 (z : (List S_impl_Part) × (List S_impl_Part) × Int) => m_laws_eqPartS_l1  n1 z.1 z.2.1 z.2.2) r _ (a0, a1, (0 : Int)) h (fun _ => rfl) (fun _ => by simp [hkeys]) ⟨rfl, rfl, rfl, trivial⟩ trivial ?_
    rintro n1 ⟨t0, t1, t5⟩ h N8 hN8
    replace h : m_laws_eqPartS_l1  (n1 + 1) t0 t1 t5 = some _ := h
    refine LWP.seq_k fun N10 hN10 => ?_
    refine LWP.seq_k fun N11 hN11 => ?_
    refine LWP.region (l := [_,_,_,_]) ?_
    refine LWo.move (e_int t5) rfl (hn := ?_)
    refine LWo.move (e_Limpl_Part t0) rfl (hn := ?_)
    refine LWo.lenM (f := e_impl_Part) (l := t0) u_Limpl_Part rfl (hn := ?_)
    refine LWo.int _ rfl rfl rfl (hn := ?_)
    refine LWo.nil (hN11 _ ?_)
    refine LWP.cond_split rfl (fun h12 => ?_) (fun h12 => ?_)
    ·have h := bT h12 h
     refine LWP.skip (hN10 _ ?_)
     refine LWP.seq_k fun N13 hN13 => ?_
     refine LWP.block ?_
     refine LWP.seq_k fun N14 hN14 => ?_
     refine bk h fun x15 e15 h => ?_
     refine bk h fun x16 e16 h => ?_
     refine bk h fun x17 e17 h => ?_
     refine LWP.drawF (l := [_,_,_,_,_,_,_,_,_,_]) [] [0, 1, 5] [([0], []), ([5], []), ([17, 18], []), ([19], []), ([1], []), ([5], []), ([21, 22], []), ([23], []), ([20, 24], []), ([25], [])] [0, 1, 5, 26] [] mixed (by kernel_rfl) rfl (by decide) ?_
     refine dq 17 rfl (fun _ g u h => LWo.move (e_Limpl_Part t0) u.1 (hn := .nil (zn g))) ?_
     refine dq 18 rfl (fun _ g u h => LWo.move (e_int t5) u.1 (hn := .nil (zn g))) ?_
     refine dq 19 rfl (fun _ g u h => LWo.indexM (f := e_impl_Part) e15 u_Limpl_Part s_impl_Part u.1 u.2.1 (hn := .nil (zn g))) ?_
     refine dq 20 rfl (fun _ g u h => LWo.loadN ((e_impl_Part x15)).cells g_impl_Part s_impl_Part u.1 (Nat.le_of_ble_eq_true rfl) rfl (hn := .nil (zn g))) ?_
     refine dq 21 rfl (fun _ g u h => LWo.move (e_Limpl_Part t1) u.1 (hn := .nil (zn g))) ?_
     refine dq 22 rfl (fun _ g u h => LWo.move (e_int t5) u.1 (hn := .nil (zn g))) ?_
     refine dq 23 rfl (fun _ g u h => LWo.indexM (f := e_impl_Part) e16 u_Limpl_Part s_impl_Part u.1 u.2.1 (hn := .nil (zn g))) ?_
     refine dq 24 rfl (fun _ g u h => LWo.loadN ((e_impl_Part x16)).cells g_impl_Part s_impl_Part u.1 (Nat.le_of_ble_eq_true rfl) rfl (hn := .nil (zn g))) ?_
     refine dq 25 rfl (fun _ g u h => LWo.vcall rfl (av2 u.1 u.2.1) (c_laws_eqPart _ _ _ e17) (.same (.same (.nil))) (hn := .nil (zn g))) ?_
     refine dq 26 rfl (fun _ g u h => LWo.not u.1 (hn := .nil (zn g))) ?_
     refine ⟨rfl, by kernel_rfl, hN14 _ ?_⟩
     refine LWP.cond_split rfl (fun h18 => ?_) (fun h18 => ?_)
     ·have h := bT h18 h
      refine LWP.seq_k fun N19 hN19 => ?_
      refine LWP.region (l := [_]) ?_
      refine LWo.assign (e_bool false) rfl (hn := ?_)
      refine LWo.nil (hN19 _ ?_)
      obtain rfl := Option.some.inj h
      refine LWP.ret (QG.mk (.inr rfl) (.cons (.tmp (x := (e_bool false)) rfl) (.nil)) (RetOK.one0 (.pure rfl) (by decide)) rfl rfl)
     ·have h := bF h18 h
      refine LWP.skip (hN13 _ ?_)
      refine LWP.region (l := [_,_,_]) ?_
      refine LWo.move (e_int t5) rfl (hn := ?_)
      refine bk h fun x20 e20 h => ?_
      refine LWo.int _ rfl rfl (add_ck e20) (hn := ?_)
      refine LWo.assign (e_int x20) rfl (hn := ?_)
      refine LWo.nil (hN8 (t0, t1, x20) _ ⟨rfl, rfl, rfl, trivial⟩ trivial h)
    ·have h := bF h12 h
     refine LWP.exit (hN6 () _ trivial trivial h)

def m_laws_eqGuard (a0 : S_impl_Guard) (a1 : S_impl_Guard) : Option Bool :=
  bif (a0.In != a1.In) then (some false)
  else ((m_laws_eqPartS a0.E a1.E).bind fun x8 =>
  bif (!x8) then (some false)
  else (some true))
theorem c_laws_eqGuard (a0 : S_impl_Guard) (a1 : S_impl_Guard) (r : Bool) (h : m_laws_eqGuard a0 a1 = some r) : Ret Try.prog f_laws_eqGuard [e_impl_Guard a0, e_impl_Guard a1] (e_bool r) := by
  refine Does.goG [] F_laws_eqGuard rfl e_laws_eqGuard n_laws_eqGuard rfl (rvs := [.tmp 4]) rfl rfl ?_
  intro w0 ok0 lent ρ0
  refine LWP.seq_k fun N1 hN1 => ?_
  refine LWP.region (l := [_,_,_]) ?_
  refine LWo.boxF (e_impl_Guard a0) rfl rfl rfl (hn := ?_)
  refine LWo.boxF (e_impl_Guard a1) rfl rfl rfl (hn := ?_)
  refine LWo.assign (e_bool false) rfl (hn := ?_)
  refine LWo.nil (hN1 _ ?_)
  refine LWP.seq_k fun N2 hN2 => ?_
  refine LWP.seq_k fun N3 hN3 => ?_
  refine LWP.region (l := [_,_,_,_,_]) ?_
  refine LWo.fieldAddr _ u_impl_Guard rfl s_int rfl rfl (hn := ?_)
  refine LWo.load1 (c := (e_int a0.In)) g_int rfl (hn := ?_)
  refine LWo.fieldAddr _ u_impl_Guard rfl s_int rfl rfl (hn := ?_)
  refine LWo.load1 (c := (e_int a1.In)) g_int rfl (hn := ?_)
  refine LWo.int _ rfl rfl rfl (hn := ?_)
  refine LWo.nil (hN3 _ ?_)
  refine LWP.cond_split rfl (fun h4 => ?_) (fun h4 => ?_)
  ·have h := bT h4 h
   refine LWP.seq_k fun N5 hN5 => ?_
   refine LWP.region (l := [_]) ?_
   refine LWo.assign (e_bool false) rfl (hn := ?_)
   refine LWo.nil (hN5 _ ?_)
   obtain rfl := Option.some.inj h
   refine LWP.ret (QG.mk (.inr rfl) (.cons (.tmp (x := (e_bool false)) rfl) (.nil)) (RetOK.one0 (.pure rfl) (by decide)) rfl rfl)
  ·have h := bF h4 h
   refine LWP.skip (hN2 _ ?_)
   refine LWP.seq_k fun N6 hN6 => ?_
   refine LWP.seq_k fun N7 hN7 => ?_
   refine LWP.region (l := [_,_,_,_,_,_]) ?_
   refine LWo.fieldAddr _ u_impl_Guard rfl s_Limpl_Part rfl rfl (hn := ?_)
   refine LWo.load1 (c := (e_Limpl_Part a0.E)) g_Limpl_Part rfl (hn := ?_)
   refine LWo.fieldAddr _ u_impl_Guard rfl s_Limpl_Part rfl rfl (hn := ?_)
   refine LWo.load1 (c := (e_Limpl_Part a1.E)) g_Limpl_Part rfl (hn := ?_)
   refine bk h fun x8 e8 h => ?_
   refine LWo.vcall rfl rfl (c_laws_eqPartS _ _ _ e8) (.same (.same (.nil))) (hn := ?_)
   refine LWo.not rfl (hn := ?_)
   refine LWo.nil (hN7 _ ?_)
   refine LWP.cond_split rfl (fun h9 => ?_) (fun h9 => ?_)
   ·have h := bT h9 h
    refine LWP.seq_k fun N10 hN10 => ?_
    refine LWP.region (l := [_]) ?_
    refine LWo.assign (e_bool false) rfl (hn := ?_)
    refine LWo.nil (hN10 _ ?_)
    obtain rfl := Option.some.inj h
    refine LWP.ret (QG.mk (.inr rfl) (.cons (.tmp (x := (e_bool false)) rfl) (.nil)) (RetOK.one0 (.pure rfl) (by decide)) rfl rfl)
   ·have h := bF h9 h
    refine LWP.skip (hN6 _ ?_)
    refine LWP.seq_k fun N11 hN11 => ?_
    refine LWP.region (l := [_]) ?_
    refine LWo.assign (e_bool true) rfl (hn := ?_)
    refine LWo.nil (hN11 _ ?_)
    obtain rfl := Option.some.inj h
    refine LWP.ret (QG.mk (.inr rfl) (.cons (.tmp (x := (e_bool true)) rfl) (.nil)) (RetOK.one0 (.pure rfl) (by decide)) rfl rfl)

def m_laws_eqGuardS_j1  : Option Bool :=
  some true
def m_laws_eqGuardS_l1 : Nat → (List S_impl_Guard) → (List S_impl_Guard) → Int → Option Bool
  | 0, _, _, _ => none
  | n1 + 1, t0, t1, t5 =>
    bif decide (t5 < (t0.length : Int)) then ((at? t0 t5).bind fun x15 =>
    (at? t1 t5).bind fun x16 =>
    (m_laws_eqGuard x15 x16).bind fun x17 =>
    bif (!x17) then (some false)
    else ((ckI (t5 + (1 : Int))).bind fun x20 =>
    (m_laws_eqGuardS_l1  n1) t0 t1 x20))
    else (m_laws_eqGuardS_j1  )
def m_laws_eqGuardS (a0 : (List S_impl_Guard)) (a1 : (List S_impl_Guard)) : Option Bool :=
  bif ((a0.length : Int) != (a1.length : Int)) then (some false)
  else (m_laws_eqGuardS_l1  (((a0.length : Int) - (0 : Int)).toNat + 1) a0 a1 (0 : Int))
theorem c_laws_eqGuardS (a0 : (List S_impl_Guard)) (a1 : (List S_impl_Guard)) (r : Bool) (h : m_laws_eqGuardS a0 a1 = some r) : Ret Try.prog f_laws_eqGuardS [e_Limpl_Guard a0, e_Limpl_Guard a1] (e_bool r) := by
  refine Does.goG [] F_laws_eqGuardS rfl e_laws_eqGuardS n_laws_eqGuardS rfl (rvs := [.tmp 4]) rfl rfl ?_
  intro w0 ok0 lent ρ0
  refine LWP.seq_k fun N1 hN1 => ?_
  refine LWP.region (l := [_]) ?_
  refine LWo.assign (e_bool false) rfl (hn := ?_)
  refine LWo.nil (hN1 _ ?_)
  refine LWP.seq_k fun N2 hN2 => ?_
  refine LWP.seq_k fun N3 hN3 => ?_
  refine LWP.region (l := [_,_,_,_,_]) ?_
  refine LWo.move (e_Limpl_Guard a0) rfl (hn := ?_)
  refine LWo.lenM (f := e_impl_Guard) (l := a0) u_Limpl_Guard rfl (hn := ?_)
  refine LWo.move (e_Limpl_Guard a1) rfl (hn := ?_)
  refine LWo.lenM (f := e_impl_Guard) (l := a1) u_Limpl_Guard rfl (hn := ?_)
  refine LWo.int _ rfl rfl rfl (hn := ?_)
  refine LWo.nil (hN3 _ ?_)
  refine LWP.cond_split rfl (fun h4 => ?_) (fun h4 => ?_)
  ·have h := bT h4 h
   refine LWP.seq_k fun N5 hN5 => ?_
   refine LWP.region (l := [_]) ?_
   refine LWo.assign (e_bool false) rfl (hn := ?_)
   refine LWo.nil (hN5 _ ?_)
   obtain rfl := Option.some.inj h
   refine LWP.ret (QG.mk (.inr rfl) (.cons (.tmp (x := (e_bool false)) rfl) (.nil)) (RetOK.one0 (.pure rfl) (by decide)) rfl rfl)
  ·have h := bF h4 h
   refine LWP.skip (hN2 _ ?_)
   refine LWP.join (α := Unit) (fun z : Unit => []) (fun z : Unit => []) (fun z : Unit => m_laws_eqGuardS_j1  ) r (fun _ => by simp [hkeys]) ?_ ?_
   ·rintro _ h
    replace h : m_laws_eqGuardS_j1   = some _ := h
    refine LWP.seq_k fun N21 hN21 => ?_
    refine LWP.region (l := [_]) ?_
    refine LWo.assign (e_bool true) rfl (hn := ?_)
    refine LWo.nil (hN21 _ ?_)
    obtain rfl := Option.some.inj h
    refine LWP.ret (QG.mk (.inr rfl) (.cons (.tmp (x := (e_bool true)) rfl) (.nil)) (RetOK.one0 (.pure rfl) (by decide)) rfl rfl)
   ·intro N6 hN6
    refine LWP.seq_k fun N7 hN7 => ?_
    refine LWP.region (l := [_]) ?_
    refine LWo.assign (e_int (0 : Int)) rfl (hn := ?_)
    refine LWo.nil (hN7 _ ?_)
    refine LWP.block ?_
    refine LWP.loopM (α := (List S_impl_Guard) × (List S_impl_Guard) × Int) (fun z : (List S_impl_Guard) × (List S_impl_Guard) × Int => [(0, (e_Limpl_Guard z.1)), (1, (e_Limpl_Guard z.2.1)), (5, (e_int z.2.2))]) (fun z : (List S_impl_Guard) × (List S_impl_Guard) × Int => []) (fun n1 (z : (List S_impl_Guard) × (List S_impl_Guard) × Int) => m_laws_eqGuardS_l1  n1 z.1 z.2.1 z.2.2) r _ (a0, a1, (0 : Int)) h (fun _ => rfl) (fun _ => by simp [hkeys]) ⟨rfl, rfl, rfl, trivial⟩ trivial ?_
    rintro n1 ⟨t0, t1, t5⟩ h N8 hN8
    replace h : m_laws_eqGuardS_l1  (n1 + 1) t0 t1 t5 = some _ := h
    refine LWP.seq_k fun N10 hN10 => ?_
    refine LWP.seq_k fun N11 hN11 => ?_
    refine LWP.region (l := [_,_,_,_]) ?_
    refine LWo.move (e_int t5) rfl (hn := ?_)
    refine LWo.move (e_Limpl_Guard t0) rfl (hn := ?_)
    refine LWo.lenM (f := e_impl_Guard) (l := t0) u_Limpl_Guard rfl (hn := ?_)
    refine LWo.int _ rfl rfl rfl (hn := ?_)
    refine LWo.nil (hN11 _ ?_)
    refine LWP.cond_split rfl (fun h12 => ?_) (fun h12 => ?_)
    ·have h := bT h12 h
     refine LWP.skip (hN10 _ ?_)
     refine LWP.seq_k fun N13 hN13 => ?_
     refine LWP.block ?_
     refine LWP.seq_k fun N14 hN14 => ?_
     refine bk h fun x15 e15 h => ?_
     refine bk h fun x16 e16 h => ?_
     refine bk h fun x17 e17 h => ?_
     refine LWP.drawF (l := [_,_,_,_,_,_,_,_,_,_]) [] [0, 1, 5] [([0], []), ([5], []), ([17, 18], []), ([19], []), ([1], []), ([5], []), ([21, 22], []), ([23], []), ([20, 24], []), ([25], [])] [0, 1, 5, 26] [] mixed (by kernel_rfl) rfl (by decide) ?_
     refine dq 17 rfl (fun _ g u h => LWo.move (e_Limpl_Guard t0) u.1 (hn := .nil (zn g))) ?_
     refine dq 18 rfl (fun _ g u h => LWo.move (e_int t5) u.1 (hn := .nil (zn g))) ?_
     refine dq 19 rfl (fun _ g u h => LWo.indexM (f := e_impl_Guard) e15 u_Limpl_Guard s_impl_Guard u.1 u.2.1 (hn := .nil (zn g))) ?_
     refine dq 20 rfl (fun _ g u h => LWo.loadN ((e_impl_Guard x15)).cells g_impl_Guard s_impl_Guard u.1 (Nat.le_of_ble_eq_true rfl) rfl (hn := .nil (zn g))) ?_
     refine dq 21 rfl (fun _ g u h => LWo.move (e_Limpl_Guard t1) u.1 (hn := .nil (zn g))) ?_
     refine dq 22 rfl (fun _ g u h => LWo.move (e_int t5) u.1 (hn := .nil (zn g))) ?_
     refine dq 23 rfl (fun _ g u h => LWo.indexM (f := e_impl_Guard) e16 u_Limpl_Guard s_impl_Guard u.1 u.2.1 (hn := .nil (zn g))) ?_
     refine dq 24 rfl (fun _ g u h => LWo.loadN ((e_impl_Guard x16)).cells g_impl_Guard s_impl_Guard u.1 (Nat.le_of_ble_eq_true rfl) rfl (hn := .nil (zn g))) ?_
     refine dq 25 rfl (fun _ g u h => LWo.vcall rfl (av2 u.1 u.2.1) (c_laws_eqGuard _ _ _ e17) (.same (.same (.nil))) (hn := .nil (zn g))) ?_
     refine dq 26 rfl (fun _ g u h => LWo.not u.1 (hn := .nil (zn g))) ?_
     refine ⟨rfl, by kernel_rfl, hN14 _ ?_⟩
     refine LWP.cond_split rfl (fun h18 => ?_) (fun h18 => ?_)
     ·have h := bT h18 h
      refine LWP.seq_k fun N19 hN19 => ?_
      refine LWP.region (l := [_]) ?_
      refine LWo.assign (e_bool false) rfl (hn := ?_)
      refine LWo.nil (hN19 _ ?_)
      obtain rfl := Option.some.inj h
      refine LWP.ret (QG.mk (.inr rfl) (.cons (.tmp (x := (e_bool false)) rfl) (.nil)) (RetOK.one0 (.pure rfl) (by decide)) rfl rfl)
     ·have h := bF h18 h
      refine LWP.skip (hN13 _ ?_)
      refine LWP.region (l := [_,_,_]) ?_
      refine LWo.move (e_int t5) rfl (hn := ?_)
      refine bk h fun x20 e20 h => ?_
      refine LWo.int _ rfl rfl (add_ck e20) (hn := ?_)
      refine LWo.assign (e_int x20) rfl (hn := ?_)
      refine LWo.nil (hN8 (t0, t1, x20) _ ⟨rfl, rfl, rfl, trivial⟩ trivial h)
    ·have h := bF h12 h
     refine LWP.exit (hN6 () _ trivial trivial h)

def m_laws_FnExactGuardsOk (a0 : (List S_laws_Table)) (a1 : (List S_laws_Guard)) : Option Bool :=
  (m_laws_szTableS a0 (1048576 : Int)).bind fun x4 =>
  bif decide (x4 < (0 : Int)) then (some true)
  else ((m_laws_szGuardS a1 x4).bind fun x10 =>
  bif decide (x10 < (0 : Int)) then (some true)
  else ((m_laws_toTableS a0).bind fun x16 =>
  (m_laws_toGuardS a1).bind fun x17 =>
  (m_spec_GuardsOk x16 x17).bind fun x18 =>
  (m_laws_toTableS a0).bind fun x20 =>
  (m_laws_toGuardS a1).bind fun x22 =>
  (m_impl_GuardsOk x20 x22).bind fun x24 =>
  bif (x24 != x18) then (some false)
  else ((m_laws_toTableS a0).bind fun x31 =>
  (m_laws_eqTableS x20 x31).bind fun x32 =>
  bif (!x32) then (some false)
  else ((m_laws_toGuardS a1).bind fun x37 =>
  (m_laws_eqGuardS x22 x37).bind fun x38 =>
  bif (!x38) then (some false)
  else (some true)))))
theorem c_laws_FnExactGuardsOk (a0 : (List S_laws_Table)) (a1 : (List S_laws_Guard)) (r : Bool) (h : m_laws_FnExactGuardsOk a0 a1 = some r) : Ret Try.prog f_laws_FnExactGuardsOk [e_Llaws_Table a0, e_Llaws_Guard a1] (e_bool r) := by
  refine Does.goG [] F_laws_FnExactGuardsOk rfl e_laws_FnExactGuardsOk n_laws_FnExactGuardsOk rfl (rvs := [.tmp 4]) rfl rfl ?_
  intro w0 ok0 lent ρ0
  refine LWP.seq_k fun N1 hN1 => ?_
  refine LWP.region (l := [_]) ?_
  refine LWo.assign (e_bool false) rfl (hn := ?_)
  refine LWo.nil (hN1 _ ?_)
  refine LWP.seq_k fun N2 hN2 => ?_
  refine LWP.region (l := [_]) ?_
  refine LWo.assign (e_int (1048576 : Int)) rfl (hn := ?_)
  refine LWo.nil (hN2 _ ?_)
  refine LWP.seq_k fun N3 hN3 => ?_
  refine LWP.region (l := [_,_,_,_]) ?_
  refine LWo.move (e_Llaws_Table a0) rfl (hn := ?_)
  refine LWo.move (e_int (1048576 : Int)) rfl (hn := ?_)
  refine bk h fun x4 e4 h => ?_
  refine LWo.vcall rfl rfl (c_laws_szTableS _ _ _ e4) (.same (.same (.nil))) (hn := ?_)
  refine LWo.assign (e_int x4) rfl (hn := ?_)
  refine LWo.nil (hN3 _ ?_)
  refine LWP.seq_k fun N5 hN5 => ?_
  refine LWP.seq_k fun N6 hN6 => ?_
  refine LWP.region (l := [_,_]) ?_
  refine LWo.move (e_int x4) rfl (hn := ?_)
  refine LWo.int _ rfl rfl rfl (hn := ?_)
  refine LWo.nil (hN6 _ ?_)
  refine LWP.cond_split rfl (fun h7 => ?_) (fun h7 => ?_)
  ·have h := bT h7 h
   refine LWP.seq_k fun N8 hN8 => ?_
   refine LWP.region (l := [_]) ?_
   refine LWo.assign (e_bool true) rfl (hn := ?_)
   refine LWo.nil (hN8 _ ?_)
   obtain rfl := Option.some.inj h
   refine LWP.ret (QG.mk (.inr rfl) (.cons (.tmp (x := (e_bool true)) rfl) (.nil)) (RetOK.one0 (.pure rfl) (by decide)) rfl rfl)
  ·have h := bF h7 h
   refine LWP.skip (hN5 _ ?_)
   refine LWP.seq_k fun N9 hN9 => ?_
   refine LWP.region (l := [_,_,_,_]) ?_
   refine LWo.move (e_Llaws_Guard a1) rfl (hn := ?_)
   refine LWo.move (e_int x4) rfl (hn := ?_)
   refine bk h fun x10 e10 h => ?_
   refine LWo.vcall rfl rfl (c_laws_szGuardS _ _ _ e10) (.same (.same (.nil))) (hn := ?_)
   refine LWo.assign (e_int x10) rfl (hn := ?_)
   refine LWo.nil (hN9 _ ?_)
   refine LWP.seq_k fun N11 hN11 => ?_
   refine LWP.seq_k fun N12 hN12 => ?_
   refine LWP.region (l := [_,_]) ?_
   refine LWo.move (e_int x10) rfl (hn := ?_)
   refine LWo.int _ rfl rfl rfl (hn := ?_)
   refine LWo.nil (hN12 _ ?_)
   refine LWP.cond_split rfl (fun h13 => ?_) (fun h13 => ?_)
   ·have h := bT h13 h
    refine LWP.seq_k fun N14 hN14 => ?_
    refine LWP.region (l := [_]) ?_
    refine LWo.assign (e_bool true) rfl (hn := ?_)
    refine LWo.nil (hN14 _ ?_)
    obtain rfl := Option.some.inj h
    refine LWP.ret (QG.mk (.inr rfl) (.cons (.tmp (x := (e_bool true)) rfl) (.nil)) (RetOK.one0 (.pure rfl) (by decide)) rfl rfl)
   ·have h := bF h13 h
    refine LWP.skip (hN11 _ ?_)
    refine LWP.seq_k fun N15 hN15 => ?_
    refine LWP.region (l := [_,_,_,_,_,_]) ?_
    refine LWo.move (e_Llaws_Table a0) rfl (hn := ?_)
    refine bk h fun x16 e16 h => ?_
    refine LWo.vcall rfl rfl (c_laws_toTableS _ _ e16) (.same (.nil)) (hn := ?_)
    refine LWo.move (e_Llaws_Guard a1) rfl (hn := ?_)
    refine bk h fun x17 e17 h => ?_
    refine LWo.vcall rfl rfl (c_laws_toGuardS _ _ e17) (.same (.nil)) (hn := ?_)
    refine bk h fun x18 e18 h => ?_
    refine LWo.vcall rfl rfl (c_spec_GuardsOk _ _ _ e18) (.same (.same (.nil))) (hn := ?_)
    refine LWo.assign (e_bool x18) rfl (hn := ?_)
    refine LWo.nil (hN15 _ ?_)
    refine LWP.seq_k fun N19 hN19 => ?_
    refine LWP.region (l := [_,_,_]) ?_
    refine LWo.move (e_Llaws_Table a0) rfl (hn := ?_)
    refine bk h fun x20 e20 h => ?_
    refine LWo.vcall rfl rfl (c_laws_toTableS _ _ e20) (.same (.nil)) (hn := ?_)
    refine LWo.assign (e_Limpl_Table x20) rfl (hn := ?_)
    refine LWo.nil (hN19 _ ?_)
    refine LWP.seq_k fun N21 hN21 => ?_
    refine LWP.region (l := [_,_,_]) ?_
    refine LWo.move (e_Llaws_Guard a1) rfl (hn := ?_)
    refine bk h fun x22 e22 h => ?_
    refine LWo.vcall rfl rfl (c_laws_toGuardS _ _ e22) (.same (.nil)) (hn := ?_)
    refine LWo.assign (e_Limpl_Guard x22) rfl (hn := ?_)
    refine LWo.nil (hN21 _ ?_)
    refine LWP.seq_k fun N23 hN23 => ?_
    refine LWP.region (l := [_,_,_,_]) ?_
    refine LWo.move (e_Limpl_Table x20) rfl (hn := ?_)
    refine LWo.move (e_Limpl_Guard x22) rfl (hn := ?_)
    refine bk h fun x24 e24 h => ?_
    refine LWo.vcall rfl rfl (c_impl_GuardsOk _ _ _ e24) (.same (.same (.nil))) (hn := ?_)
    refine LWo.assign (e_bool x24) rfl (hn := ?_)
    refine LWo.nil (hN23 _ ?_)
    refine LWP.seq_k fun N25 hN25 => ?_
    refine LWP.seq_k fun N26 hN26 => ?_
    refine LWP.region (l := [_,_,_]) ?_
    refine LWo.move (e_bool x24) rfl (hn := ?_)
    refine LWo.move (e_bool x18) rfl (hn := ?_)
    refine LWo.boolNe u_bool rfl rfl (hn := ?_)
    refine LWo.nil (hN26 _ ?_)
    refine LWP.cond_split rfl (fun h27 => ?_) (fun h27 => ?_)
    ·have h := bT h27 h
     refine LWP.seq_k fun N28 hN28 => ?_
     refine LWP.region (l := [_]) ?_
     refine LWo.assign (e_bool false) rfl (hn := ?_)
     refine LWo.nil (hN28 _ ?_)
     obtain rfl := Option.some.inj h
     refine LWP.ret (QG.mk (.inr rfl) (.cons (.tmp (x := (e_bool false)) rfl) (.nil)) (RetOK.one0 (.pure rfl) (by decide)) rfl rfl)
    ·have h := bF h27 h
     refine LWP.skip (hN25 _ ?_)
     refine LWP.seq_k fun N29 hN29 => ?_
     refine LWP.seq_k fun N30 hN30 => ?_
     refine LWP.region (l := [_,_,_,_,_]) ?_
     refine LWo.move (e_Limpl_Table x20) rfl (hn := ?_)
     refine LWo.move (e_Llaws_Table a0) rfl (hn := ?_)
     refine bk h fun x31 e31 h => ?_
     refine LWo.vcall rfl rfl (c_laws_toTableS _ _ e31) (.same (.nil)) (hn := ?_)
     refine bk h fun x32 e32 h => ?_
     refine LWo.vcall rfl rfl (c_laws_eqTableS _ _ _ e32) (.same (.same (.nil))) (hn := ?_)
     refine LWo.not rfl (hn := ?_)
     refine LWo.nil (hN30 _ ?_)
     refine LWP.cond_split rfl (fun h33 => ?_) (fun h33 => ?_)
     ·have h := bT h33 h
      refine LWP.seq_k fun N34 hN34 => ?_
      refine LWP.region (l := [_]) ?_
      refine LWo.assign (e_bool false) rfl (hn := ?_)
      refine LWo.nil (hN34 _ ?_)
      obtain rfl := Option.some.inj h
      refine LWP.ret (QG.mk (.inr rfl) (.cons (.tmp (x := (e_bool false)) rfl) (.nil)) (RetOK.one0 (.pure rfl) (by decide)) rfl rfl)
     ·have h := bF h33 h
      refine LWP.skip (hN29 _ ?_)
      refine LWP.seq_k fun N35 hN35 => ?_
      refine LWP.seq_k fun N36 hN36 => ?_
      refine LWP.region (l := [_,_,_,_,_]) ?_
      refine LWo.move (e_Limpl_Guard x22) rfl (hn := ?_)
      refine LWo.move (e_Llaws_Guard a1) rfl (hn := ?_)
      refine bk h fun x37 e37 h => ?_
      refine LWo.vcall rfl rfl (c_laws_toGuardS _ _ e37) (.same (.nil)) (hn := ?_)
      refine bk h fun x38 e38 h => ?_
      refine LWo.vcall rfl rfl (c_laws_eqGuardS _ _ _ e38) (.same (.same (.nil))) (hn := ?_)
      refine LWo.not rfl (hn := ?_)
      refine LWo.nil (hN36 _ ?_)
      refine LWP.cond_split rfl (fun h39 => ?_) (fun h39 => ?_)
      ·have h := bT h39 h
       refine LWP.seq_k fun N40 hN40 => ?_
       refine LWP.region (l := [_]) ?_
       refine LWo.assign (e_bool false) rfl (hn := ?_)
       refine LWo.nil (hN40 _ ?_)
       obtain rfl := Option.some.inj h
       refine LWP.ret (QG.mk (.inr rfl) (.cons (.tmp (x := (e_bool false)) rfl) (.nil)) (RetOK.one0 (.pure rfl) (by decide)) rfl rfl)
      ·have h := bF h39 h
       refine LWP.skip (hN35 _ ?_)
       refine LWP.seq_k fun N41 hN41 => ?_
       refine LWP.region (l := [_]) ?_
       refine LWo.assign (e_bool true) rfl (hn := ?_)
       refine LWo.nil (hN41 _ ?_)
       obtain rfl := Option.some.inj h
       refine LWP.ret (QG.mk (.inr rfl) (.cons (.tmp (x := (e_bool true)) rfl) (.nil)) (RetOK.one0 (.pure rfl) (by decide)) rfl rfl)
end Go.Proofs.Ytgepipglchpabaa
