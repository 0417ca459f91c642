/- Mirrors of functions, and that the functions return what the mirrors say. -/
import Derived.Test.YtkgmomocjkmipaaXTy
set_option linter.unusedVariables false
set_option linter.unusedSimpArgs false
set_option linter.unnecessarySimpa false
namespace Go.Proofs.Ytkgmomocjkmipaa
open Go.Proofs Go.Lift Go.RowKit
def m_laws_szValue (a0 : S_laws_Value) (a1 : Int) : Option Int :=
  (ckI (a1 - (a0.S.size : Int))).bind fun x3 =>
  bif decide (x3 < (0 : Int)) then (some (-1 : Int))
  else (some x3)
theorem c_laws_szValue (a0 : S_laws_Value) (a1 : Int) (r : Int) (h : m_laws_szValue a0 a1 = some r) : Ret Try.prog f_laws_szValue [e_laws_Value a0, e_int a1] (e_int r) := by
  refine Does.goG [] F_laws_szValue rfl e_laws_szValue n_laws_szValue rfl (rvs := [.tmp 4]) rfl rfl ?_
  intro w0 ok0 lent ρ0
  refine LWP.seq_k fun N1 hN1 => ?_
  refine LWP.region (l := [_,_]) ?_
  refine LWo.boxF (e_laws_Value a0) rfl rfl rfl (hn := ?_)
  refine LWo.assign (e_int (0 : Int)) rfl (hn := ?_)
  refine LWo.nil (hN1 _ ?_)
  refine LWP.seq_k fun N2 hN2 => ?_
  refine LWP.region (l := [_,_,_,_,_,_]) ?_
  refine LWo.move (e_int a1) rfl (hn := ?_)
  refine LWo.fieldAddr _ u_laws_Value rfl s_string rfl rfl (hn := ?_)
  refine LWo.load1 (c := (e_string a0.S)) g_string rfl (hn := ?_)
  refine LWo.lenS u_string rfl (hn := ?_)
  refine bk h fun x3 e3 h => ?_
  refine LWo.int _ rfl rfl (sub_ck e3) (hn := ?_)
  refine LWo.assign (e_int x3) rfl (hn := ?_)
  refine LWo.nil (hN2 _ ?_)
  refine LWP.seq_k fun N4 hN4 => ?_
  refine LWP.seq_k fun N5 hN5 => ?_
  refine LWP.region (l := [_,_]) ?_
  refine LWo.move (e_int x3) rfl (hn := ?_)
  refine LWo.int _ rfl rfl rfl (hn := ?_)
  refine LWo.nil (hN5 _ ?_)
  refine LWP.cond_split rfl (fun h6 => ?_) (fun h6 => ?_)
  ·have h := bT h6 h
   refine LWP.seq_k fun N7 hN7 => ?_
   refine LWP.region (l := [_]) ?_
   refine LWo.assign (e_int (-1 : Int)) rfl (hn := ?_)
   refine LWo.nil (hN7 _ ?_)
   obtain rfl := Option.some.inj h
   refine LWP.ret (QG.mk (.inr rfl) (.cons (.tmp (x := (e_int (-1 : Int))) rfl) (.nil)) (RetOK.one0 (.pure rfl) (by decide)) rfl rfl)
  ·have h := bF h6 h
   refine LWP.skip (hN4 _ ?_)
   refine LWP.seq_k fun N8 hN8 => ?_
   refine LWP.region (l := [_,_]) ?_
   refine LWo.move (e_int x3) rfl (hn := ?_)
   refine LWo.assign (e_int x3) rfl (hn := ?_)
   refine LWo.nil (hN8 _ ?_)
   obtain rfl := Option.some.inj h
   refine LWP.ret (QG.mk (.inr rfl) (.cons (.tmp (x := (e_int x3)) rfl) (.nil)) (RetOK.one0 (.pure rfl) (by decide)) rfl rfl)

def m_laws_szValueS_j1 (t1 : Int) : Option Int :=
  some t1
def m_laws_szValueS_l1 : Nat → (List S_laws_Value) → Int → Int → Option Int
  | 0, _, _, _ => none
  | n1 + 1, t0, t1, t5 =>
    bif decide (t5 < (t0.length : Int)) then ((at? t0 t5).bind fun x17 =>
    (m_laws_szValue x17 t1).bind fun x18 =>
    bif decide (x18 < (0 : Int)) then (some (-1 : Int))
    else ((ckI (t5 + (1 : Int))).bind fun x22 =>
    (m_laws_szValueS_l1  n1) t0 x18 x22))
    else (m_laws_szValueS_j1  t1)
def m_laws_szValueS (a0 : (List S_laws_Value)) (a1 : Int) : Option Int :=
  (ckI (a1 - (a0.length : Int))).bind fun x3 =>
  bif decide (x3 < (0 : Int)) then (some (-1 : Int))
  else (m_laws_szValueS_l1  (((a0.length : Int) - (0 : Int)).toNat + 1) a0 x3 (0 : Int))
theorem c_laws_szValueS (a0 : (List S_laws_Value)) (a1 : Int) (r : Int) (h : m_laws_szValueS a0 a1 = some r) : Ret Try.prog f_laws_szValueS [e_Llaws_Value a0, e_int a1] (e_int r) := by
  refine Does.goG [] F_laws_szValueS rfl e_laws_szValueS n_laws_szValueS rfl (rvs := [.tmp 4]) rfl rfl ?_
  intro w0 ok0 lent ρ0
  refine LWP.seq_k fun N1 hN1 => ?_
  refine LWP.region (l := [_]) ?_
  refine LWo.assign (e_int (0 : Int)) rfl (hn := ?_)
  refine LWo.nil (hN1 _ ?_)
  refine LWP.seq_k fun N2 hN2 => ?_
  refine LWP.region (l := [_,_,_,_,_]) ?_
  refine LWo.move (e_int a1) rfl (hn := ?_)
  refine LWo.move (e_Llaws_Value a0) rfl (hn := ?_)
  refine LWo.lenM (f := e_laws_Value) (l := a0) u_Llaws_Value rfl (hn := ?_)
  refine bk h fun x3 e3 h => ?_
  refine LWo.int _ rfl rfl (sub_ck e3) (hn := ?_)
  refine LWo.assign (e_int x3) rfl (hn := ?_)
  refine LWo.nil (hN2 _ ?_)
  refine LWP.seq_k fun N4 hN4 => ?_
  refine LWP.seq_k fun N5 hN5 => ?_
  refine LWP.region (l := [_,_]) ?_
  refine LWo.move (e_int x3) rfl (hn := ?_)
  refine LWo.int _ rfl rfl rfl (hn := ?_)
  refine LWo.nil (hN5 _ ?_)
  refine LWP.cond_split rfl (fun h6 => ?_) (fun h6 => ?_)
  ·have h := bT h6 h
   refine LWP.seq_k fun N7 hN7 => ?_
   refine LWP.region (l := [_]) ?_
   refine LWo.assign (e_int (-1 : Int)) rfl (hn := ?_)
   refine LWo.nil (hN7 _ ?_)
   obtain rfl := Option.some.inj h
   refine LWP.ret (QG.mk (.inr rfl) (.cons (.tmp (x := (e_int (-1 : Int))) rfl) (.nil)) (RetOK.one0 (.pure rfl) (by decide)) rfl rfl)
  ·have h := bF h6 h
   refine LWP.skip (hN4 _ ?_)
   refine LWP.join (α := Int) (fun z : Int => [(1, (e_int z))]) (fun z : Int => []) (fun z : Int => m_laws_szValueS_j1  z) r (fun _ => by simp [hkeys]) ?_ ?_
   ·rintro t1 h
    replace h : m_laws_szValueS_j1  t1 = some _ := h
    refine LWP.seq_k fun N23 hN23 => ?_
    refine LWP.region (l := [_,_]) ?_
    refine LWo.move (e_int t1) rfl (hn := ?_)
    refine LWo.assign (e_int t1) rfl (hn := ?_)
    refine LWo.nil (hN23 _ ?_)
    obtain rfl := Option.some.inj h
    refine LWP.ret (QG.mk (.inr rfl) (.cons (.tmp (x := (e_int t1)) rfl) (.nil)) (RetOK.one0 (.pure rfl) (by decide)) rfl rfl)
   ·intro N8 hN8
    refine LWP.seq_k fun N9 hN9 => ?_
    refine LWP.region (l := [_]) ?_
    refine LWo.assign (e_int (0 : Int)) rfl (hn := ?_)
    refine LWo.nil (hN9 _ ?_)
    refine LWP.block ?_
    refine LWP.loopM (α := (List S_laws_Value) × Int × Int) (fun z : (List S_laws_Value) × Int × Int => [(0, (e_Llaws_Value z.1)), (1, (e_int z.2.1)), (5, (e_int z.2.2))]) (fun z : (List S_laws_Value) × Int × Int => []) (fun n1 (z : (List S_laws_Value) × Int × Int) => m_laws_szValueS_l1  n1 z.1 z.2.1 z.2.2) r _ (a0, x3, (0 : Int)) h (fun _ => rfl) (fun _ => by simp [hkeys]) ⟨rfl, rfl, rfl, trivial⟩ trivial ?_
    rintro n1 ⟨t0, t1, t5⟩ h N10 hN10
    replace h : m_laws_szValueS_l1  (n1 + 1) t0 t1 t5 = some _ := h
    refine LWP.seq_k fun N12 hN12 => ?_
    refine LWP.seq_k fun N13 hN13 => ?_
    refine LWP.region (l := [_,_,_,_]) ?_
    refine LWo.move (e_int t5) rfl (hn := ?_)
    refine LWo.move (e_Llaws_Value t0) rfl (hn := ?_)
    refine LWo.lenM (f := e_laws_Value) (l := t0) u_Llaws_Value rfl (hn := ?_)
    refine LWo.int _ rfl rfl rfl (hn := ?_)
    refine LWo.nil (hN13 _ ?_)
    refine LWP.cond_split rfl (fun h14 => ?_) (fun h14 => ?_)
    ·have h := bT h14 h
     refine LWP.skip (hN12 _ ?_)
     refine LWP.seq_k fun N15 hN15 => ?_
     refine LWP.block ?_
     refine LWP.seq_k fun N16 hN16 => ?_
     refine LWP.region (l := [_,_,_,_,_,_,_]) ?_
     refine LWo.move (e_Llaws_Value t0) rfl (hn := ?_)
     refine LWo.move (e_int t5) rfl (hn := ?_)
     refine bk h fun x17 e17 h => ?_
     refine LWo.indexM (f := e_laws_Value) e17 u_Llaws_Value s_laws_Value rfl rfl (hn := ?_)
     refine LWo.loadN ((e_laws_Value x17)).cells g_laws_Value s_laws_Value rfl (Nat.le_of_ble_eq_true rfl) rfl (hn := ?_)
     refine LWo.move (e_int t1) rfl (hn := ?_)
     refine bk h fun x18 e18 h => ?_
     refine LWo.vcall rfl rfl (c_laws_szValue _ _ _ e18) (.same (.same (.nil))) (hn := ?_)
     refine LWo.assign (e_int x18) rfl (hn := ?_)
     refine LWo.nil (hN16 _ ?_)
     refine LWP.seq_k fun N19 hN19 => ?_
     refine LWP.region (l := [_,_]) ?_
     refine LWo.move (e_int x18) rfl (hn := ?_)
     refine LWo.int _ rfl rfl rfl (hn := ?_)
     refine LWo.nil (hN19 _ ?_)
     refine LWP.cond_split rfl (fun h20 => ?_) (fun h20 => ?_)
     ·have h := bT h20 h
      refine LWP.seq_k fun N21 hN21 => ?_
      refine LWP.region (l := [_]) ?_
      refine LWo.assign (e_int (-1 : Int)) rfl (hn := ?_)
      refine LWo.nil (hN21 _ ?_)
      obtain rfl := Option.some.inj h
      refine LWP.ret (QG.mk (.inr rfl) (.cons (.tmp (x := (e_int (-1 : Int))) rfl) (.nil)) (RetOK.one0 (.pure rfl) (by decide)) rfl rfl)
     ·have h := bF h20 h
      refine LWP.skip (hN15 _ ?_)
      refine LWP.region (l := [_,_,_]) ?_
      refine LWo.move (e_int t5) rfl (hn := ?_)
      refine bk h fun x22 e22 h => ?_
      refine LWo.int _ rfl rfl (add_ck e22) (hn := ?_)
      refine LWo.assign (e_int x22) rfl (hn := ?_)
      refine LWo.nil (hN10 (t0, x18, x22) _ ⟨rfl, rfl, rfl, trivial⟩ trivial h)
    ·have h := bF h14 h
     refine LWP.exit (hN8 t1 _ ⟨rfl, trivial⟩ trivial h)

def m_laws_szWrite (a0 : S_laws_Write) (a1 : Int) : Option Int :=
  (m_laws_szValueS a0.Row a1).bind fun x3 =>
  bif decide (x3 < (0 : Int)) then (some (-1 : Int))
  else (some x3)
theorem c_laws_szWrite (a0 : S_laws_Write) (a1 : Int) (r : Int) (h : m_laws_szWrite a0 a1 = some r) : Ret Try.prog f_laws_szWrite [e_laws_Write a0, e_int a1] (e_int r) := by
  refine Does.goG [] F_laws_szWrite rfl e_laws_szWrite n_laws_szWrite rfl (rvs := [.tmp 4]) rfl rfl ?_
  intro w0 ok0 lent ρ0
  refine LWP.seq_k fun N1 hN1 => ?_
  refine LWP.region (l := [_,_]) ?_
  refine LWo.boxF (e_laws_Write a0) rfl rfl rfl (hn := ?_)
  refine LWo.assign (e_int (0 : Int)) rfl (hn := ?_)
  refine LWo.nil (hN1 _ ?_)
  refine LWP.seq_k fun N2 hN2 => ?_
  refine LWP.region (l := [_,_,_,_,_]) ?_
  refine LWo.fieldAddr _ u_laws_Write rfl s_Llaws_Value rfl rfl (hn := ?_)
  refine LWo.load1 (c := (e_Llaws_Value a0.Row)) g_Llaws_Value rfl (hn := ?_)
  refine LWo.move (e_int a1) rfl (hn := ?_)
  refine bk h fun x3 e3 h => ?_
  refine LWo.vcall rfl rfl (c_laws_szValueS _ _ _ e3) (.same (.same (.nil))) (hn := ?_)
  refine LWo.assign (e_int x3) rfl (hn := ?_)
  refine LWo.nil (hN2 _ ?_)
  refine LWP.seq_k fun N4 hN4 => ?_
  refine LWP.seq_k fun N5 hN5 => ?_
  refine LWP.region (l := [_,_]) ?_
  refine LWo.move (e_int x3) rfl (hn := ?_)
  refine LWo.int _ rfl rfl rfl (hn := ?_)
  refine LWo.nil (hN5 _ ?_)
  refine LWP.cond_split rfl (fun h6 => ?_) (fun h6 => ?_)
  ·have h := bT h6 h
   refine LWP.seq_k fun N7 hN7 => ?_
   refine LWP.region (l := [_]) ?_
   refine LWo.assign (e_int (-1 : Int)) rfl (hn := ?_)
   refine LWo.nil (hN7 _ ?_)
   obtain rfl := Option.some.inj h
   refine LWP.ret (QG.mk (.inr rfl) (.cons (.tmp (x := (e_int (-1 : Int))) rfl) (.nil)) (RetOK.one0 (.pure rfl) (by decide)) rfl rfl)
  ·have h := bF h6 h
   refine LWP.skip (hN4 _ ?_)
   refine LWP.seq_k fun N8 hN8 => ?_
   refine LWP.region (l := [_,_]) ?_
   refine LWo.move (e_int x3) rfl (hn := ?_)
   refine LWo.assign (e_int x3) rfl (hn := ?_)
   refine LWo.nil (hN8 _ ?_)
   obtain rfl := Option.some.inj h
   refine LWP.ret (QG.mk (.inr rfl) (.cons (.tmp (x := (e_int x3)) rfl) (.nil)) (RetOK.one0 (.pure rfl) (by decide)) rfl rfl)

def m_laws_szWriteS_j1 (t1 : Int) : Option Int :=
  some t1
def m_laws_szWriteS_l1 : Nat → (List S_laws_Write) → Int → Int → Option Int
  | 0, _, _, _ => none
  | n1 + 1, t0, t1, t5 =>
    bif decide (t5 < (t0.length : Int)) then ((at? t0 t5).bind fun x17 =>
    (m_laws_szWrite x17 t1).bind fun x18 =>
    bif decide (x18 < (0 : Int)) then (some (-1 : Int))
    else ((ckI (t5 + (1 : Int))).bind fun x22 =>
    (m_laws_szWriteS_l1  n1) t0 x18 x22))
    else (m_laws_szWriteS_j1  t1)
def m_laws_szWriteS (a0 : (List S_laws_Write)) (a1 : Int) : Option Int :=
  (ckI (a1 - (a0.length : Int))).bind fun x3 =>
  bif decide (x3 < (0 : Int)) then (some (-1 : Int))
  else (m_laws_szWriteS_l1  (((a0.length : Int) - (0 : Int)).toNat + 1) a0 x3 (0 : Int))
theorem c_laws_szWriteS (a0 : (List S_laws_Write)) (a1 : Int) (r : Int) (h : m_laws_szWriteS a0 a1 = some r) : Ret Try.prog f_laws_szWriteS [e_Llaws_Write a0, e_int a1] (e_int r) := by
  refine Does.goG [] F_laws_szWriteS rfl e_laws_szWriteS n_laws_szWriteS rfl (rvs := [.tmp 4]) rfl rfl ?_
  intro w0 ok0 lent ρ0
  refine LWP.seq_k fun N1 hN1 => ?_
  refine LWP.region (l := [_]) ?_
  refine LWo.assign (e_int (0 : Int)) rfl (hn := ?_)
  refine LWo.nil (hN1 _ ?_)
  refine LWP.seq_k fun N2 hN2 => ?_
  refine LWP.region (l := [_,_,_,_,_]) ?_
  refine LWo.move (e_int a1) rfl (hn := ?_)
  refine LWo.move (e_Llaws_Write a0) rfl (hn := ?_)
  refine LWo.lenM (f := e_laws_Write) (l := a0) u_Llaws_Write rfl (hn := ?_)
  refine bk h fun x3 e3 h => ?_
  refine LWo.int _ rfl rfl (sub_ck e3) (hn := ?_)
  refine LWo.assign (e_int x3) rfl (hn := ?_)
  refine LWo.nil (hN2 _ ?_)
  refine LWP.seq_k fun N4 hN4 => ?_
  refine LWP.seq_k fun N5 hN5 => ?_
  refine LWP.region (l := [_,_]) ?_
  refine LWo.move (e_int x3) rfl (hn := ?_)
  refine LWo.int _ rfl rfl rfl (hn := ?_)
  refine LWo.nil (hN5 _ ?_)
  refine LWP.cond_split rfl (fun h6 => ?_) (fun h6 => ?_)
  ·have h := bT h6 h
   refine LWP.seq_k fun N7 hN7 => ?_
   refine LWP.region (l := [_]) ?_
   refine LWo.assign (e_int (-1 : Int)) rfl (hn := ?_)
   refine LWo.nil (hN7 _ ?_)
   obtain rfl := Option.some.inj h
   refine LWP.ret (QG.mk (.inr rfl) (.cons (.tmp (x := (e_int (-1 : Int))) rfl) (.nil)) (RetOK.one0 (.pure rfl) (by decide)) rfl rfl)
  ·have h := bF h6 h
   refine LWP.skip (hN4 _ ?_)
   refine LWP.join (α := Int) (fun z : Int => [(1, (e_int z))]) (fun z : Int => []) (fun z : Int => m_laws_szWriteS_j1  z) r (fun _ => by simp [hkeys]) ?_ ?_
   ·rintro t1 h
    replace h : m_laws_szWriteS_j1  t1 = some _ := h
    refine LWP.seq_k fun N23 hN23 => ?_
    refine LWP.region (l := [_,_]) ?_
    refine LWo.move (e_int t1) rfl (hn := ?_)
    refine LWo.assign (e_int t1) rfl (hn := ?_)
    refine LWo.nil (hN23 _ ?_)
    obtain rfl := Option.some.inj h
    refine LWP.ret (QG.mk (.inr rfl) (.cons (.tmp (x := (e_int t1)) rfl) (.nil)) (RetOK.one0 (.pure rfl) (by decide)) rfl rfl)
   ·intro N8 hN8
    refine LWP.seq_k fun N9 hN9 => ?_
    refine LWP.region (l := [_]) ?_
    refine LWo.assign (e_int (0 : Int)) rfl (hn := ?_)
    refine LWo.nil (hN9 _ ?_)
    refine LWP.block ?_
    refine LWP.loopM (α := (List S_laws_Write) × Int × Int) (fun z : (List S_laws_Write) × Int × Int => [(0, (e_Llaws_Write z.1)), (1, (e_int z.2.1)), (5, (e_int z.2.2))]) (fun z : (List S_laws_Write) × Int × Int => []) (fun n1 (z : (List S_laws_Write) × Int × Int) => m_laws_szWriteS_l1  n1 z.1 z.2.1 z.2.2) r _ (a0, x3, (0 : Int)) h (fun _ => rfl) (fun _ => by simp [hkeys]) ⟨rfl, rfl, rfl, trivial⟩ trivial ?_
    rintro n1 ⟨t0, t1, t5⟩ h N10 hN10
    replace h : m_laws_szWriteS_l1  (n1 + 1) t0 t1 t5 = some _ := h
    refine LWP.seq_k fun N12 hN12 => ?_
    refine LWP.seq_k fun N13 hN13 => ?_
    refine LWP.region (l := [_,_,_,_]) ?_
    refine LWo.move (e_int t5) rfl (hn := ?_)
    refine LWo.move (e_Llaws_Write t0) rfl (hn := ?_)
    refine LWo.lenM (f := e_laws_Write) (l := t0) u_Llaws_Write rfl (hn := ?_)
    refine LWo.int _ rfl rfl rfl (hn := ?_)
    refine LWo.nil (hN13 _ ?_)
    refine LWP.cond_split rfl (fun h14 => ?_) (fun h14 => ?_)
    ·have h := bT h14 h
     refine LWP.skip (hN12 _ ?_)
     refine LWP.seq_k fun N15 hN15 => ?_
     refine LWP.block ?_
     refine LWP.seq_k fun N16 hN16 => ?_
     refine LWP.region (l := [_,_,_,_,_,_,_]) ?_
     refine LWo.move (e_Llaws_Write t0) rfl (hn := ?_)
     refine LWo.move (e_int t5) rfl (hn := ?_)
     refine bk h fun x17 e17 h => ?_
     refine LWo.indexM (f := e_laws_Write) e17 u_Llaws_Write s_laws_Write rfl rfl (hn := ?_)
     refine LWo.loadN ((e_laws_Write x17)).cells g_laws_Write s_laws_Write rfl (Nat.le_of_ble_eq_true rfl) rfl (hn := ?_)
     refine LWo.move (e_int t1) rfl (hn := ?_)
     refine bk h fun x18 e18 h => ?_
     refine LWo.vcall rfl rfl (c_laws_szWrite _ _ _ e18) (.same (.same (.nil))) (hn := ?_)
     refine LWo.assign (e_int x18) rfl (hn := ?_)
     refine LWo.nil (hN16 _ ?_)
     refine LWP.seq_k fun N19 hN19 => ?_
     refine LWP.region (l := [_,_]) ?_
     refine LWo.move (e_int x18) rfl (hn := ?_)
     refine LWo.int _ rfl rfl rfl (hn := ?_)
     refine LWo.nil (hN19 _ ?_)
     refine LWP.cond_split rfl (fun h20 => ?_) (fun h20 => ?_)
     ·have h := bT h20 h
      refine LWP.seq_k fun N21 hN21 => ?_
      refine LWP.region (l := [_]) ?_
      refine LWo.assign (e_int (-1 : Int)) rfl (hn := ?_)
      refine LWo.nil (hN21 _ ?_)
      obtain rfl := Option.some.inj h
      refine LWP.ret (QG.mk (.inr rfl) (.cons (.tmp (x := (e_int (-1 : Int))) rfl) (.nil)) (RetOK.one0 (.pure rfl) (by decide)) rfl rfl)
     ·have h := bF h20 h
      refine LWP.skip (hN15 _ ?_)
      refine LWP.region (l := [_,_,_]) ?_
      refine LWo.move (e_int t5) rfl (hn := ?_)
      refine bk h fun x22 e22 h => ?_
      refine LWo.int _ rfl rfl (add_ck e22) (hn := ?_)
      refine LWo.assign (e_int x22) rfl (hn := ?_)
      refine LWo.nil (hN10 (t0, x18, x22) _ ⟨rfl, rfl, rfl, trivial⟩ trivial h)
    ·have h := bF h14 h
     refine LWP.exit (hN8 t1 _ ⟨rfl, trivial⟩ trivial h)

def m_laws_szEntry (a0 : S_laws_Entry) (a1 : Int) : Option Int :=
  (m_laws_szWriteS a0.Writes a1).bind fun x3 =>
  bif decide (x3 < (0 : Int)) then (some (-1 : Int))
  else (some x3)
theorem c_laws_szEntry (a0 : S_laws_Entry) (a1 : Int) (r : Int) (h : m_laws_szEntry a0 a1 = some r) : Ret Try.prog f_laws_szEntry [e_laws_Entry a0, e_int a1] (e_int r) := by
  refine Does.goG [] F_laws_szEntry rfl e_laws_szEntry n_laws_szEntry rfl (rvs := [.tmp 4]) rfl rfl ?_
  intro w0 ok0 lent ρ0
  refine LWP.seq_k fun N1 hN1 => ?_
  refine LWP.region (l := [_,_]) ?_
  refine LWo.boxF (e_laws_Entry a0) rfl rfl rfl (hn := ?_)
  refine LWo.assign (e_int (0 : Int)) rfl (hn := ?_)
  refine LWo.nil (hN1 _ ?_)
  refine LWP.seq_k fun N2 hN2 => ?_
  refine LWP.region (l := [_,_,_,_,_]) ?_
  refine LWo.fieldAddr _ u_laws_Entry rfl s_Llaws_Write rfl rfl (hn := ?_)
  refine LWo.load1 (c := (e_Llaws_Write a0.Writes)) g_Llaws_Write rfl (hn := ?_)
  refine LWo.move (e_int a1) rfl (hn := ?_)
  refine bk h fun x3 e3 h => ?_
  refine LWo.vcall rfl rfl (c_laws_szWriteS _ _ _ e3) (.same (.same (.nil))) (hn := ?_)
  refine LWo.assign (e_int x3) rfl (hn := ?_)
  refine LWo.nil (hN2 _ ?_)
  refine LWP.seq_k fun N4 hN4 => ?_
  refine LWP.seq_k fun N5 hN5 => ?_
  refine LWP.region (l := [_,_]) ?_
  refine LWo.move (e_int x3) rfl (hn := ?_)
  refine LWo.int _ rfl rfl rfl (hn := ?_)
  refine LWo.nil (hN5 _ ?_)
  refine LWP.cond_split rfl (fun h6 => ?_) (fun h6 => ?_)
  ·have h := bT h6 h
   refine LWP.seq_k fun N7 hN7 => ?_
   refine LWP.region (l := [_]) ?_
   refine LWo.assign (e_int (-1 : Int)) rfl (hn := ?_)
   refine LWo.nil (hN7 _ ?_)
   obtain rfl := Option.some.inj h
   refine LWP.ret (QG.mk (.inr rfl) (.cons (.tmp (x := (e_int (-1 : Int))) rfl) (.nil)) (RetOK.one0 (.pure rfl) (by decide)) rfl rfl)
  ·have h := bF h6 h
   refine LWP.skip (hN4 _ ?_)
   refine LWP.seq_k fun N8 hN8 => ?_
   refine LWP.region (l := [_,_]) ?_
   refine LWo.move (e_int x3) rfl (hn := ?_)
   refine LWo.assign (e_int x3) rfl (hn := ?_)
   refine LWo.nil (hN8 _ ?_)
   obtain rfl := Option.some.inj h
   refine LWP.ret (QG.mk (.inr rfl) (.cons (.tmp (x := (e_int x3)) rfl) (.nil)) (RetOK.one0 (.pure rfl) (by decide)) rfl rfl)

def m_laws_szEntryS_j1 (t1 : Int) : Option Int :=
  some t1
def m_laws_szEntryS_l1 : Nat → (List S_laws_Entry) → Int → Int → Option Int
  | 0, _, _, _ => none
  | n1 + 1, t0, t1, t5 =>
    bif decide (t5 < (t0.length : Int)) then ((at? t0 t5).bind fun x17 =>
    (m_laws_szEntry x17 t1).bind fun x18 =>
    bif decide (x18 < (0 : Int)) then (some (-1 : Int))
    else ((ckI (t5 + (1 : Int))).bind fun x22 =>
    (m_laws_szEntryS_l1  n1) t0 x18 x22))
    else (m_laws_szEntryS_j1  t1)
def m_laws_szEntryS (a0 : (List S_laws_Entry)) (a1 : Int) : Option Int :=
  (ckI (a1 - (a0.length : Int))).bind fun x3 =>
  bif decide (x3 < (0 : Int)) then (some (-1 : Int))
  else (m_laws_szEntryS_l1  (((a0.length : Int) - (0 : Int)).toNat + 1) a0 x3 (0 : Int))
theorem c_laws_szEntryS (a0 : (List S_laws_Entry)) (a1 : Int) (r : Int) (h : m_laws_szEntryS a0 a1 = some r) : Ret Try.prog f_laws_szEntryS [e_Llaws_Entry a0, e_int a1] (e_int r) := by
  refine Does.goG [] F_laws_szEntryS rfl e_laws_szEntryS n_laws_szEntryS rfl (rvs := [.tmp 4]) rfl rfl ?_
  intro w0 ok0 lent ρ0
  refine LWP.seq_k fun N1 hN1 => ?_
  refine LWP.region (l := [_]) ?_
  refine LWo.assign (e_int (0 : Int)) rfl (hn := ?_)
  refine LWo.nil (hN1 _ ?_)
  refine LWP.seq_k fun N2 hN2 => ?_
  refine LWP.region (l := [_,_,_,_,_]) ?_
  refine LWo.move (e_int a1) rfl (hn := ?_)
  refine LWo.move (e_Llaws_Entry a0) rfl (hn := ?_)
  refine LWo.lenM (f := e_laws_Entry) (l := a0) u_Llaws_Entry rfl (hn := ?_)
  refine bk h fun x3 e3 h => ?_
  refine LWo.int _ rfl rfl (sub_ck e3) (hn := ?_)
  refine LWo.assign (e_int x3) rfl (hn := ?_)
  refine LWo.nil (hN2 _ ?_)
  refine LWP.seq_k fun N4 hN4 => ?_
  refine LWP.seq_k fun N5 hN5 => ?_
  refine LWP.region (l := [_,_]) ?_
  refine LWo.move (e_int x3) rfl (hn := ?_)
  refine LWo.int _ rfl rfl rfl (hn := ?_)
  refine LWo.nil (hN5 _ ?_)
  refine LWP.cond_split rfl (fun h6 => ?_) (fun h6 => ?_)
  ·have h := bT h6 h
   refine LWP.seq_k fun N7 hN7 => ?_
   refine LWP.region (l := [_]) ?_
   refine LWo.assign (e_int (-1 : Int)) rfl (hn := ?_)
   refine LWo.nil (hN7 _ ?_)
   obtain rfl := Option.some.inj h
   refine LWP.ret (QG.mk (.inr rfl) (.cons (.tmp (x := (e_int (-1 : Int))) rfl) (.nil)) (RetOK.one0 (.pure rfl) (by decide)) rfl rfl)
  ·have h := bF h6 h
   refine LWP.skip (hN4 _ ?_)
   refine LWP.join (α := Int) (fun z : Int => [(1, (e_int z))]) (fun z : Int => []) (fun z : Int => m_laws_szEntryS_j1  z) r (fun _ => by simp [hkeys]) ?_ ?_
   ·rintro t1 h
    replace h : m_laws_szEntryS_j1  t1 = some _ := h
    refine LWP.seq_k fun N23 hN23 => ?_
    refine LWP.region (l := [_,_]) ?_
    refine LWo.move (e_int t1) rfl (hn := ?_)
    refine LWo.assign (e_int t1) rfl (hn := ?_)
    refine LWo.nil (hN23 _ ?_)
    obtain rfl := Option.some.inj h
    refine LWP.ret (QG.mk (.inr rfl) (.cons (.tmp (x := (e_int t1)) rfl) (.nil)) (RetOK.one0 (.pure rfl) (by decide)) rfl rfl)
   ·intro N8 hN8
    refine LWP.seq_k fun N9 hN9 => ?_
    refine LWP.region (l := [_]) ?_
    refine LWo.assign (e_int (0 : Int)) rfl (hn := ?_)
    refine LWo.nil (hN9 _ ?_)
    refine LWP.block ?_
    refine LWP.loopM (α := (List S_laws_Entry) × Int × Int) (fun z : (List S_laws_Entry) × Int × Int => [(0, (e_Llaws_Entry z.1)), (1, (e_int z.2.1)), (5, (e_int z.2.2))]) (fun z : (List S_laws_Entry) × Int × Int => []) (fun n1 (z : (List S_laws_Entry) × Int × Int) => m_laws_szEntryS_l1  n1 z.1 z.2.1 z.2.2) r _ (a0, x3, (0 : Int)) h (fun _ => rfl) (fun _ => by simp [hkeys]) ⟨rfl, rfl, rfl, trivial⟩ trivial ?_
    rintro n1 ⟨t0, t1, t5⟩ h N10 hN10
    replace h : m_laws_szEntryS_l1  (n1 + 1) t0 t1 t5 = some _ := h
    refine LWP.seq_k fun N12 hN12 => ?_
    refine LWP.seq_k fun N13 hN13 => ?_
    refine LWP.region (l := [_,_,_,_]) ?_
    refine LWo.move (e_int t5) rfl (hn := ?_)
    refine LWo.move (e_Llaws_Entry t0) rfl (hn := ?_)
    refine LWo.lenM (f := e_laws_Entry) (l := t0) u_Llaws_Entry rfl (hn := ?_)
    refine LWo.int _ rfl rfl rfl (hn := ?_)
    refine LWo.nil (hN13 _ ?_)
    refine LWP.cond_split rfl (fun h14 => ?_) (fun h14 => ?_)
    ·have h := bT h14 h
     refine LWP.skip (hN12 _ ?_)
     refine LWP.seq_k fun N15 hN15 => ?_
     refine LWP.block ?_
     refine LWP.seq_k fun N16 hN16 => ?_
     refine LWP.region (l := [_,_,_,_,_,_,_]) ?_
     refine LWo.move (e_Llaws_Entry t0) rfl (hn := ?_)
     refine LWo.move (e_int t5) rfl (hn := ?_)
     refine bk h fun x17 e17 h => ?_
     refine LWo.indexM (f := e_laws_Entry) e17 u_Llaws_Entry s_laws_Entry rfl rfl (hn := ?_)
     refine LWo.loadN ((e_laws_Entry x17)).cells g_laws_Entry s_laws_Entry rfl (Nat.le_of_ble_eq_true rfl) rfl (hn := ?_)
     refine LWo.move (e_int t1) rfl (hn := ?_)
     refine bk h fun x18 e18 h => ?_
     refine LWo.vcall rfl rfl (c_laws_szEntry _ _ _ e18) (.same (.same (.nil))) (hn := ?_)
     refine LWo.assign (e_int x18) rfl (hn := ?_)
     refine LWo.nil (hN16 _ ?_)
     refine LWP.seq_k fun N19 hN19 => ?_
     refine LWP.region (l := [_,_]) ?_
     refine LWo.move (e_int x18) rfl (hn := ?_)
     refine LWo.int _ rfl rfl rfl (hn := ?_)
     refine LWo.nil (hN19 _ ?_)
     refine LWP.cond_split rfl (fun h20 => ?_) (fun h20 => ?_)
     ·have h := bT h20 h
      refine LWP.seq_k fun N21 hN21 => ?_
      refine LWP.region (l := [_]) ?_
      refine LWo.assign (e_int (-1 : Int)) rfl (hn := ?_)
      refine LWo.nil (hN21 _ ?_)
      obtain rfl := Option.some.inj h
      refine LWP.ret (QG.mk (.inr rfl) (.cons (.tmp (x := (e_int (-1 : Int))) rfl) (.nil)) (RetOK.one0 (.pure rfl) (by decide)) rfl rfl)
     ·have h := bF h20 h
      refine LWP.skip (hN15 _ ?_)
      refine LWP.region (l := [_,_,_]) ?_
      refine LWo.move (e_int t5) rfl (hn := ?_)
      refine bk h fun x22 e22 h => ?_
      refine LWo.int _ rfl rfl (add_ck e22) (hn := ?_)
      refine LWo.assign (e_int x22) rfl (hn := ?_)
      refine LWo.nil (hN10 (t0, x18, x22) _ ⟨rfl, rfl, rfl, trivial⟩ trivial h)
    ·have h := bF h14 h
     refine LWP.exit (hN8 t1 _ ⟨rfl, trivial⟩ trivial h)

def m_laws_toValue (a0 : S_laws_Value) : Option S_impl_Value :=
  lt ({ (⟨(0 : Int), (0 : Int), (⟨#[]⟩ : ByteArray)⟩ : S_impl_Value) with Kind := a0.Kind }) fun y4 =>
  lt ({ y4 with N := a0.N }) fun y6 =>
  lt ({ y6 with S := a0.S }) fun y8 =>
  lt (y8) fun y10 =>
  some y10
theorem c_laws_toValue (a0 : S_laws_Value) (r : S_impl_Value) (h : m_laws_toValue a0 = some r) : Ret Try.prog f_laws_toValue [e_laws_Value a0] (e_impl_Value r) := by
  refine Does.goG [] F_laws_toValue rfl e_laws_toValue n_laws_toValue rfl (rvs := [.cell 2 t_impl_Value]) rfl rfl ?_
  intro w0 ok0 lent ρ0
  refine LWP.seq_k fun N1 hN1 => ?_
  refine LWP.region (l := [_,_]) ?_
  refine LWo.boxF (e_laws_Value a0) rfl rfl rfl (hn := ?_)
  refine LWo.alloc_impl_Value 2 rfl (hn := ?_)
  refine LWo.nil (hN1 _ ?_)
  refine LWP.seq_k fun N2 hN2 => ?_
  refine LWP.region (l := [_]) ?_
  refine LWo.alloc_impl_Value 3 rfl (hn := ?_)
  refine LWo.nil (hN2 _ ?_)
  refine LWP.seq_k fun N3 hN3 => ?_
  refine LWP.region (l := [_,_,_,_]) ?_
  refine LWo.fieldAddr _ u_laws_Value rfl s_int rfl rfl (hn := ?_)
  refine LWo.load1 (c := (e_int a0.Kind)) g_int rfl (hn := ?_)
  refine LWo.fieldPtr u_impl_Value rfl s_int rfl rfl (hn := ?_)
  refine lk h fun y4 e4 h => ?_
  refine LWo.storeW (y := (⟨(0 : Int), (0 : Int), (⟨#[]⟩ : ByteArray)⟩ : S_impl_Value)) y4 s_int rfl rfl rfl rfl rfl rfl (by rw [e4]; exact .refl) rfl (hn := ?_)
  refine LWo.nil (hN3 _ ?_)
  refine LWP.seq_k fun N5 hN5 => ?_
  refine LWP.region (l := [_,_,_,_]) ?_
  refine LWo.fieldAddr _ u_laws_Value rfl s_int rfl rfl (hn := ?_)
  refine LWo.load1 (c := (e_int a0.N)) g_int rfl (hn := ?_)
  refine LWo.fieldPtr u_impl_Value rfl s_int rfl rfl (hn := ?_)
  refine lk h fun y6 e6 h => ?_
  refine LWo.storeW (y := y4) y6 s_int rfl rfl rfl rfl rfl rfl (by rw [e6]; exact .refl) rfl (hn := ?_)
  refine LWo.nil (hN5 _ ?_)
  refine LWP.seq_k fun N7 hN7 => ?_
  refine LWP.region (l := [_,_,_,_]) ?_
  refine LWo.fieldAddr _ u_laws_Value rfl s_string rfl rfl (hn := ?_)
  refine LWo.load1 (c := (e_string a0.S)) g_string rfl (hn := ?_)
  refine LWo.fieldPtr u_impl_Value rfl s_string rfl rfl (hn := ?_)
  refine lk h fun y8 e8 h => ?_
  refine LWo.storeW (y := y6) y8 s_string rfl rfl rfl rfl rfl rfl (by rw [e8]; exact .refl) rfl (hn := ?_)
  refine LWo.nil (hN7 _ ?_)
  refine LWP.seq_k fun N9 hN9 => ?_
  refine LWP.region (l := [_,_]) ?_
  refine LWo.loadVN ((e_impl_Value y8)).cells  g_impl_Value s_impl_Value rfl rfl rfl rfl (hn := ?_)
  refine lk h fun y10 e10 h => ?_
  refine LWo.storeW (y := (⟨(0 : Int), (0 : Int), (⟨#[]⟩ : ByteArray)⟩ : S_impl_Value)) y10 s_impl_Value rfl rfl rfl rfl rfl rfl (by rw [e10]; exact .refl) rfl (hn := ?_)
  refine LWo.nil (hN9 _ ?_)
  obtain rfl := Option.some.inj h
  refine LWP.ret (QG.mk (.inr rfl) (.cons (.cellN (ys := (e_impl_Value y10).cells) g_impl_Value s_impl_Value rfl rfl rfl rfl rfl (fun _ _ => rfl)) (.nil)) (RetOK.one0 (.pure rfl) (by decide)) rfl rfl)

def m_laws_toValueS_j1 (o1007 : (List S_impl_Value)) : Option (List S_impl_Value) :=
  some o1007
def m_laws_toValueS_l1 : Nat → (List S_laws_Value) → Int → (List S_impl_Value) → Option (List S_impl_Value)
  | 0, _, _, _ => none
  | n1 + 1, t0, t4, o1007 =>
    bif decide (t4 < (t0.length : Int)) then ((at? t0 t4).bind fun x12 =>
    (m_laws_toValue x12).bind fun x13 =>
    (at? o1007 t4).bind fun x14 =>
    (at? o1007 t4).bind fun x15 =>
    lt (x13) fun y16 =>
    (ckI (t4 + (1 : Int))).bind fun x17 =>
    (m_laws_toValueS_l1  n1) t0 x17 (o1007.set (t4).toNat y16))
    else (m_laws_toValueS_j1  o1007)
def m_laws_toValueS (a0 : (List S_laws_Value)) : Option (List S_impl_Value) :=
  (mk2? (a0.length : Int) (a0.length : Int) ((⟨(0 : Int), (0 : Int), (⟨#[]⟩ : ByteArray)⟩ : S_impl_Value) : S_impl_Value)).bind fun x3 =>
  m_laws_toValueS_l1  (((a0.length : Int) - (0 : Int)).toNat + 1) a0 (0 : Int) x3
theorem c_laws_toValueS (a0 : (List S_laws_Value)) (r : (List S_impl_Value)) (h : m_laws_toValueS a0 = some r) : Ret Try.prog f_laws_toValueS [e_Llaws_Value a0] (.nw 3 (r.map e_impl_Value) false) := by
  refine Does.goG [] F_laws_toValueS rfl e_laws_toValueS n_laws_toValueS rfl (rvs := [.tmp 2]) rfl rfl ?_
  intro w0 ok0 lent ρ0
  refine LWP.seq_k fun N1 hN1 => ?_
  refine LWP.region (l := [_]) ?_
  refine LWo.assign _ rfl (hn := ?_)
  refine LWo.ownNil 2 1002 3 rfl rfl rfl ?_
  refine LWo.known 2 (.own 1002 0 ([] : (List S_impl_Value)).length) rfl ?_
  refine LWo.nil (hN1 _ ?_)
  refine LWP.seq_k fun N2 hN2 => ?_
  refine LWP.region (l := [_,_,_,_]) ?_
  refine LWo.move (e_Llaws_Value a0) rfl (hn := ?_)
  refine LWo.lenM (f := e_laws_Value) (l := a0) u_Llaws_Value rfl (hn := ?_)
  refine bk h fun x3 e3 h => ?_
  refine LWo.make_impl_Value 1007 e3 u_Limpl_Value i_impl_Value rfl rfl rfl (hn := ?_)
  refine LWo.assign (.own 1007 0 (x3).length) rfl (hn := ?_)
  refine LWo.nil (hN2 _ ?_)
  refine LWP.join (α := (List S_impl_Value)) (fun z : (List S_impl_Value) => [(3, (.own 1007 0 (z).length))]) (fun z : (List S_impl_Value) => [(1007, (lob 3 e_impl_Value z))]) (fun z : (List S_impl_Value) => m_laws_toValueS_j1  z) r (fun _ => by simp [hkeys]) ?_ ?_
  ·rintro o1007 h
   replace h : m_laws_toValueS_j1  o1007 = some _ := h
   refine LWP.seq_k fun N18 hN18 => ?_
   refine LWP.region (l := [_,_]) ?_
   refine LWo.move (.own 1007 0 (o1007).length) rfl (hn := ?_)
   refine LWo.assign (.own 1007 0 (o1007).length) rfl (hn := ?_)
   refine LWo.nil (hN18 _ ?_)
   obtain rfl := Option.some.inj h
   refine LWP.ret (QG.mk (.inr rfl) (.cons (.tmp (x := (.own 1007 0 (o1007).length)) rfl) (.nil)) (RetOK.one0 (.nwM rfl rfl) (by decide)) rfl rfl)
  ·intro N4 hN4
   refine LWP.seq_k fun N5 hN5 => ?_
   refine LWP.region (l := [_]) ?_
   refine LWo.assign (e_int (0 : Int)) rfl (hn := ?_)
   refine LWo.nil (hN5 _ ?_)
   refine LWP.block ?_
   refine LWP.loopM (α := (List S_laws_Value) × Int × (List S_impl_Value)) (fun z : (List S_laws_Value) × Int × (List S_impl_Value) => [(0, (e_Llaws_Value z.1)), (3, (.own 1007 0 (z.2.2).length)), (4, (e_int z.2.1))]) (fun z : (List S_laws_Value) × Int × (List S_impl_Value) => [(1007, (lob 3 e_impl_Value z.2.2))]) (fun n1 (z : (List S_laws_Value) × Int × (List S_impl_Value)) => m_laws_toValueS_l1  n1 z.1 z.2.1 z.2.2) r _ (a0, (0 : Int), x3) h (fun _ => rfl) (fun _ => by simp [hkeys]) ⟨rfl, rfl, rfl, trivial⟩ ⟨rfl, trivial⟩ ?_
   rintro n1 ⟨t0, t4, o1007⟩ h N6 hN6
   replace h : m_laws_toValueS_l1  (n1 + 1) t0 t4 o1007 = some _ := h
   refine LWP.seq_k fun N8 hN8 => ?_
   refine LWP.seq_k fun N9 hN9 => ?_
   refine LWP.region (l := [_,_,_,_]) ?_
   refine LWo.move (e_int t4) rfl (hn := ?_)
   refine LWo.move (e_Llaws_Value t0) rfl (hn := ?_)
   refine LWo.lenM (f := e_laws_Value) (l := t0) u_Llaws_Value rfl (hn := ?_)
   refine LWo.int _ rfl rfl rfl (hn := ?_)
   refine LWo.nil (hN9 _ ?_)
   refine LWP.cond_split rfl (fun h10 => ?_) (fun h10 => ?_)
   ·have h := bT h10 h
    refine LWP.skip (hN8 _ ?_)
    refine LWP.seq_k fun N11 hN11 => ?_
    refine LWP.block ?_
    refine LWP.region (l := [_,_,_,_,_,_,_,_,_]) ?_
    refine LWo.move (.own 1007 0 (o1007).length) rfl (hn := ?_)
    refine LWo.move (e_int t4) rfl (hn := ?_)
    refine LWo.move (e_Llaws_Value t0) rfl (hn := ?_)
    refine LWo.move (e_int t4) rfl (hn := ?_)
    refine bk h fun x12 e12 h => ?_
    refine LWo.indexM (f := e_laws_Value) e12 u_Llaws_Value s_laws_Value rfl rfl (hn := ?_)
    refine LWo.loadN ((e_laws_Value x12)).cells g_laws_Value s_laws_Value rfl (Nat.le_of_ble_eq_true rfl) rfl (hn := ?_)
    refine bk h fun x13 e13 h => ?_
    refine LWo.vcall rfl rfl (c_laws_toValue _ _ e13) (.same (.nil)) (hn := ?_)
    refine bk h fun x14 e14 h => ?_
    refine LWo.indexO e14 rfl u_Limpl_Value s_impl_Value rfl rfl rfl (hn := ?_)
    refine bk h fun x15 e15 h => ?_
    refine lk h fun y16 e16 h => ?_
    refine LWo.storeO y16 e15 s_impl_Value rfl rfl rfl rfl rfl rfl rfl (by rw [e16]; rfl) (hn := ?_)
    refine LWo.nil (hN11 _ ?_)
    refine LWP.region (l := [_,_,_]) ?_
    refine LWo.move (e_int t4) rfl (hn := ?_)
    refine bk h fun x17 e17 h => ?_
    refine LWo.int _ rfl rfl (add_ck e17) (hn := ?_)
    refine LWo.assign (e_int x17) rfl (hn := ?_)
    refine LWo.nil (hN6 (t0, x17, (o1007.set (t4).toNat y16)) _ ⟨rfl, (congrArg (LV.own 1007 0) List.length_set.symm), rfl, trivial⟩ ⟨rfl, trivial⟩ h)
   ·have h := bF h10 h
    refine LWP.exit (hN4 o1007 _ ⟨rfl, trivial⟩ ⟨rfl, trivial⟩ h)

def m_laws_toWrite (a0 : S_laws_Write) : Option S_impl_Write :=
  lt ({ (⟨(0 : Int), [], false⟩ : S_impl_Write) with Key := a0.Key }) fun y4 =>
  (m_laws_toValueS a0.Row).bind fun x6 =>
  lt ({ y4 with Gone := a0.Gone }) fun y8 =>
  lt (y8) fun y10 =>
  some ({ y10 with Row := x6 } : S_impl_Write)
theorem c_laws_toWrite (a0 : S_laws_Write) (r : S_impl_Write) (h : m_laws_toWrite a0 = some r) : Ret Try.prog f_laws_toWrite [e_laws_Write a0] (.dv (e_impl_Write r).cells) := by
  refine Does.goG [] F_laws_toWrite rfl e_laws_toWrite n_laws_toWrite rfl (rvs := [.cell 2 t_impl_Write]) rfl rfl ?_
  intro w0 ok0 lent ρ0
  refine LWP.seq_k fun N1 hN1 => ?_
  refine LWP.region (l := [_,_]) ?_
  refine LWo.boxF (e_laws_Write a0) rfl rfl rfl (hn := ?_)
  refine LWo.allocX_impl_Write [(1, .imm (.slice none 0 0))] 2 rfl rfl (hn := ?_)
  refine LWo.nilX 2 100101 1 3 [(1, .own 100101 0 (([] : (List S_impl_Value))).length)] rfl rfl rfl rfl rfl rfl ?_
  refine LWo.nil (hN1 _ ?_)
  refine LWP.seq_k fun N2 hN2 => ?_
  refine LWP.region (l := [_]) ?_
  refine LWo.allocX_impl_Write [(1, .imm (.slice none 0 0))] 3 rfl rfl (hn := ?_)
  refine LWo.nilX 3 100151 1 3 [(1, .own 100151 0 (([] : (List S_impl_Value))).length)] rfl rfl rfl rfl rfl rfl ?_
  refine LWo.nil (hN2 _ ?_)
  refine LWP.seq_k fun N3 hN3 => ?_
  refine LWP.region (l := [_,_,_,_]) ?_
  refine LWo.fieldAddr _ u_laws_Write rfl s_int rfl rfl (hn := ?_)
  refine LWo.load1 (c := (e_int a0.Key)) g_int rfl (hn := ?_)
  refine LWo.fieldPtr u_impl_Write rfl s_int rfl rfl (hn := ?_)
  refine lk h fun y4 e4 h => ?_
  refine LWo.storeX (f := e_impl_Write) (y := (⟨(0 : Int), [], false⟩ : S_impl_Write)) y4 [(1, .own 100151 0 (([] : (List S_impl_Value))).length)] s_int rfl rfl rfl rfl rfl rfl (by rw [e4]; rfl) (hn := ?_)
  refine LWo.nil (hN3 _ ?_)
  refine LWP.seq_k fun N5 hN5 => ?_
  refine LWP.region (l := [_,_,_,_,_]) ?_
  refine LWo.fieldAddr _ u_laws_Write rfl s_Llaws_Value rfl rfl (hn := ?_)
  refine LWo.load1 (c := (e_Llaws_Value a0.Row)) g_Llaws_Value rfl (hn := ?_)
  refine bk h fun x6 e6 h => ?_
  refine LWo.junkX 3 1 [(1, .junk)] rfl rfl rfl ?_
  refine LWo.ncall (e := e_impl_Value) 100151 rfl rfl (c_laws_toValueS _ _ e6) (.same (.nil)) rfl (hn := ?_)
  refine LWo.fieldPtr u_impl_Write rfl s_Limpl_Value rfl rfl (hn := ?_)
  refine LWo.storeX (f := e_impl_Write) (y := y4) y4 [(1, .own 100151 0 (x6).length)] s_Limpl_Value rfl rfl rfl rfl rfl rfl rfl (hn := ?_)
  refine LWo.nil (hN5 _ ?_)
  refine LWP.seq_k fun N7 hN7 => ?_
  refine LWP.region (l := [_,_,_,_]) ?_
  refine LWo.fieldAddr _ u_laws_Write rfl s_bool rfl rfl (hn := ?_)
  refine LWo.load1 (c := (e_bool a0.Gone)) g_bool rfl (hn := ?_)
  refine LWo.fieldPtr u_impl_Write rfl s_bool rfl rfl (hn := ?_)
  refine lk h fun y8 e8 h => ?_
  refine LWo.storeX (f := e_impl_Write) (y := y4) y8 [(1, .own 100151 0 (x6).length)] s_bool rfl rfl rfl rfl rfl rfl (by rw [e8]; rfl) (hn := ?_)
  refine LWo.nil (hN7 _ ?_)
  refine LWP.seq_k fun N9 hN9 => ?_
  refine LWP.region (l := [_,_]) ?_
  refine LWo.loadPtrN (ovr (e_impl_Write y8).cells [(1, .own 100151 0 (x6).length)]) g_impl_Write s_impl_Write rfl rfl rfl rfl rfl (fun _ _ => rfl) (hn := ?_)
  refine LWo.junkX 3 1 [(1, .junk)] rfl rfl rfl ?_
  refine lk h fun y10 e10 h => ?_
  refine LWo.storeX (f := e_impl_Write) (y := (⟨(0 : Int), [], false⟩ : S_impl_Write)) y10 [(1, .own 100151 0 (x6).length)] s_impl_Write rfl rfl rfl rfl rfl rfl (by rw [e10]; rfl) (hn := ?_)
  refine LWo.nil (hN9 _ ?_)
  obtain rfl := Option.some.inj h
  refine LWP.ret (QG.mk (.inr rfl) (.cons (.cellN (ys := (ovr (e_impl_Write y10).cells [(1, .own 100151 0 (x6).length)])) g_impl_Write s_impl_Write rfl rfl rfl rfl rfl (fun _ _ => rfl)) (.nil)) (RetOK.one0 (.dv (.cons (.imm _) (.cons (.own (obj := (lob 3 e_impl_Value x6)) rfl rfl (.inl ⟨rfl, immL_map (e := e_impl_Value) (fun _ => rfl) _⟩) (List.length_map _).symm) (.cons (.imm _) .nil)))) (by decide)) rfl rfl)

def m_laws_toWriteS_j1 (o1007 : (List S_impl_Write)) : Option (List S_impl_Write) :=
  some o1007
def m_laws_toWriteS_l1 : Nat → (List S_laws_Write) → Int → (List S_impl_Write) → Option (List S_impl_Write)
  | 0, _, _, _ => none
  | n1 + 1, t0, t4, o1007 =>
    bif decide (t4 < (t0.length : Int)) then ((at? t0 t4).bind fun x12 =>
    (m_laws_toWrite x12).bind fun x13 =>
    (at? o1007 t4).bind fun x14 =>
    (at? o1007 t4).bind fun x15 =>
    (ckI (t4 + (1 : Int))).bind fun x16 =>
    (m_laws_toWriteS_l1  n1) t0 x16 (o1007.set (t4).toNat ({ x13 with Row := x13.Row })))
    else (m_laws_toWriteS_j1  o1007)
def m_laws_toWriteS (a0 : (List S_laws_Write)) : Option (List S_impl_Write) :=
  (mk2? (a0.length : Int) (a0.length : Int) ((⟨(0 : Int), [], false⟩ : S_impl_Write) : S_impl_Write)).bind fun x3 =>
  m_laws_toWriteS_l1  (((a0.length : Int) - (0 : Int)).toNat + 1) a0 (0 : Int) x3
theorem c_laws_toWriteS (a0 : (List S_laws_Write)) (r : (List S_impl_Write)) (h : m_laws_toWriteS a0 = some r) : Ret Try.prog f_laws_toWriteS [e_Llaws_Write a0] (.nw 3 (r.map e_impl_Write) true) := by
  refine Does.goG [] F_laws_toWriteS rfl e_laws_toWriteS n_laws_toWriteS rfl (rvs := [.tmp 2]) rfl rfl ?_
  intro w0 ok0 lent ρ0
  refine LWP.seq_k fun N1 hN1 => ?_
  refine LWP.region (l := [_]) ?_
  refine LWo.assign _ rfl (hn := ?_)
  refine LWo.ownNil 2 1002 3 rfl rfl rfl ?_
  refine LWo.deep0 (sz := 3) e_impl_Write 1002 rfl ?_
  refine LWo.known 2 (.own 1002 0 ([] : (List S_impl_Write)).length) rfl ?_
  refine LWo.nil (hN1 _ ?_)
  refine LWP.seq_k fun N2 hN2 => ?_
  refine LWP.region (l := [_,_,_,_]) ?_
  refine LWo.move (e_Llaws_Write a0) rfl (hn := ?_)
  refine LWo.lenM (f := e_laws_Write) (l := a0) u_Llaws_Write rfl (hn := ?_)
  refine bk h fun x3 e3 h => ?_
  refine LWo.makeD_impl_Write 1007 e3 u_Limpl_Write i_impl_Write rfl rfl rfl (hn := ?_)
  refine LWo.assign (.own 1007 0 (x3).length) rfl (hn := ?_)
  refine LWo.nil (hN2 _ ?_)
  refine LWP.join (α := (List S_impl_Write)) (fun z : (List S_impl_Write) => [(3, (.own 1007 0 (z).length))]) (fun z : (List S_impl_Write) => [(1007, (dob 3 e_impl_Write z))]) (fun z : (List S_impl_Write) => m_laws_toWriteS_j1  z) r (fun _ => by simp [hkeys]) ?_ ?_
  ·rintro o1007 h
   replace h : m_laws_toWriteS_j1  o1007 = some _ := h
   refine LWP.seq_k fun N17 hN17 => ?_
   refine LWP.region (l := [_,_]) ?_
   refine LWo.move (.own 1007 0 (o1007).length) rfl (hn := ?_)
   refine LWo.assign (.own 1007 0 (o1007).length) rfl (hn := ?_)
   refine LWo.nil (hN17 _ ?_)
   obtain rfl := Option.some.inj h
   refine LWP.ret (QG.mk (.inr rfl) (.cons (.tmp (x := (.own 1007 0 (o1007).length)) rfl) (.nil)) (RetOK.one0 (.nwD rfl rfl) (by decide)) rfl rfl)
  ·intro N4 hN4
   refine LWP.seq_k fun N5 hN5 => ?_
   refine LWP.region (l := [_]) ?_
   refine LWo.assign (e_int (0 : Int)) rfl (hn := ?_)
   refine LWo.nil (hN5 _ ?_)
   refine LWP.block ?_
   refine LWP.loopM (α := (List S_laws_Write) × Int × (List S_impl_Write)) (fun z : (List S_laws_Write) × Int × (List S_impl_Write) => [(0, (e_Llaws_Write z.1)), (3, (.own 1007 0 (z.2.2).length)), (4, (e_int z.2.1))]) (fun z : (List S_laws_Write) × Int × (List S_impl_Write) => [(1007, (dob 3 e_impl_Write z.2.2))]) (fun n1 (z : (List S_laws_Write) × Int × (List S_impl_Write)) => m_laws_toWriteS_l1  n1 z.1 z.2.1 z.2.2) r _ (a0, (0 : Int), x3) h (fun _ => rfl) (fun _ => by simp [hkeys]) ⟨rfl, rfl, rfl, trivial⟩ ⟨rfl, trivial⟩ ?_
   rintro n1 ⟨t0, t4, o1007⟩ h N6 hN6
   replace h : m_laws_toWriteS_l1  (n1 + 1) t0 t4 o1007 = some _ := h
   refine LWP.seq_k fun N8 hN8 => ?_
   refine LWP.seq_k fun N9 hN9 => ?_
   refine LWP.region (l := [_,_,_,_]) ?_
   refine LWo.move (e_int t4) rfl (hn := ?_)
   refine LWo.move (e_Llaws_Write t0) rfl (hn := ?_)
   refine LWo.lenM (f := e_laws_Write) (l := t0) u_Llaws_Write rfl (hn := ?_)
   refine LWo.int _ rfl rfl rfl (hn := ?_)
   refine LWo.nil (hN9 _ ?_)
   refine LWP.cond_split rfl (fun h10 => ?_) (fun h10 => ?_)
   ·have h := bT h10 h
    refine LWP.skip (hN8 _ ?_)
    refine LWP.seq_k fun N11 hN11 => ?_
    refine LWP.block ?_
    refine LWP.region (l := [_,_,_,_,_,_,_,_,_]) ?_
    refine LWo.move (.own 1007 0 (o1007).length) rfl (hn := ?_)
    refine LWo.move (e_int t4) rfl (hn := ?_)
    refine LWo.move (e_Llaws_Write t0) rfl (hn := ?_)
    refine LWo.move (e_int t4) rfl (hn := ?_)
    refine bk h fun x12 e12 h => ?_
    refine LWo.indexM (f := e_laws_Write) e12 u_Llaws_Write s_laws_Write rfl rfl (hn := ?_)
    refine LWo.loadN ((e_laws_Write x12)).cells g_laws_Write s_laws_Write rfl (Nat.le_of_ble_eq_true rfl) rfl (hn := ?_)
    refine bk h fun x13 e13 h => ?_
    refine LWo.scall (e := e_impl_Write) (e2 := e_impl_Value) (y := x13) (ys := x13.Row) 1020 1 .fro rfl rfl (c_laws_toWrite _ _ e13) (.same (.nil)) rfl rfl rfl (.inr ⟨rfl, immL_map (fun _ => rfl) _⟩) rfl (hn := ?_)
    refine bk h fun x14 e14 h => ?_
    refine LWo.indexD e14 rfl u_Limpl_Write s_impl_Write rfl rfl rfl (hn := ?_)
    refine bk h fun x15 e15 h => ?_
    refine LWo.storeDM (ks := [1020]) (f := e_impl_Write) ({ x13 with Row := x13.Row } : S_impl_Write) e15 s_impl_Write rfl rfl rfl rfl (.cons (.imm _) (.cons (.own (obj := (lob 3 e_impl_Value x13.Row)) rfl rfl (.inl ⟨rfl, immL_map (e := e_impl_Value) (fun _ => rfl) _⟩) (List.length_map _).symm) (.cons (.imm _) .nil))) (by decide) rfl rfl rfl (hn := ?_)
    refine LWo.nil (hN11 _ ?_)
    refine LWP.region (l := [_,_,_]) ?_
    refine LWo.move (e_int t4) rfl (hn := ?_)
    refine bk h fun x16 e16 h => ?_
    refine LWo.int _ rfl rfl (add_ck e16) (hn := ?_)
    refine LWo.assign (e_int x16) rfl (hn := ?_)
    refine LWo.nil (hN6 (t0, x16, (o1007.set (t4).toNat ({ x13 with Row := x13.Row }))) _ ⟨rfl, (congrArg (LV.own 1007 0) List.length_set.symm), rfl, trivial⟩ ⟨rfl, trivial⟩ h)
   ·have h := bF h10 h
    refine LWP.exit (hN4 o1007 _ ⟨rfl, trivial⟩ ⟨rfl, trivial⟩ h)

def m_laws_toEntry (a0 : S_laws_Entry) : Option S_impl_Entry :=
  lt ({ (⟨(0 : Int), []⟩ : S_impl_Entry) with Time := a0.Time }) fun y4 =>
  (m_laws_toWriteS a0.Writes).bind fun x6 =>
  lt (y4) fun y8 =>
  some ({ y8 with Writes := x6 } : S_impl_Entry)
theorem c_laws_toEntry (a0 : S_laws_Entry) (r : S_impl_Entry) (h : m_laws_toEntry a0 = some r) : Ret Try.prog f_laws_toEntry [e_laws_Entry a0] (.dv (e_impl_Entry r).cells) := by
  refine Does.goG [] F_laws_toEntry rfl e_laws_toEntry n_laws_toEntry rfl (rvs := [.cell 2 t_impl_Entry]) rfl rfl ?_
  intro w0 ok0 lent ρ0
  refine LWP.seq_k fun N1 hN1 => ?_
  refine LWP.region (l := [_,_]) ?_
  refine LWo.boxF (e_laws_Entry a0) rfl rfl rfl (hn := ?_)
  refine LWo.allocX_impl_Entry [(1, .imm (.slice none 0 0))] 2 rfl rfl (hn := ?_)
  refine LWo.nilX 2 100101 1 3 [(1, .own 100101 0 (([] : (List S_impl_Write))).length)] rfl rfl rfl rfl rfl rfl ?_
  refine LWo.nil (hN1 _ ?_)
  refine LWP.seq_k fun N2 hN2 => ?_
  refine LWP.region (l := [_]) ?_
  refine LWo.allocX_impl_Entry [(1, .imm (.slice none 0 0))] 3 rfl rfl (hn := ?_)
  refine LWo.nilX 3 100151 1 3 [(1, .own 100151 0 (([] : (List S_impl_Write))).length)] rfl rfl rfl rfl rfl rfl ?_
  refine LWo.nil (hN2 _ ?_)
  refine LWP.seq_k fun N3 hN3 => ?_
  refine LWP.region (l := [_,_,_,_]) ?_
  refine LWo.fieldAddr _ u_laws_Entry rfl s_int rfl rfl (hn := ?_)
  refine LWo.load1 (c := (e_int a0.Time)) g_int rfl (hn := ?_)
  refine LWo.fieldPtr u_impl_Entry rfl s_int rfl rfl (hn := ?_)
  refine lk h fun y4 e4 h => ?_
  refine LWo.storeX (f := e_impl_Entry) (y := (⟨(0 : Int), []⟩ : S_impl_Entry)) y4 [(1, .own 100151 0 (([] : (List S_impl_Write))).length)] s_int rfl rfl rfl rfl rfl rfl (by rw [e4]; rfl) (hn := ?_)
  refine LWo.nil (hN3 _ ?_)
  refine LWP.seq_k fun N5 hN5 => ?_
  refine LWP.region (l := [_,_,_,_,_]) ?_
  refine LWo.fieldAddr _ u_laws_Entry rfl s_Llaws_Write rfl rfl (hn := ?_)
  refine LWo.load1 (c := (e_Llaws_Write a0.Writes)) g_Llaws_Write rfl (hn := ?_)
  refine bk h fun x6 e6 h => ?_
  refine LWo.junkX 3 1 [(1, .junk)] rfl rfl rfl ?_
  refine LWo.ncallD (e := e_impl_Write) 100151 rfl rfl (c_laws_toWriteS _ _ e6) (.same (.nil)) rfl (hn := ?_)
  refine LWo.fieldPtr u_impl_Entry rfl s_Limpl_Write rfl rfl (hn := ?_)
  refine LWo.storeX (f := e_impl_Entry) (y := y4) y4 [(1, .own 100151 0 (x6).length)] s_Limpl_Write rfl rfl rfl rfl rfl rfl rfl (hn := ?_)
  refine LWo.nil (hN5 _ ?_)
  refine LWP.seq_k fun N7 hN7 => ?_
  refine LWP.region (l := [_,_]) ?_
  refine LWo.loadPtrN (ovr (e_impl_Entry y4).cells [(1, .own 100151 0 (x6).length)]) g_impl_Entry s_impl_Entry rfl rfl rfl rfl rfl (fun _ _ => rfl) (hn := ?_)
  refine LWo.junkX 3 1 [(1, .junk)] rfl rfl rfl ?_
  refine lk h fun y8 e8 h => ?_
  refine LWo.storeX (f := e_impl_Entry) (y := (⟨(0 : Int), []⟩ : S_impl_Entry)) y8 [(1, .own 100151 0 (x6).length)] s_impl_Entry rfl rfl rfl rfl rfl rfl (by rw [e8]; rfl) (hn := ?_)
  refine LWo.nil (hN7 _ ?_)
  obtain rfl := Option.some.inj h
  refine LWP.ret (QG.mk (.inr rfl) (.cons (.cellN (ys := (ovr (e_impl_Entry y8).cells [(1, .own 100151 0 (x6).length)])) g_impl_Entry s_impl_Entry rfl rfl rfl rfl rfl (fun _ _ => rfl)) (.nil)) (RetOK.one0 (.dv (.cons (.imm _) (.cons (.own (obj := (dob 3 e_impl_Write x6)) rfl rfl (.inr rfl) (List.length_map _).symm) .nil))) (by decide)) rfl rfl)

def m_laws_toEntryS_j1 (o1007 : (List S_impl_Entry)) : Option (List S_impl_Entry) :=
  some o1007
def m_laws_toEntryS_l1 : Nat → (List S_laws_Entry) → Int → (List S_impl_Entry) → Option (List S_impl_Entry)
  | 0, _, _, _ => none
  | n1 + 1, t0, t4, o1007 =>
    bif decide (t4 < (t0.length : Int)) then ((at? t0 t4).bind fun x12 =>
    (m_laws_toEntry x12).bind fun x13 =>
    (at? o1007 t4).bind fun x14 =>
    (at? o1007 t4).bind fun x15 =>
    (ckI (t4 + (1 : Int))).bind fun x16 =>
    (m_laws_toEntryS_l1  n1) t0 x16 (o1007.set (t4).toNat ({ x13 with Writes := x13.Writes })))
    else (m_laws_toEntryS_j1  o1007)
def m_laws_toEntryS (a0 : (List S_laws_Entry)) : Option (List S_impl_Entry) :=
  (mk2? (a0.length : Int) (a0.length : Int) ((⟨(0 : Int), []⟩ : S_impl_Entry) : S_impl_Entry)).bind fun x3 =>
  m_laws_toEntryS_l1  (((a0.length : Int) - (0 : Int)).toNat + 1) a0 (0 : Int) x3
theorem c_laws_toEntryS (a0 : (List S_laws_Entry)) (r : (List S_impl_Entry)) (h : m_laws_toEntryS a0 = some r) : Ret Try.prog f_laws_toEntryS [e_Llaws_Entry a0] (.nw 2 (r.map e_impl_Entry) true) := by
  refine Does.goG [] F_laws_toEntryS rfl e_laws_toEntryS n_laws_toEntryS rfl (rvs := [.tmp 2]) rfl rfl ?_
  intro w0 ok0 lent ρ0
  refine LWP.seq_k fun N1 hN1 => ?_
  refine LWP.region (l := [_]) ?_
  refine LWo.assign _ rfl (hn := ?_)
  refine LWo.ownNil 2 1002 2 rfl rfl rfl ?_
  refine LWo.deep0 (sz := 2) e_impl_Entry 1002 rfl ?_
  refine LWo.known 2 (.own 1002 0 ([] : (List S_impl_Entry)).length) rfl ?_
  refine LWo.nil (hN1 _ ?_)
  refine LWP.seq_k fun N2 hN2 => ?_
  refine LWP.region (l := [_,_,_,_]) ?_
  refine LWo.move (e_Llaws_Entry a0) rfl (hn := ?_)
  refine LWo.lenM (f := e_laws_Entry) (l := a0) u_Llaws_Entry rfl (hn := ?_)
  refine bk h fun x3 e3 h => ?_
  refine LWo.makeD_impl_Entry 1007 e3 u_Limpl_Entry i_impl_Entry rfl rfl rfl (hn := ?_)
  refine LWo.assign (.own 1007 0 (x3).length) rfl (hn := ?_)
  refine LWo.nil (hN2 _ ?_)
  refine LWP.join (α := (List S_impl_Entry)) (fun z : (List S_impl_Entry) => [(3, (.own 1007 0 (z).length))]) (fun z : (List S_impl_Entry) => [(1007, (dob 2 e_impl_Entry z))]) (fun z : (List S_impl_Entry) => m_laws_toEntryS_j1  z) r (fun _ => by simp [hkeys]) ?_ ?_
  ·rintro o1007 h
   replace h : m_laws_toEntryS_j1  o1007 = some _ := h
   refine LWP.seq_k fun N17 hN17 => ?_
   refine LWP.region (l := [_,_]) ?_
   refine LWo.move (.own 1007 0 (o1007).length) rfl (hn := ?_)
   refine LWo.assign (.own 1007 0 (o1007).length) rfl (hn := ?_)
   refine LWo.nil (hN17 _ ?_)
   obtain rfl := Option.some.inj h
   refine LWP.ret (QG.mk (.inr rfl) (.cons (.tmp (x := (.own 1007 0 (o1007).length)) rfl) (.nil)) (RetOK.one0 (.nwD rfl rfl) (by decide)) rfl rfl)
  ·intro N4 hN4
   refine LWP.seq_k fun N5 hN5 => ?_
   refine LWP.region (l := [_]) ?_
   refine LWo.assign (e_int (0 : Int)) rfl (hn := ?_)
   refine LWo.nil (hN5 _ ?_)
   refine LWP.block ?_
   refine LWP.loopM (α := (List S_laws_Entry) × Int × (List S_impl_Entry)) (fun z : (List S_laws_Entry) × Int × (List S_impl_Entry) => [(0, (e_Llaws_Entry z.1)), (3, (.own 1007 0 (z.2.2).length)), (4, (e_int z.2.1))]) (fun z : (List S_laws_Entry) × Int × (List S_impl_Entry) => [(1007, (dob 2 e_impl_Entry z.2.2))]) (fun n1 (z : (List S_laws_Entry) × Int × (List S_impl_Entry)) => m_laws_toEntryS_l1  n1 z.1 z.2.1 z.2.2) r _ (a0, (0 : Int), x3) h (fun _ => rfl) (fun _ => by simp [hkeys]) ⟨rfl, rfl, rfl, trivial⟩ ⟨rfl, trivial⟩ ?_
   rintro n1 ⟨t0, t4, o1007⟩ h N6 hN6
   replace h : m_laws_toEntryS_l1  (n1 + 1) t0 t4 o1007 = some _ := h
   refine LWP.seq_k fun N8 hN8 => ?_
   refine LWP.seq_k fun N9 hN9 => ?_
   refine LWP.region (l := [_,_,_,_]) ?_
   refine LWo.move (e_int t4) rfl (hn := ?_)
   refine LWo.move (e_Llaws_Entry t0) rfl (hn := ?_)
   refine LWo.lenM (f := e_laws_Entry) (l := t0) u_Llaws_Entry rfl (hn := ?_)
   refine LWo.int _ rfl rfl rfl (hn := ?_)
   refine LWo.nil (hN9 _ ?_)
   refine LWP.cond_split rfl (fun h10 => ?_) (fun h10 => ?_)
   ·have h := bT h10 h
    refine LWP.skip (hN8 _ ?_)
    refine LWP.seq_k fun N11 hN11 => ?_
    refine LWP.block ?_
    refine LWP.region (l := [_,_,_,_,_,_,_,_,_]) ?_
    refine LWo.move (.own 1007 0 (o1007).length) rfl (hn := ?_)
    refine LWo.move (e_int t4) rfl (hn := ?_)
    refine LWo.move (e_Llaws_Entry t0) rfl (hn := ?_)
    refine LWo.move (e_int t4) rfl (hn := ?_)
    refine bk h fun x12 e12 h => ?_
    refine LWo.indexM (f := e_laws_Entry) e12 u_Llaws_Entry s_laws_Entry rfl rfl (hn := ?_)
    refine LWo.loadN ((e_laws_Entry x12)).cells g_laws_Entry s_laws_Entry rfl (Nat.le_of_ble_eq_true rfl) rfl (hn := ?_)
    refine bk h fun x13 e13 h => ?_
    refine LWo.scall (e := e_impl_Entry) (e2 := e_impl_Write) (y := x13) (ys := x13.Writes) 1020 1 .deep rfl rfl (c_laws_toEntry _ _ e13) (.same (.nil)) rfl rfl rfl (.inl rfl) rfl (hn := ?_)
    refine bk h fun x14 e14 h => ?_
    refine LWo.indexD e14 rfl u_Limpl_Entry s_impl_Entry rfl rfl rfl (hn := ?_)
    refine bk h fun x15 e15 h => ?_
    refine LWo.storeDM (ks := [1020]) (f := e_impl_Entry) ({ x13 with Writes := x13.Writes } : S_impl_Entry) e15 s_impl_Entry rfl rfl rfl rfl (.cons (.imm _) (.cons (.own (obj := (dob 3 e_impl_Write x13.Writes)) rfl rfl (.inr rfl) (List.length_map _).symm) .nil)) (by decide) rfl rfl rfl (hn := ?_)
    refine LWo.nil (hN11 _ ?_)
    refine LWP.region (l := [_,_,_]) ?_
    refine LWo.move (e_int t4) rfl (hn := ?_)
    refine bk h fun x16 e16 h => ?_
    refine LWo.int _ rfl rfl (add_ck e16) (hn := ?_)
    refine LWo.assign (e_int x16) rfl (hn := ?_)
    refine LWo.nil (hN6 (t0, x16, (o1007.set (t4).toNat ({ x13 with Writes := x13.Writes }))) _ ⟨rfl, (congrArg (LV.own 1007 0) List.length_set.symm), rfl, trivial⟩ ⟨rfl, trivial⟩ h)
   ·have h := bF h10 h
    refine LWP.exit (hN4 o1007 _ ⟨rfl, trivial⟩ ⟨rfl, trivial⟩ h)

def m_spec_l1In_j1 (t6 : Bool) : Option Bool :=
  some t6
def m_spec_l1In (a0 : Int) (a1 : Int) (a2 : Int) : Option Bool :=
  bif decide (a0 ≥ a1) then (m_spec_l1In_j1  (decide (a0 ≤ a2)))
  else (m_spec_l1In_j1  false)
theorem c_spec_l1In (a0 : Int) (a1 : Int) (a2 : Int) (r : Bool) (h : m_spec_l1In a0 a1 a2 = some r) : Ret Try.prog f_spec_l1In [e_int a0, e_int a1, e_int a2] (e_bool r) := by
  refine Does.goG [] F_spec_l1In rfl e_spec_l1In n_spec_l1In rfl (rvs := [.tmp 6]) rfl rfl ?_
  intro w0 ok0 lent ρ0
  refine LWP.seq_k fun N1 hN1 => ?_
  refine LWP.region (l := [_]) ?_
  refine LWo.assign (e_bool false) rfl (hn := ?_)
  refine LWo.nil (hN1 _ ?_)
  refine LWP.join (α := Bool) (fun z : Bool => [(6, (e_bool z))]) (fun z : Bool => []) (fun z : Bool => m_spec_l1In_j1  z) r (fun _ => by simp [hkeys]) ?_ ?_
  ·rintro t6 h
   replace h : m_spec_l1In_j1  t6 = some _ := h
   obtain rfl := Option.some.inj h
   refine LWP.ret (QG.mk (.inr rfl) (.cons (.tmp (x := (e_bool t6)) rfl) (.nil)) (RetOK.one0 (.pure rfl) (by decide)) rfl rfl)
  ·intro N2 hN2
   refine LWP.region (l := [_,_,_,_,_,_,_,_,_]) ?_
   refine LWo.move (e_int a0) rfl (hn := ?_)
   refine LWo.move (e_int a1) rfl (hn := ?_)
   refine LWo.int _ rfl rfl rfl (hn := ?_)
   refine LWo.move (e_bool (decide (a0 ≥ a1))) rfl (hn := ?_)
   refine LWo.byCases (t := 10) _ rfl (fun h3 => ?_) (fun h3 => ?_)
   ·have h := bT h3 h
    refine LWo.guardY (t := 10) rfl h3 rfl rfl ?_
    refine LWo.move (e_int a0) rfl (hn := ?_)
    refine LWo.guardY (t := 10) rfl h3 rfl rfl ?_
    refine LWo.move (e_int a2) rfl (hn := ?_)
    refine LWo.guardY (t := 10) rfl h3 rfl rfl ?_
    refine LWo.int _ rfl rfl rfl (hn := ?_)
    refine LWo.pickTM (e_bool (decide (a0 ≤ a2))) rfl h3 rfl (hn := ?_)
    refine LWo.assign (e_bool (decide (a0 ≤ a2))) rfl (hn := ?_)
    refine LWo.nil (hN2 (decide (a0 ≤ a2)) _ ⟨rfl, trivial⟩ trivial h)
   ·have h := bF h3 h
    refine LWo.guardNU (t := 10) rfl h3 rfl rfl rfl rfl rfl ?_
    refine LWo.guardNU (t := 10) rfl h3 rfl rfl rfl rfl rfl ?_
    refine LWo.guardNU (t := 10) rfl h3 rfl rfl rfl rfl rfl ?_
    refine LWo.pickFM (e_bool false) rfl h3 rfl (hn := ?_)
    refine LWo.assign (e_bool false) rfl (hn := ?_)
    refine LWo.nil (hN2 false _ ⟨rfl, trivial⟩ trivial h)

def m_spec_l1Text_j2 (t0 : ByteArray) : Option Bool :=
  some (decide ((t0.size : Int) ≤ (6 : Int)))
def m_spec_l1Text_j1 (k1 : ByteArray → Int → Option Bool) (t0 : ByteArray) (t3 : Int) (t19 : Bool) : Option Bool :=
  bif t19 then (some false)
  else ((ckI (t3 + (1 : Int))).bind fun x16 =>
  k1 t0 x16)
def m_spec_l1Text_l1 : Nat → ByteArray → Int → Option Bool
  | 0, _, _ => none
  | n1 + 1, t0, t3 =>
    bif decide (t3 < (t0.size : Int)) then ((sAt? t0 t3).bind fun x11 =>
    bif decide ((x11.toNat : Int) < ((97 : UInt8).toNat : Int)) then (m_spec_l1Text_j1  (m_spec_l1Text_l1  n1) t0 t3 true)
    else ((sAt? t0 t3).bind fun x13 =>
      m_spec_l1Text_j1  (m_spec_l1Text_l1  n1) t0 t3 (decide ((x13.toNat : Int) > ((122 : UInt8).toNat : Int)))))
    else (m_spec_l1Text_j2  t0)
def m_spec_l1Text (a0 : ByteArray) : Option Bool :=
  m_spec_l1Text_l1  (((a0.size : Int) - (0 : Int)).toNat + 1) a0 (0 : Int)
theorem c_spec_l1Text (a0 : ByteArray) (r : Bool) (h : m_spec_l1Text a0 = some r) : Ret Try.prog f_spec_l1Text [e_string a0] (e_bool r) := by
  refine Does.goG [] F_spec_l1Text rfl e_spec_l1Text n_spec_l1Text rfl (rvs := [.tmp 2]) rfl rfl ?_
  intro w0 ok0 lent ρ0
  refine LWP.seq_k fun N1 hN1 => ?_
  refine LWP.region (l := [_]) ?_
  refine LWo.assign (e_bool false) rfl (hn := ?_)
  refine LWo.nil (hN1 _ ?_)
  refine LWP.join (α := ByteArray) (fun z : ByteArray => [(0, (e_string z))]) (fun z : ByteArray => []) (fun z : ByteArray => m_spec_l1Text_j2  z) r (fun _ => by simp [hkeys]) ?_ ?_
  ·rintro t0 h
   replace h : m_spec_l1Text_j2  t0 = some _ := h
   refine LWP.seq_k fun N17 hN17 => ?_
   refine LWP.region (l := [_,_,_,_]) ?_
   refine LWo.move (e_string t0) rfl (hn := ?_)
   refine LWo.lenS u_string rfl (hn := ?_)
   refine LWo.int _ rfl rfl rfl (hn := ?_)
   refine LWo.assign (e_bool (decide ((t0.size : Int) ≤ (6 : Int)))) rfl (hn := ?_)
   refine LWo.nil (hN17 _ ?_)
   obtain rfl := Option.some.inj h
   refine LWP.ret (QG.mk (.inr rfl) (.cons (.tmp (x := (e_bool (decide ((t0.size : Int) ≤ (6 : Int))))) rfl) (.nil)) (RetOK.one0 (.pure rfl) (by decide)) rfl rfl)
  ·intro N2 hN2
   refine LWP.seq_k fun N3 hN3 => ?_
   refine LWP.region (l := [_]) ?_
   refine LWo.assign (e_int (0 : Int)) rfl (hn := ?_)
   refine LWo.nil (hN3 _ ?_)
   refine LWP.block ?_
   refine LWP.loopM (α := ByteArray × Int) (fun z : ByteArray × Int => [(0, (e_string z.1)), (3, (e_int z.2))]) (fun z : ByteArray × Int => []) (fun n1 (z : ByteArray × Int) => m_spec_l1Text_l1  n1 z.1 z.2) r _ (a0, (0 : Int)) h (fun _ => rfl) (fun _ => by simp [hkeys]) ⟨rfl, rfl, trivial⟩ trivial ?_
   rintro n1 ⟨t0, t3⟩ h N4 hN4
   replace h : m_spec_l1Text_l1  (n1 + 1) t0 t3 = some _ := h
   refine LWP.seq_k fun N6 hN6 => ?_
   refine LWP.seq_k fun N7 hN7 => ?_
   refine LWP.region (l := [_,_,_,_]) ?_
   refine LWo.move (e_int t3) rfl (hn := ?_)
   refine LWo.move (e_string t0) rfl (hn := ?_)
   refine LWo.lenS u_string rfl (hn := ?_)
   refine LWo.int _ rfl rfl rfl (hn := ?_)
   refine LWo.nil (hN7 _ ?_)
   refine LWP.cond_split rfl (fun h8 => ?_) (fun h8 => ?_)
   ·have h := bT h8 h
    refine LWP.skip (hN6 _ ?_)
    refine LWP.seq_k fun N9 hN9 => ?_
    refine LWP.block ?_
    refine LWP.join (α := ByteArray × Int × Bool) (fun z : ByteArray × Int × Bool => [(0, (e_string z.1)), (3, (e_int z.2.1)), (19, (e_bool z.2.2))]) (fun z : ByteArray × Int × Bool => []) (fun z : ByteArray × Int × Bool => m_spec_l1Text_j1  (m_spec_l1Text_l1  n1) z.1 z.2.1 z.2.2) r (fun _ => by simp [hkeys]) ?_ ?_
    ·rintro ⟨t0, t3, t19⟩ h
     replace h : m_spec_l1Text_j1  (m_spec_l1Text_l1  n1) t0 t3 t19 = some _ := h
     refine LWP.cond_split rfl (fun h14 => ?_) (fun h14 => ?_)
     ·have h := bT h14 h
      refine LWP.seq_k fun N15 hN15 => ?_
      refine LWP.region (l := [_]) ?_
      refine LWo.assign (e_bool false) rfl (hn := ?_)
      refine LWo.nil (hN15 _ ?_)
      obtain rfl := Option.some.inj h
      refine LWP.ret (QG.mk (.inr rfl) (.cons (.tmp (x := (e_bool false)) rfl) (.nil)) (RetOK.one0 (.pure rfl) (by decide)) rfl rfl)
     ·have h := bF h14 h
      refine LWP.skip (hN9 _ ?_)
      refine LWP.region (l := [_,_,_]) ?_
      refine LWo.move (e_int t3) rfl (hn := ?_)
      refine bk h fun x16 e16 h => ?_
      refine LWo.int _ rfl rfl (add_ck e16) (hn := ?_)
      refine LWo.assign (e_int x16) rfl (hn := ?_)
      refine LWo.nil (hN4 (t0, x16) _ ⟨rfl, rfl, trivial⟩ trivial h)
    ·intro N10 hN10
     refine LWP.region (l := [_,_,_,_,_,_,_,_,_,_]) ?_
     refine LWo.move (e_string t0) rfl (hn := ?_)
     refine LWo.move (e_int t3) rfl (hn := ?_)
     refine bk h fun x11 e11 h => ?_
     refine LWo.indexStr u_string rfl rfl (sAt_0 e11) (sAt_g e11) (hn := ?_)
     refine LWo.int _ rfl rfl rfl (hn := ?_)
     refine LWo.move (e_bool (decide ((x11.toNat : Int) < ((97 : UInt8).toNat : Int)))) rfl (hn := ?_)
     refine LWo.byCases (t := 14) _ rfl (fun h12 => ?_) (fun h12 => ?_)
     ·have h := bT h12 h
      refine LWo.guardNU (t := 14) rfl h12 rfl rfl rfl rfl rfl ?_
      refine LWo.guardNU (t := 14) rfl h12 rfl rfl rfl rfl rfl ?_
      refine LWo.guardNU (t := 14) rfl h12 rfl rfl rfl rfl rfl ?_
      refine LWo.guardNU (t := 14) rfl h12 rfl rfl rfl rfl rfl ?_
      refine LWo.pickTM (e_bool true) rfl h12 rfl (hn := ?_)
      refine LWo.nil (hN10 (t0, t3, true) _ ⟨rfl, rfl, rfl, trivial⟩ trivial h)
     ·have h := bF h12 h
      refine LWo.guardY (t := 14) rfl h12 rfl rfl ?_
      refine LWo.move (e_string t0) rfl (hn := ?_)
      refine LWo.guardY (t := 14) rfl h12 rfl rfl ?_
      refine LWo.move (e_int t3) rfl (hn := ?_)
      refine bk h fun x13 e13 h => ?_
      refine LWo.guardY (t := 14) rfl h12 rfl rfl ?_
      refine LWo.indexStr u_string rfl rfl (sAt_0 e13) (sAt_g e13) (hn := ?_)
      refine LWo.guardY (t := 14) rfl h12 rfl rfl ?_
      refine LWo.int _ rfl rfl rfl (hn := ?_)
      refine LWo.pickFM (e_bool (decide ((x13.toNat : Int) > ((122 : UInt8).toNat : Int)))) rfl h12 rfl (hn := ?_)
      refine LWo.nil (hN10 (t0, t3, decide ((x13.toNat : Int) > ((122 : UInt8).toNat : Int))) _ ⟨rfl, rfl, rfl, trivial⟩ trivial h)
   ·have h := bF h8 h
    refine LWP.exit (hN2 t0 _ ⟨rfl, trivial⟩ trivial h)

def m_spec_ValueOk_j1 (t2 : Bool) : Option Bool :=
  some t2
def m_spec_ValueOk_j2 (t2 : Bool) : Option Bool :=
  some t2
def m_spec_ValueOk_j3 (t2 : Bool) : Option Bool :=
  some t2
def m_spec_ValueOk_j4 (t2 : Bool) : Option Bool :=
  some t2
def m_spec_ValueOk (a0 : S_impl_Value) : Option Bool :=
  bif (a0.Kind == (0 : Int)) then (bif (a0.N == (0 : Int)) then (m_spec_ValueOk_j1  (sEq a0.S (⟨#[]⟩ : ByteArray)))
    else (m_spec_ValueOk_j1  false))
  else (bif (a0.Kind == (1 : Int)) then ((m_spec_l1In a0.N (-9999 : Int) (9999 : Int)).bind fun x11 =>
      bif x11 then (m_spec_ValueOk_j2  (sEq a0.S (⟨#[]⟩ : ByteArray)))
      else (m_spec_ValueOk_j2  false))
    else (bif (a0.Kind == (2 : Int)) then (bif (a0.N == (0 : Int)) then ((m_spec_l1Text a0.S).bind fun x17 =>
          m_spec_ValueOk_j3  x17)
        else (m_spec_ValueOk_j3  false))
      else (bif (a0.Kind == (3 : Int)) then ((m_spec_l1In a0.N (0 : Int) (1 : Int)).bind fun x21 =>
          bif x21 then (m_spec_ValueOk_j4  (sEq a0.S (⟨#[]⟩ : ByteArray)))
          else (m_spec_ValueOk_j4  false))
        else (some false))))
theorem c_spec_ValueOk (a0 : S_impl_Value) (r : Bool) (h : m_spec_ValueOk a0 = some r) : Ret Try.prog f_spec_ValueOk [e_impl_Value a0] (e_bool r) := by
  refine Does.goG [] F_spec_ValueOk rfl e_spec_ValueOk n_spec_ValueOk rfl (rvs := [.tmp 2]) rfl rfl ?_
  intro w0 ok0 lent ρ0
  refine LWP.seq_k fun N1 hN1 => ?_
  refine LWP.region (l := [_,_]) ?_
  refine LWo.boxF (e_impl_Value a0) rfl rfl rfl (hn := ?_)
  refine LWo.assign (e_bool false) rfl (hn := ?_)
  refine LWo.nil (hN1 _ ?_)
  refine LWP.seq_k fun N2 hN2 => ?_
  refine LWP.seq_k fun N3 hN3 => ?_
  refine LWP.region (l := [_,_]) ?_
  refine LWo.fieldAddr _ u_impl_Value rfl s_int rfl rfl (hn := ?_)
  refine LWo.load1 (c := (e_int a0.Kind)) g_int rfl (hn := ?_)
  refine LWo.nil (hN3 _ ?_)
  refine LWP.block ?_
  refine LWP.seq_k fun N4 hN4 => ?_
  refine LWP.region (l := [_,_]) ?_
  refine LWo.int _ rfl rfl rfl (hn := ?_)
  refine LWo.assign (e_bool (a0.Kind == (0 : Int))) rfl (hn := ?_)
  refine LWo.nil (hN4 _ ?_)
  refine LWP.cond_split rfl (fun h5 => ?_) (fun h5 => ?_)
  ·have h := bT h5 h
   refine LWP.join (α := Bool) (fun z : Bool => [(2, (e_bool z))]) (fun z : Bool => []) (fun z : Bool => m_spec_ValueOk_j1  z) r (fun _ => by simp [hkeys]) ?_ ?_
   ·rintro t2 h
    replace h : m_spec_ValueOk_j1  t2 = some _ := h
    obtain rfl := Option.some.inj h
    refine LWP.ret (QG.mk (.inr rfl) (.cons (.tmp (x := (e_bool t2)) rfl) (.nil)) (RetOK.one0 (.pure rfl) (by decide)) rfl rfl)
   ·intro N6 hN6
    refine LWP.region (l := [_,_,_,_,_,_,_,_,_]) ?_
    refine LWo.fieldAddr _ u_impl_Value rfl s_int rfl rfl (hn := ?_)
    refine LWo.load1 (c := (e_int a0.N)) g_int rfl (hn := ?_)
    refine LWo.int _ rfl rfl rfl (hn := ?_)
    refine LWo.move (e_bool (a0.N == (0 : Int))) rfl (hn := ?_)
    refine LWo.byCases (t := 10) _ rfl (fun h7 => ?_) (fun h7 => ?_)
    ·have h := bT h7 h
     refine LWo.guardY (t := 10) rfl h7 rfl rfl ?_
     refine LWo.fieldAddr _ u_impl_Value rfl s_string rfl rfl (hn := ?_)
     refine LWo.guardY (t := 10) rfl h7 rfl rfl ?_
     refine LWo.load1 (c := (e_string a0.S)) g_string rfl (hn := ?_)
     refine LWo.guardY (t := 10) rfl h7 rfl rfl ?_
     refine LWo.str _ rfl rfl rfl (hn := ?_)
     refine LWo.pickTM (e_bool (sEq a0.S (⟨#[]⟩ : ByteArray))) rfl h7 rfl (hn := ?_)
     refine LWo.assign (e_bool (sEq a0.S (⟨#[]⟩ : ByteArray))) rfl (hn := ?_)
     refine LWo.nil (hN6 (sEq a0.S (⟨#[]⟩ : ByteArray)) _ ⟨rfl, trivial⟩ trivial h)
    ·have h := bF h7 h
     refine LWo.guardNU (t := 10) rfl h7 rfl rfl rfl rfl rfl ?_
     refine LWo.guardNU (t := 10) rfl h7 rfl rfl rfl rfl rfl ?_
     refine LWo.guardNU (t := 10) rfl h7 rfl rfl rfl rfl rfl ?_
     refine LWo.pickFM (e_bool false) rfl h7 rfl (hn := ?_)
     refine LWo.assign (e_bool false) rfl (hn := ?_)
     refine LWo.nil (hN6 false _ ⟨rfl, trivial⟩ trivial h)
  ·have h := bF h5 h
   refine LWP.seq_k fun N8 hN8 => ?_
   refine LWP.region (l := [_,_]) ?_
   refine LWo.int _ rfl rfl rfl (hn := ?_)
   refine LWo.assign (e_bool (a0.Kind == (1 : Int))) rfl (hn := ?_)
   refine LWo.nil (hN8 _ ?_)
   refine LWP.cond_split rfl (fun h9 => ?_) (fun h9 => ?_)
   ·have h := bT h9 h
    refine LWP.join (α := Bool) (fun z : Bool => [(2, (e_bool z))]) (fun z : Bool => []) (fun z : Bool => m_spec_ValueOk_j2  z) r (fun _ => by simp [hkeys]) ?_ ?_
    ·rintro t2 h
     replace h : m_spec_ValueOk_j2  t2 = some _ := h
     obtain rfl := Option.some.inj h
     refine LWP.ret (QG.mk (.inr rfl) (.cons (.tmp (x := (e_bool t2)) rfl) (.nil)) (RetOK.one0 (.pure rfl) (by decide)) rfl rfl)
    ·intro N10 hN10
     refine LWP.region (l := [_,_,_,_,_,_,_,_,_]) ?_
     refine LWo.fieldAddr _ u_impl_Value rfl s_int rfl rfl (hn := ?_)
     refine LWo.load1 (c := (e_int a0.N)) g_int rfl (hn := ?_)
     refine bk h fun x11 e11 h => ?_
     refine LWo.vcall rfl rfl (c_spec_l1In _ _ _ _ e11) (.same (.same (.same (.nil)))) (hn := ?_)
     refine LWo.move (e_bool x11) rfl (hn := ?_)
     refine LWo.byCases (t := 20) _ rfl (fun h12 => ?_) (fun h12 => ?_)
     ·have h := bT h12 h
      refine LWo.guardY (t := 20) rfl h12 rfl rfl ?_
      refine LWo.fieldAddr _ u_impl_Value rfl s_string rfl rfl (hn := ?_)
      refine LWo.guardY (t := 20) rfl h12 rfl rfl ?_
      refine LWo.load1 (c := (e_string a0.S)) g_string rfl (hn := ?_)
      refine LWo.guardY (t := 20) rfl h12 rfl rfl ?_
      refine LWo.str _ rfl rfl rfl (hn := ?_)
      refine LWo.pickTM (e_bool (sEq a0.S (⟨#[]⟩ : ByteArray))) rfl h12 rfl (hn := ?_)
      refine LWo.assign (e_bool (sEq a0.S (⟨#[]⟩ : ByteArray))) rfl (hn := ?_)
      refine LWo.nil (hN10 (sEq a0.S (⟨#[]⟩ : ByteArray)) _ ⟨rfl, trivial⟩ trivial h)
     ·have h := bF h12 h
      refine LWo.guardNU (t := 20) rfl h12 rfl rfl rfl rfl rfl ?_
      refine LWo.guardNU (t := 20) rfl h12 rfl rfl rfl rfl rfl ?_
      refine LWo.guardNU (t := 20) rfl h12 rfl rfl rfl rfl rfl ?_
      refine LWo.pickFM (e_bool false) rfl h12 rfl (hn := ?_)
      refine LWo.assign (e_bool false) rfl (hn := ?_)
      refine LWo.nil (hN10 false _ ⟨rfl, trivial⟩ trivial h)
   ·have h := bF h9 h
    refine LWP.seq_k fun N13 hN13 => ?_
    refine LWP.region (l := [_,_]) ?_
    refine LWo.int _ rfl rfl rfl (hn := ?_)
    refine LWo.assign (e_bool (a0.Kind == (2 : Int))) rfl (hn := ?_)
    refine LWo.nil (hN13 _ ?_)
    refine LWP.cond_split rfl (fun h14 => ?_) (fun h14 => ?_)
    ·have h := bT h14 h
     refine LWP.join (α := Bool) (fun z : Bool => [(2, (e_bool z))]) (fun z : Bool => []) (fun z : Bool => m_spec_ValueOk_j3  z) r (fun _ => by simp [hkeys]) ?_ ?_
     ·rintro t2 h
      replace h : m_spec_ValueOk_j3  t2 = some _ := h
      obtain rfl := Option.some.inj h
      refine LWP.ret (QG.mk (.inr rfl) (.cons (.tmp (x := (e_bool t2)) rfl) (.nil)) (RetOK.one0 (.pure rfl) (by decide)) rfl rfl)
     ·intro N15 hN15
      refine LWP.region (l := [_,_,_,_,_,_,_,_,_]) ?_
      refine LWo.fieldAddr _ u_impl_Value rfl s_int rfl rfl (hn := ?_)
      refine LWo.load1 (c := (e_int a0.N)) g_int rfl (hn := ?_)
      refine LWo.int _ rfl rfl rfl (hn := ?_)
      refine LWo.move (e_bool (a0.N == (0 : Int))) rfl (hn := ?_)
      refine LWo.byCases (t := 30) _ rfl (fun h16 => ?_) (fun h16 => ?_)
      ·have h := bT h16 h
       refine LWo.guardY (t := 30) rfl h16 rfl rfl ?_
       refine LWo.fieldAddr _ u_impl_Value rfl s_string rfl rfl (hn := ?_)
       refine LWo.guardY (t := 30) rfl h16 rfl rfl ?_
       refine LWo.load1 (c := (e_string a0.S)) g_string rfl (hn := ?_)
       refine bk h fun x17 e17 h => ?_
       refine LWo.guardY (t := 30) rfl h16 rfl rfl ?_
       refine LWo.vcall rfl rfl (c_spec_l1Text _ _ e17) (.same (.nil)) (hn := ?_)
       refine LWo.pickTM (e_bool x17) rfl h16 rfl (hn := ?_)
       refine LWo.assign (e_bool x17) rfl (hn := ?_)
       refine LWo.nil (hN15 x17 _ ⟨rfl, trivial⟩ trivial h)
      ·have h := bF h16 h
       refine LWo.guardNU (t := 30) rfl h16 rfl rfl rfl rfl rfl ?_
       refine LWo.guardNU (t := 30) rfl h16 rfl rfl rfl rfl rfl ?_
       refine LWo.guardNU (t := 30) rfl h16 rfl rfl rfl rfl rfl ?_
       refine LWo.pickFM (e_bool false) rfl h16 rfl (hn := ?_)
       refine LWo.assign (e_bool false) rfl (hn := ?_)
       refine LWo.nil (hN15 false _ ⟨rfl, trivial⟩ trivial h)
    ·have h := bF h14 h
     refine LWP.seq_k fun N18 hN18 => ?_
     refine LWP.region (l := [_,_]) ?_
     refine LWo.int _ rfl rfl rfl (hn := ?_)
     refine LWo.assign (e_bool (a0.Kind == (3 : Int))) rfl (hn := ?_)
     refine LWo.nil (hN18 _ ?_)
     refine LWP.cond_split rfl (fun h19 => ?_) (fun h19 => ?_)
     ·have h := bT h19 h
      refine LWP.join (α := Bool) (fun z : Bool => [(2, (e_bool z))]) (fun z : Bool => []) (fun z : Bool => m_spec_ValueOk_j4  z) r (fun _ => by simp [hkeys]) ?_ ?_
      ·rintro t2 h
       replace h : m_spec_ValueOk_j4  t2 = some _ := h
       obtain rfl := Option.some.inj h
       refine LWP.ret (QG.mk (.inr rfl) (.cons (.tmp (x := (e_bool t2)) rfl) (.nil)) (RetOK.one0 (.pure rfl) (by decide)) rfl rfl)
      ·intro N20 hN20
       refine LWP.region (l := [_,_,_,_,_,_,_,_,_]) ?_
       refine LWo.fieldAddr _ u_impl_Value rfl s_int rfl rfl (hn := ?_)
       refine LWo.load1 (c := (e_int a0.N)) g_int rfl (hn := ?_)
       refine bk h fun x21 e21 h => ?_
       refine LWo.vcall rfl rfl (c_spec_l1In _ _ _ _ e21) (.same (.same (.same (.nil)))) (hn := ?_)
       refine LWo.move (e_bool x21) rfl (hn := ?_)
       refine LWo.byCases (t := 40) _ rfl (fun h22 => ?_) (fun h22 => ?_)
       ·have h := bT h22 h
        refine LWo.guardY (t := 40) rfl h22 rfl rfl ?_
        refine LWo.fieldAddr _ u_impl_Value rfl s_string rfl rfl (hn := ?_)
        refine LWo.guardY (t := 40) rfl h22 rfl rfl ?_
        refine LWo.load1 (c := (e_string a0.S)) g_string rfl (hn := ?_)
        refine LWo.guardY (t := 40) rfl h22 rfl rfl ?_
        refine LWo.str _ rfl rfl rfl (hn := ?_)
        refine LWo.pickTM (e_bool (sEq a0.S (⟨#[]⟩ : ByteArray))) rfl h22 rfl (hn := ?_)
        refine LWo.assign (e_bool (sEq a0.S (⟨#[]⟩ : ByteArray))) rfl (hn := ?_)
        refine LWo.nil (hN20 (sEq a0.S (⟨#[]⟩ : ByteArray)) _ ⟨rfl, trivial⟩ trivial h)
       ·have h := bF h22 h
        refine LWo.guardNU (t := 40) rfl h22 rfl rfl rfl rfl rfl ?_
        refine LWo.guardNU (t := 40) rfl h22 rfl rfl rfl rfl rfl ?_
        refine LWo.guardNU (t := 40) rfl h22 rfl rfl rfl rfl rfl ?_
        refine LWo.pickFM (e_bool false) rfl h22 rfl (hn := ?_)
        refine LWo.assign (e_bool false) rfl (hn := ?_)
        refine LWo.nil (hN20 false _ ⟨rfl, trivial⟩ trivial h)
     ·have h := bF h19 h
      refine LWP.skip (hN2 _ ?_)
      refine LWP.seq_k fun N23 hN23 => ?_
      refine LWP.region (l := [_]) ?_
      refine LWo.assign (e_bool false) rfl (hn := ?_)
      refine LWo.nil (hN23 _ ?_)
      obtain rfl := Option.some.inj h
      refine LWP.ret (QG.mk (.inr rfl) (.cons (.tmp (x := (e_bool false)) rfl) (.nil)) (RetOK.one0 (.pure rfl) (by decide)) rfl rfl)

def m_spec_RowOk_j1 (t0 : (List S_impl_Value)) : Option Bool :=
  some (decide ((t0.length : Int) ≤ (4 : Int)))
def m_spec_RowOk_l1 : Nat → (List S_impl_Value) → Int → Option Bool
  | 0, _, _ => none
  | n1 + 1, t0, t3 =>
    bif decide (t3 < (t0.length : Int)) then ((at? t0 t3).bind fun x11 =>
    (m_spec_ValueOk x11).bind fun x12 =>
    bif (!x12) then (some false)
    else ((ckI (t3 + (1 : Int))).bind fun x15 =>
    (m_spec_RowOk_l1  n1) t0 x15))
    else (m_spec_RowOk_j1  t0)
def m_spec_RowOk (a0 : (List S_impl_Value)) : Option Bool :=
  m_spec_RowOk_l1  (((a0.length : Int) - (0 : Int)).toNat + 1) a0 (0 : Int)
theorem c_spec_RowOk (a0 : (List S_impl_Value)) (r : Bool) (h : m_spec_RowOk a0 = some r) : Ret Try.prog f_spec_RowOk [e_Limpl_Value a0] (e_bool r) := by
  refine Does.goG [] F_spec_RowOk rfl e_spec_RowOk n_spec_RowOk rfl (rvs := [.tmp 2]) rfl rfl ?_
  intro w0 ok0 lent ρ0
  refine LWP.seq_k fun N1 hN1 => ?_
  refine LWP.region (l := [_]) ?_
  refine LWo.assign (e_bool false) rfl (hn := ?_)
  refine LWo.nil (hN1 _ ?_)
  refine LWP.join (α := (List S_impl_Value)) (fun z : (List S_impl_Value) => [(0, (e_Limpl_Value z))]) (fun z : (List S_impl_Value) => []) (fun z : (List S_impl_Value) => m_spec_RowOk_j1  z) r (fun _ => by simp [hkeys]) ?_ ?_
  ·rintro t0 h
   replace h : m_spec_RowOk_j1  t0 = some _ := h
   refine LWP.seq_k fun N16 hN16 => ?_
   refine LWP.region (l := [_,_,_,_]) ?_
   refine LWo.move (e_Limpl_Value t0) rfl (hn := ?_)
   refine LWo.lenM (f := e_impl_Value) (l := t0) u_Limpl_Value rfl (hn := ?_)
   refine LWo.int _ rfl rfl rfl (hn := ?_)
   refine LWo.assign (e_bool (decide ((t0.length : Int) ≤ (4 : Int)))) rfl (hn := ?_)
   refine LWo.nil (hN16 _ ?_)
   obtain rfl := Option.some.inj h
   refine LWP.ret (QG.mk (.inr rfl) (.cons (.tmp (x := (e_bool (decide ((t0.length : Int) ≤ (4 : Int))))) rfl) (.nil)) (RetOK.one0 (.pure rfl) (by decide)) rfl rfl)
  ·intro N2 hN2
   refine LWP.seq_k fun N3 hN3 => ?_
   refine LWP.region (l := [_]) ?_
   refine LWo.assign (e_int (0 : Int)) rfl (hn := ?_)
   refine LWo.nil (hN3 _ ?_)
   refine LWP.block ?_
   refine LWP.loopM (α := (List S_impl_Value) × Int) (fun z : (List S_impl_Value) × Int => [(0, (e_Limpl_Value z.1)), (3, (e_int z.2))]) (fun z : (List S_impl_Value) × Int => []) (fun n1 (z : (List S_impl_Value) × Int) => m_spec_RowOk_l1  n1 z.1 z.2) r _ (a0, (0 : Int)) h (fun _ => rfl) (fun _ => by simp [hkeys]) ⟨rfl, rfl, trivial⟩ trivial ?_
   rintro n1 ⟨t0, t3⟩ h N4 hN4
   replace h : m_spec_RowOk_l1  (n1 + 1) t0 t3 = some _ := h
   refine LWP.seq_k fun N6 hN6 => ?_
   refine LWP.seq_k fun N7 hN7 => ?_
   refine LWP.region (l := [_,_,_,_]) ?_
   refine LWo.move (e_int t3) rfl (hn := ?_)
   refine LWo.move (e_Limpl_Value t0) rfl (hn := ?_)
   refine LWo.lenM (f := e_impl_Value) (l := t0) u_Limpl_Value rfl (hn := ?_)
   refine LWo.int _ rfl rfl rfl (hn := ?_)
   refine LWo.nil (hN7 _ ?_)
   refine LWP.cond_split rfl (fun h8 => ?_) (fun h8 => ?_)
   ·have h := bT h8 h
    refine LWP.skip (hN6 _ ?_)
    refine LWP.seq_k fun N9 hN9 => ?_
    refine LWP.block ?_
    refine LWP.seq_k fun N10 hN10 => ?_
    refine LWP.region (l := [_,_,_,_,_,_]) ?_
    refine LWo.move (e_Limpl_Value t0) rfl (hn := ?_)
    refine LWo.move (e_int t3) rfl (hn := ?_)
    refine bk h fun x11 e11 h => ?_
    refine LWo.indexM (f := e_impl_Value) e11 u_Limpl_Value s_impl_Value rfl rfl (hn := ?_)
    refine LWo.loadN ((e_impl_Value x11)).cells g_impl_Value s_impl_Value rfl (Nat.le_of_ble_eq_true rfl) rfl (hn := ?_)
    refine bk h fun x12 e12 h => ?_
    refine LWo.vcall rfl rfl (c_spec_ValueOk _ _ e12) (.same (.nil)) (hn := ?_)
    refine LWo.not rfl (hn := ?_)
    refine LWo.nil (hN10 _ ?_)
    refine LWP.cond_split rfl (fun h13 => ?_) (fun h13 => ?_)
    ·have h := bT h13 h
     refine LWP.seq_k fun N14 hN14 => ?_
     refine LWP.region (l := [_]) ?_
     refine LWo.assign (e_bool false) rfl (hn := ?_)
     refine LWo.nil (hN14 _ ?_)
     obtain rfl := Option.some.inj h
     refine LWP.ret (QG.mk (.inr rfl) (.cons (.tmp (x := (e_bool false)) rfl) (.nil)) (RetOK.one0 (.pure rfl) (by decide)) rfl rfl)
    ·have h := bF h13 h
     refine LWP.skip (hN9 _ ?_)
     refine LWP.region (l := [_,_,_]) ?_
     refine LWo.move (e_int t3) rfl (hn := ?_)
     refine bk h fun x15 e15 h => ?_
     refine LWo.int _ rfl rfl (add_ck e15) (hn := ?_)
     refine LWo.assign (e_int x15) rfl (hn := ?_)
     refine LWo.nil (hN4 (t0, x15) _ ⟨rfl, rfl, trivial⟩ trivial h)
   ·have h := bF h8 h
    refine LWP.exit (hN2 t0 _ ⟨rfl, trivial⟩ trivial h)

def m_spec_WritesOk_j2  : Option Bool :=
  some true
def m_spec_WritesOk_j1 (k1 : (List S_impl_Write) → Int → Option Bool) (t0 : (List S_impl_Write)) (t3 : Int) (t49 : Bool) : Option Bool :=
  bif t49 then (some false)
  else ((ckI (t3 + (1 : Int))).bind fun x28 =>
  k1 t0 x28)
def m_spec_WritesOk_l1 : Nat → (List S_impl_Write) → Int → Option Bool
  | 0, _, _ => none
  | n1 + 1, t0, t3 =>
    bif decide (t3 < (t0.length : Int)) then ((at? t0 t3).bind fun x11 =>
    lt (x11) fun y12 =>
    (m_spec_l1In y12.Key (0 : Int) (4 : Int)).bind fun x14 =>
    bif (!x14) then (m_spec_WritesOk_j1  (m_spec_WritesOk_l1  n1) t0 t3 true)
    else ((m_spec_RowOk y12.Row).bind fun x16 =>
      bif (!x16) then (m_spec_WritesOk_j1  (m_spec_WritesOk_l1  n1) t0 t3 true)
      else (bif y12.Gone then (bif decide ((y12.Row.length : Int) > (0 : Int)) then (m_spec_WritesOk_j1  (m_spec_WritesOk_l1  n1) t0 t3 true)
          else (bif decide (t3 > (0 : Int)) then ((ckI (t3 - (1 : Int))).bind fun x21 =>
              (at? t0 x21).bind fun x22 =>
              m_spec_WritesOk_j1  (m_spec_WritesOk_l1  n1) t0 t3 (decide (x22.Key ≥ y12.Key)))
            else (m_spec_WritesOk_j1  (m_spec_WritesOk_l1  n1) t0 t3 false)))
        else (bif decide (t3 > (0 : Int)) then ((ckI (t3 - (1 : Int))).bind fun x24 =>
            (at? t0 x24).bind fun x25 =>
            m_spec_WritesOk_j1  (m_spec_WritesOk_l1  n1) t0 t3 (decide (x25.Key ≥ y12.Key)))
          else (m_spec_WritesOk_j1  (m_spec_WritesOk_l1  n1) t0 t3 false)))))
    else (m_spec_WritesOk_j2  )
def m_spec_WritesOk (a0 : (List S_impl_Write)) : Option Bool :=
  m_spec_WritesOk_l1  (((a0.length : Int) - (0 : Int)).toNat + 1) a0 (0 : Int)
theorem c_spec_WritesOk (a0 : (List S_impl_Write)) (r : Bool) (h : m_spec_WritesOk a0 = some r) : Ret Try.prog f_spec_WritesOk [e_Limpl_Write a0] (e_bool r) := by
  refine Does.goG [] F_spec_WritesOk rfl e_spec_WritesOk n_spec_WritesOk rfl (rvs := [.tmp 2]) rfl rfl ?_
  intro w0 ok0 lent ρ0
  refine LWP.seq_k fun N1 hN1 => ?_
  refine LWP.region (l := [_]) ?_
  refine LWo.assign (e_bool false) rfl (hn := ?_)
  refine LWo.nil (hN1 _ ?_)
  refine LWP.join (α := Unit) (fun z : Unit => []) (fun z : Unit => []) (fun z : Unit => m_spec_WritesOk_j2  ) r (fun _ => by simp [hkeys]) ?_ ?_
  ·rintro _ h
   replace h : m_spec_WritesOk_j2   = some _ := h
   refine LWP.seq_k fun N29 hN29 => ?_
   refine LWP.region (l := [_]) ?_
   refine LWo.assign (e_bool true) rfl (hn := ?_)
   refine LWo.nil (hN29 _ ?_)
   obtain rfl := Option.some.inj h
   refine LWP.ret (QG.mk (.inr rfl) (.cons (.tmp (x := (e_bool true)) rfl) (.nil)) (RetOK.one0 (.pure rfl) (by decide)) rfl rfl)
  ·intro N2 hN2
   refine LWP.seq_k fun N3 hN3 => ?_
   refine LWP.region (l := [_]) ?_
   refine LWo.assign (e_int (0 : Int)) rfl (hn := ?_)
   refine LWo.nil (hN3 _ ?_)
   refine LWP.block ?_
   refine LWP.loopM (α := (List S_impl_Write) × Int) (fun z : (List S_impl_Write) × Int => [(0, (e_Limpl_Write z.1)), (3, (e_int z.2))]) (fun z : (List S_impl_Write) × Int => []) (fun n1 (z : (List S_impl_Write) × Int) => m_spec_WritesOk_l1  n1 z.1 z.2) r _ (a0, (0 : Int)) h (fun _ => rfl) (fun _ => by simp [hkeys]) ⟨rfl, rfl, trivial⟩ trivial ?_
   rintro n1 ⟨t0, t3⟩ h N4 hN4
   replace h : m_spec_WritesOk_l1  (n1 + 1) t0 t3 = some _ := h
   refine LWP.seq_k fun N6 hN6 => ?_
   refine LWP.seq_k fun N7 hN7 => ?_
   refine LWP.region (l := [_,_,_,_]) ?_
   refine LWo.move (e_int t3) rfl (hn := ?_)
   refine LWo.move (e_Limpl_Write t0) rfl (hn := ?_)
   refine LWo.lenM (f := e_impl_Write) (l := t0) u_Limpl_Write rfl (hn := ?_)
   refine LWo.int _ rfl rfl rfl (hn := ?_)
   refine LWo.nil (hN7 _ ?_)
   refine LWP.cond_split rfl (fun h8 => ?_) (fun h8 => ?_)
   ·have h := bT h8 h
    refine LWP.skip (hN6 _ ?_)
    refine LWP.seq_k fun N9 hN9 => ?_
    refine LWP.block ?_
    refine LWP.seq_k fun N10 hN10 => ?_
    refine LWP.region (l := [_,_,_,_,_,_]) ?_
    refine LWo.move (e_Limpl_Write t0) rfl (hn := ?_)
    refine LWo.move (e_int t3) rfl (hn := ?_)
    refine bk h fun x11 e11 h => ?_
    refine LWo.indexM (f := e_impl_Write) e11 u_Limpl_Write s_impl_Write rfl rfl (hn := ?_)
    refine LWo.loadN ((e_impl_Write x11)).cells g_impl_Write s_impl_Write rfl (Nat.le_of_ble_eq_true rfl) rfl (hn := ?_)
    refine LWo.alloc_impl_Write 4 rfl (hn := ?_)
    refine lk h fun y12 e12 h => ?_
    refine LWo.storeW (y := (⟨(0 : Int), [], false⟩ : S_impl_Write)) y12 s_impl_Write rfl rfl rfl rfl rfl rfl (by rw [e12]; exact .refl) rfl (hn := ?_)
    refine LWo.nil (hN10 _ ?_)
    refine LWP.join (α := (List S_impl_Write) × Int × Bool) (fun z : (List S_impl_Write) × Int × Bool => [(0, (e_Limpl_Write z.1)), (3, (e_int z.2.1)), (49, (e_bool z.2.2))]) (fun z : (List S_impl_Write) × Int × Bool => []) (fun z : (List S_impl_Write) × Int × Bool => m_spec_WritesOk_j1  (m_spec_WritesOk_l1  n1) z.1 z.2.1 z.2.2) r (fun _ => by simp [hkeys]) ?_ ?_
    ·rintro ⟨t0, t3, t49⟩ h
     replace h : m_spec_WritesOk_j1  (m_spec_WritesOk_l1  n1) t0 t3 t49 = some _ := h
     refine LWP.cond_split rfl (fun h26 => ?_) (fun h26 => ?_)
     ·have h := bT h26 h
      refine LWP.seq_k fun N27 hN27 => ?_
      refine LWP.region (l := [_]) ?_
      refine LWo.assign (e_bool false) rfl (hn := ?_)
      refine LWo.nil (hN27 _ ?_)
      obtain rfl := Option.some.inj h
      refine LWP.ret (QG.mk (.inr rfl) (.cons (.tmp (x := (e_bool false)) rfl) (.nil)) (RetOK.one0 (.pure rfl) (by decide)) rfl rfl)
     ·have h := bF h26 h
      refine LWP.skip (hN9 _ ?_)
      refine LWP.region (l := [_,_,_]) ?_
      refine LWo.move (e_int t3) rfl (hn := ?_)
      refine bk h fun x28 e28 h => ?_
      refine LWo.int _ rfl rfl (add_ck e28) (hn := ?_)
      refine LWo.assign (e_int x28) rfl (hn := ?_)
      refine LWo.nil (hN4 (t0, x28) _ ⟨rfl, rfl, trivial⟩ trivial h)
    ·intro N13 hN13
     refine bk h fun x14 e14 h => ?_
     refine bS ((!x14)) (fun h15 => ?_) (fun h15 => ?_)
     ·have h := bT h15 h
      refine LWP.drawF (l := [_,_,_,_,_,_,_,_,_,_,_,_,_,_,_,_,_,_,_,_,_,_,_,_,_,_,_,_,_,_,_,_,_,_,_]) [] [0, 3, 4] [([4], []), ([15], [4]), ([16], []), ([17], []), ([18], []), ([4, 19], []), ([19, 20], []), ([19, 21], []), ([19, 22], []), ([19, 23], []), ([24], []), ([4, 25], []), ([25, 26], []), ([25, 27], []), ([4, 28], []), ([28, 29], []), ([28, 30], []), ([28, 31], []), ([25, 28, 32], []), ([25, 33], []), ([34], []), ([3, 35], []), ([35, 36], []), ([35, 37], []), ([0, 38], []), ([3, 38], []), ([38, 40], []), ([38, 39, 41], []), ([38, 42], []), ([38, 43], []), ([4, 38], []), ([38, 45], []), ([38, 44, 46], []), ([35, 38, 47], []), ([35, 48], [])] [0, 3, 49] [] mixed (by kernel_rfl) rfl (by decide) ?_
      refine dq 15 rfl (fun _ g u h => LWo.fieldPtr u_impl_Write rfl s_int u.1 rfl (hn := .nil (zn g))) ?_
      refine dq 16 rfl (fun _ g u h => LWo.loadV1 (e_int y12.Key)  g_int u.1 h.1 rfl (hn := .nil (zn g))) ?_
      refine dq 17 rfl (fun _ g u h => LWo.vcall rfl (av3 u.1 rfl rfl) (c_spec_l1In _ _ _ _ e14) (.same (.same (.same (.nil)))) (hn := .nil (zn g))) ?_
      refine dq 18 rfl (fun _ g u h => LWo.not u.1 (hn := .nil (zn g))) ?_
      refine dq 19 rfl (fun _ g u h => LWo.move (e_bool (!x14)) u.1 (hn := .nil (zn g))) ?_
      refine dq 20 rfl (fun _ g u h => LWo.guardNU (t := 19) u.2.1 h15 rfl rfl rfl rfl rfl (.nil (zn g))) ?_
      refine dq 21 rfl (fun _ g u h => LWo.guardNU (t := 19) u.1 h15 rfl rfl rfl rfl rfl (.nil (zn g))) ?_
      refine dq 22 rfl (fun _ g u h => LWo.guardNU (t := 19) u.1 h15 rfl rfl rfl rfl rfl (.nil (zn g))) ?_
      refine dq 23 rfl (fun _ g u h => LWo.guardNU (t := 19) u.1 h15 rfl rfl rfl rfl rfl (.nil (zn g))) ?_
      refine dq 24 rfl (fun _ g u h => LWo.pickTM (e_bool true) u.1 h15 rfl (hn := .nil (zn g))) ?_
      refine dq 25 rfl (fun _ g u h => LWo.move (e_bool true) u.1 (hn := .nil (zn g))) ?_
      refine dq 26 rfl (fun _ g u h => LWo.guardNU (t := 25) u.2.1 rfl rfl rfl rfl rfl rfl (.nil (zn g))) ?_
      refine dq 27 rfl (fun _ g u h => LWo.guardNU (t := 25) u.1 rfl rfl rfl rfl rfl rfl (.nil (zn g))) ?_
      refine dq 28 rfl (fun _ g u h => LWo.guardNU (t := 25) u.1 rfl rfl rfl rfl rfl rfl (.nil (zn g))) ?_
      refine dq 29 rfl (fun _ g u h => LWo.guardU (t := 28) u.2.1 rfl rfl rfl rfl (.nil (zn g))) ?_
      refine dq 30 rfl (fun _ g u h => LWo.guardU (t := 28) u.1 rfl rfl rfl rfl (.nil (zn g))) ?_
      refine dq 31 rfl (fun _ g u h => LWo.guardU (t := 28) u.1 rfl rfl rfl rfl (.nil (zn g))) ?_
      refine dq 32 rfl (fun _ g u h => LWo.guardU (t := 28) u.1 rfl rfl rfl rfl (.nil (zn g))) ?_
      refine dq 33 rfl (fun _ g u h => LWo.guardNU (t := 25) u.1 rfl rfl rfl rfl rfl rfl (.nil (zn g))) ?_
      refine dq 34 rfl (fun _ g u h => LWo.pickTM (e_bool true) u.1 rfl rfl (hn := .nil (zn g))) ?_
      refine dq 35 rfl (fun _ g u h => LWo.move (e_bool true) u.1 (hn := .nil (zn g))) ?_
      refine dq 36 rfl (fun _ g u h => LWo.guardNU (t := 35) u.2.1 rfl rfl rfl rfl rfl rfl (.nil (zn g))) ?_
      refine dq 37 rfl (fun _ g u h => LWo.guardNU (t := 35) u.1 rfl rfl rfl rfl rfl rfl (.nil (zn g))) ?_
      refine dq 38 rfl (fun _ g u h => LWo.guardNU (t := 35) u.1 rfl rfl rfl rfl rfl rfl (.nil (zn g))) ?_
      refine dq 39 rfl (fun _ g u h => LWo.guardU (t := 38) u.2.1 rfl rfl rfl rfl (.nil (zn g))) ?_
      refine dq 40 rfl (fun _ g u h => LWo.guardU (t := 38) u.2.1 rfl rfl rfl rfl (.nil (zn g))) ?_
      refine dq 41 rfl (fun _ g u h => LWo.guardU (t := 38) u.1 rfl rfl rfl rfl (.nil (zn g))) ?_
      refine dq 42 rfl (fun _ g u h => LWo.guardU (t := 38) u.1 rfl rfl rfl rfl (.nil (zn g))) ?_
      refine dq 43 rfl (fun _ g u h => LWo.guardU (t := 38) u.1 rfl rfl rfl rfl (.nil (zn g))) ?_
      refine dq 44 rfl (fun _ g u h => LWo.guardU (t := 38) u.1 rfl rfl rfl rfl (.nil (zn g))) ?_
      refine dq 45 rfl (fun _ g u h => LWo.guardU (t := 38) u.2.1 rfl rfl rfl rfl (.nil (zn g))) ?_
      refine dq 46 rfl (fun _ g u h => LWo.guardU (t := 38) u.1 rfl rfl rfl rfl (.nil (zn g))) ?_
      refine dq 47 rfl (fun _ g u h => LWo.guardU (t := 38) u.1 rfl rfl rfl rfl (.nil (zn g))) ?_
      refine dq 48 rfl (fun _ g u h => LWo.guardNU (t := 35) u.1 rfl rfl rfl rfl rfl rfl (.nil (zn g))) ?_
      refine dq 49 rfl (fun _ g u h => LWo.pickTM (e_bool true) u.1 rfl rfl (hn := .nil (zn g))) ?_
      refine ⟨rfl, by kernel_rfl, hN13 (t0, t3, true) _ ⟨rfl, rfl, rfl, trivial⟩ trivial h⟩
     ·have h := bF h15 h
      refine bk h fun x16 e16 h => ?_
      refine bS ((!x16)) (fun h17 => ?_) (fun h17 => ?_)
      ·have h := bT h17 h
       refine LWP.drawF (l := [_,_,_,_,_,_,_,_,_,_,_,_,_,_,_,_,_,_,_,_,_,_,_,_,_,_,_,_,_,_,_,_,_,_,_]) [] [0, 3, 4] [([4], []), ([15], [4]), ([16], []), ([17], []), ([18], []), ([4, 19], []), ([19, 20], [4]), ([19, 21], []), ([19, 22], []), ([19, 23], []), ([24], []), ([4, 25], []), ([25, 26], []), ([25, 27], []), ([4, 28], []), ([28, 29], []), ([28, 30], []), ([28, 31], []), ([25, 28, 32], []), ([25, 33], []), ([34], []), ([3, 35], []), ([35, 36], []), ([35, 37], []), ([0, 38], []), ([3, 38], []), ([38, 40], []), ([38, 39, 41], []), ([38, 42], []), ([38, 43], []), ([4, 38], []), ([38, 45], []), ([38, 44, 46], []), ([35, 38, 47], []), ([35, 48], [])] [0, 3, 49] [] mixed (by kernel_rfl) rfl (by decide) ?_
       refine dq 15 rfl (fun _ g u h => LWo.fieldPtr u_impl_Write rfl s_int u.1 rfl (hn := .nil (zn g))) ?_
       refine dq 16 rfl (fun _ g u h => LWo.loadV1 (e_int y12.Key)  g_int u.1 h.1 rfl (hn := .nil (zn g))) ?_
       refine dq 17 rfl (fun _ g u h => LWo.vcall rfl (av3 u.1 rfl rfl) (c_spec_l1In _ _ _ _ e14) (.same (.same (.same (.nil)))) (hn := .nil (zn g))) ?_
       refine dq 18 rfl (fun _ g u h => LWo.not u.1 (hn := .nil (zn g))) ?_
       refine dq 19 rfl (fun _ g u h => LWo.move (e_bool (!x14)) u.1 (hn := .nil (zn g))) ?_
       refine dq 20 rfl (fun _ g u h => LWo.guardY (t := 19) u.2.1 h15 rfl rfl (LWo.fieldPtr u_impl_Write rfl s_Limpl_Value u.1 rfl (hn := .nil (zn g)))) ?_
       refine dq 21 rfl (fun _ g u h => LWo.guardY (t := 19) u.1 h15 rfl rfl (LWo.loadV1 (e_Limpl_Value y12.Row)  g_Limpl_Value u.2.1 h.1 rfl (hn := .nil (zn g)))) ?_
       refine dq 22 rfl (fun _ g u h => LWo.guardY (t := 19) u.1 h15 rfl rfl (LWo.vcall rfl (av1 u.2.1) (c_spec_RowOk _ _ e16) (.same (.nil)) (hn := .nil (zn g)))) ?_
       refine dq 23 rfl (fun _ g u h => LWo.guardY (t := 19) u.1 h15 rfl rfl (LWo.not u.2.1 (hn := .nil (zn g)))) ?_
       refine dq 24 rfl (fun _ g u h => LWo.pickFM (e_bool (!x16)) u.1 h15 u.2.1 (hn := .nil (zn g))) ?_
       refine dq 25 rfl (fun _ g u h => LWo.move (e_bool (!x16)) u.1 (hn := .nil (zn g))) ?_
       refine dq 26 rfl (fun _ g u h => LWo.guardNU (t := 25) u.2.1 h17 rfl rfl rfl rfl rfl (.nil (zn g))) ?_
       refine dq 27 rfl (fun _ g u h => LWo.guardNU (t := 25) u.1 h17 rfl rfl rfl rfl rfl (.nil (zn g))) ?_
       refine dq 28 rfl (fun _ g u h => LWo.guardNU (t := 25) u.1 h17 rfl rfl rfl rfl rfl (.nil (zn g))) ?_
       refine dq 29 rfl (fun _ g u h => LWo.guardU (t := 28) u.2.1 rfl rfl rfl rfl (.nil (zn g))) ?_
       refine dq 30 rfl (fun _ g u h => LWo.guardU (t := 28) u.1 rfl rfl rfl rfl (.nil (zn g))) ?_
       refine dq 31 rfl (fun _ g u h => LWo.guardU (t := 28) u.1 rfl rfl rfl rfl (.nil (zn g))) ?_
       refine dq 32 rfl (fun _ g u h => LWo.guardU (t := 28) u.1 rfl rfl rfl rfl (.nil (zn g))) ?_
       refine dq 33 rfl (fun _ g u h => LWo.guardNU (t := 25) u.1 h17 rfl rfl rfl rfl rfl (.nil (zn g))) ?_
       refine dq 34 rfl (fun _ g u h => LWo.pickTM (e_bool true) u.1 h17 rfl (hn := .nil (zn g))) ?_
       refine dq 35 rfl (fun _ g u h => LWo.move (e_bool true) u.1 (hn := .nil (zn g))) ?_
       refine dq 36 rfl (fun _ g u h => LWo.guardNU (t := 35) u.2.1 rfl rfl rfl rfl rfl rfl (.nil (zn g))) ?_
       refine dq 37 rfl (fun _ g u h => LWo.guardNU (t := 35) u.1 rfl rfl rfl rfl rfl rfl (.nil (zn g))) ?_
       refine dq 38 rfl (fun _ g u h => LWo.guardNU (t := 35) u.1 rfl rfl rfl rfl rfl rfl (.nil (zn g))) ?_
       refine dq 39 rfl (fun _ g u h => LWo.guardU (t := 38) u.2.1 rfl rfl rfl rfl (.nil (zn g))) ?_
       refine dq 40 rfl (fun _ g u h => LWo.guardU (t := 38) u.2.1 rfl rfl rfl rfl (.nil (zn g))) ?_
       refine dq 41 rfl (fun _ g u h => LWo.guardU (t := 38) u.1 rfl rfl rfl rfl (.nil (zn g))) ?_
       refine dq 42 rfl (fun _ g u h => LWo.guardU (t := 38) u.1 rfl rfl rfl rfl (.nil (zn g))) ?_
       refine dq 43 rfl (fun _ g u h => LWo.guardU (t := 38) u.1 rfl rfl rfl rfl (.nil (zn g))) ?_
       refine dq 44 rfl (fun _ g u h => LWo.guardU (t := 38) u.1 rfl rfl rfl rfl (.nil (zn g))) ?_
       refine dq 45 rfl (fun _ g u h => LWo.guardU (t := 38) u.2.1 rfl rfl rfl rfl (.nil (zn g))) ?_
       refine dq 46 rfl (fun _ g u h => LWo.guardU (t := 38) u.1 rfl rfl rfl rfl (.nil (zn g))) ?_
       refine dq 47 rfl (fun _ g u h => LWo.guardU (t := 38) u.1 rfl rfl rfl rfl (.nil (zn g))) ?_
       refine dq 48 rfl (fun _ g u h => LWo.guardNU (t := 35) u.1 rfl rfl rfl rfl rfl rfl (.nil (zn g))) ?_
       refine dq 49 rfl (fun _ g u h => LWo.pickTM (e_bool true) u.1 rfl rfl (hn := .nil (zn g))) ?_
       refine ⟨rfl, by kernel_rfl, hN13 (t0, t3, true) _ ⟨rfl, rfl, rfl, trivial⟩ trivial h⟩
      ·have h := bF h17 h
       refine bS (y12.Gone) (fun h18 => ?_) (fun h18 => ?_)
       ·have h := bT h18 h
        refine bS (decide ((y12.Row.length : Int) > (0 : Int))) (fun h19 => ?_) (fun h19 => ?_)
        ·have h := bT h19 h
         refine LWP.drawF (l := [_,_,_,_,_,_,_,_,_,_,_,_,_,_,_,_,_,_,_,_,_,_,_,_,_,_,_,_,_,_,_,_,_,_,_]) [] [0, 3, 4] [([4], []), ([15], [4]), ([16], []), ([17], []), ([18], []), ([4, 19], []), ([19, 20], [4]), ([19, 21], []), ([19, 22], []), ([19, 23], []), ([24], []), ([4, 25], []), ([25, 26], [4]), ([25, 27], []), ([4, 28], []), ([28, 29], [4]), ([28, 30], []), ([28, 31], []), ([25, 28, 32], []), ([25, 33], []), ([34], []), ([3, 35], []), ([35, 36], []), ([35, 37], []), ([0, 38], []), ([3, 38], []), ([38, 40], []), ([38, 39, 41], []), ([38, 42], []), ([38, 43], []), ([4, 38], []), ([38, 45], []), ([38, 44, 46], []), ([35, 38, 47], []), ([35, 48], [])] [0, 3, 49] [] mixed (by kernel_rfl) rfl (by decide) ?_
         refine dq 15 rfl (fun _ g u h => LWo.fieldPtr u_impl_Write rfl s_int u.1 rfl (hn := .nil (zn g))) ?_
         refine dq 16 rfl (fun _ g u h => LWo.loadV1 (e_int y12.Key)  g_int u.1 h.1 rfl (hn := .nil (zn g))) ?_
         refine dq 17 rfl (fun _ g u h => LWo.vcall rfl (av3 u.1 rfl rfl) (c_spec_l1In _ _ _ _ e14) (.same (.same (.same (.nil)))) (hn := .nil (zn g))) ?_
         refine dq 18 rfl (fun _ g u h => LWo.not u.1 (hn := .nil (zn g))) ?_
         refine dq 19 rfl (fun _ g u h => LWo.move (e_bool (!x14)) u.1 (hn := .nil (zn g))) ?_
         refine dq 20 rfl (fun _ g u h => LWo.guardY (t := 19) u.2.1 h15 rfl rfl (LWo.fieldPtr u_impl_Write rfl s_Limpl_Value u.1 rfl (hn := .nil (zn g)))) ?_
         refine dq 21 rfl (fun _ g u h => LWo.guardY (t := 19) u.1 h15 rfl rfl (LWo.loadV1 (e_Limpl_Value y12.Row)  g_Limpl_Value u.2.1 h.1 rfl (hn := .nil (zn g)))) ?_
         refine dq 22 rfl (fun _ g u h => LWo.guardY (t := 19) u.1 h15 rfl rfl (LWo.vcall rfl (av1 u.2.1) (c_spec_RowOk _ _ e16) (.same (.nil)) (hn := .nil (zn g)))) ?_
         refine dq 23 rfl (fun _ g u h => LWo.guardY (t := 19) u.1 h15 rfl rfl (LWo.not u.2.1 (hn := .nil (zn g)))) ?_
         refine dq 24 rfl (fun _ g u h => LWo.pickFM (e_bool (!x16)) u.1 h15 u.2.1 (hn := .nil (zn g))) ?_
         refine dq 25 rfl (fun _ g u h => LWo.move (e_bool (!x16)) u.1 (hn := .nil (zn g))) ?_
         refine dq 26 rfl (fun _ g u h => LWo.guardY (t := 25) u.2.1 h17 rfl rfl (LWo.fieldPtr u_impl_Write rfl s_bool u.1 rfl (hn := .nil (zn g)))) ?_
         refine dq 27 rfl (fun _ g u h => LWo.guardY (t := 25) u.1 h17 rfl rfl (LWo.loadV1 (e_bool y12.Gone)  g_bool u.2.1 h.1 rfl (hn := .nil (zn g)))) ?_
         refine dq 28 rfl (fun _ g u h => LWo.guardY (t := 25) u.1 h17 rfl rfl (LWo.move (e_bool y12.Gone) u.2.1 (hn := .nil (zn g)))) ?_
         refine dq 29 rfl (fun _ g u h => LWo.guardY (t := 28) u.2.1 h18 rfl rfl (LWo.fieldPtr u_impl_Write rfl s_Limpl_Value u.1 rfl (hn := .nil (zn g)))) ?_
         refine dq 30 rfl (fun _ g u h => LWo.guardY (t := 28) u.1 h18 rfl rfl (LWo.loadV1 (e_Limpl_Value y12.Row)  g_Limpl_Value u.2.1 h.1 rfl (hn := .nil (zn g)))) ?_
         refine dq 31 rfl (fun _ g u h => LWo.guardY (t := 28) u.1 h18 rfl rfl (LWo.lenM (f := e_impl_Value) (l := y12.Row) u_Limpl_Value u.2.1 (hn := .nil (zn g)))) ?_
         refine dq 32 rfl (fun _ g u h => LWo.guardY (t := 28) u.1 h18 rfl rfl (LWo.int _ u.2.1 rfl rfl (hn := .nil (zn g)))) ?_
         refine dq 33 rfl (fun _ g u h => LWo.guardY (t := 25) u.1 h17 rfl rfl (LWo.pickTM (e_bool (decide ((y12.Row.length : Int) > (0 : Int)))) u.2.1 h18 u.2.2.1 (hn := .nil (zn g)))) ?_
         refine dq 34 rfl (fun _ g u h => LWo.pickFM (e_bool (decide ((y12.Row.length : Int) > (0 : Int)))) u.1 h17 u.2.1 (hn := .nil (zn g))) ?_
         refine dq 35 rfl (fun _ g u h => LWo.move (e_bool (decide ((y12.Row.length : Int) > (0 : Int)))) u.1 (hn := .nil (zn g))) ?_
         refine dq 36 rfl (fun _ g u h => LWo.guardNU (t := 35) u.2.1 h19 rfl rfl rfl rfl rfl (.nil (zn g))) ?_
         refine dq 37 rfl (fun _ g u h => LWo.guardNU (t := 35) u.1 h19 rfl rfl rfl rfl rfl (.nil (zn g))) ?_
         refine dq 38 rfl (fun _ g u h => LWo.guardNU (t := 35) u.1 h19 rfl rfl rfl rfl rfl (.nil (zn g))) ?_
         refine dq 39 rfl (fun _ g u h => LWo.guardU (t := 38) u.2.1 rfl rfl rfl rfl (.nil (zn g))) ?_
         refine dq 40 rfl (fun _ g u h => LWo.guardU (t := 38) u.2.1 rfl rfl rfl rfl (.nil (zn g))) ?_
         refine dq 41 rfl (fun _ g u h => LWo.guardU (t := 38) u.1 rfl rfl rfl rfl (.nil (zn g))) ?_
         refine dq 42 rfl (fun _ g u h => LWo.guardU (t := 38) u.1 rfl rfl rfl rfl (.nil (zn g))) ?_
         refine dq 43 rfl (fun _ g u h => LWo.guardU (t := 38) u.1 rfl rfl rfl rfl (.nil (zn g))) ?_
         refine dq 44 rfl (fun _ g u h => LWo.guardU (t := 38) u.1 rfl rfl rfl rfl (.nil (zn g))) ?_
         refine dq 45 rfl (fun _ g u h => LWo.guardU (t := 38) u.2.1 rfl rfl rfl rfl (.nil (zn g))) ?_
         refine dq 46 rfl (fun _ g u h => LWo.guardU (t := 38) u.1 rfl rfl rfl rfl (.nil (zn g))) ?_
         refine dq 47 rfl (fun _ g u h => LWo.guardU (t := 38) u.1 rfl rfl rfl rfl (.nil (zn g))) ?_
         refine dq 48 rfl (fun _ g u h => LWo.guardNU (t := 35) u.1 h19 rfl rfl rfl rfl rfl (.nil (zn g))) ?_
         refine dq 49 rfl (fun _ g u h => LWo.pickTM (e_bool true) u.1 h19 rfl (hn := .nil (zn g))) ?_
         refine ⟨rfl, by kernel_rfl, hN13 (t0, t3, true) _ ⟨rfl, rfl, rfl, trivial⟩ trivial h⟩
        ·have h := bF h19 h
         refine bS (decide (t3 > (0 : Int))) (fun h20 => ?_) (fun h20 => ?_)
         ·have h := bT h20 h
          refine bk h fun x21 e21 h => ?_
          refine bk h fun x22 e22 h => ?_
          refine LWP.drawF (l := [_,_,_,_,_,_,_,_,_,_,_,_,_,_,_,_,_,_,_,_,_,_,_,_,_,_,_,_,_,_,_,_,_,_,_]) [] [0, 3, 4] [([4], []), ([15], [4]), ([16], []), ([17], []), ([18], []), ([4, 19], []), ([19, 20], [4]), ([19, 21], []), ([19, 22], []), ([19, 23], []), ([24], []), ([4, 25], []), ([25, 26], [4]), ([25, 27], []), ([4, 28], []), ([28, 29], [4]), ([28, 30], []), ([28, 31], []), ([25, 28, 32], []), ([25, 33], []), ([34], []), ([3, 35], []), ([35, 36], []), ([35, 37], []), ([0, 38], []), ([3, 38], []), ([38, 40], []), ([38, 39, 41], []), ([38, 42], []), ([38, 43], []), ([4, 38], []), ([38, 45], [4]), ([38, 44, 46], []), ([35, 38, 47], []), ([35, 48], [])] [0, 3, 49] [] mixed (by kernel_rfl) rfl (by decide) ?_
          refine dq 15 rfl (fun _ g u h => LWo.fieldPtr u_impl_Write rfl s_int u.1 rfl (hn := .nil (zn g))) ?_
          refine dq 16 rfl (fun _ g u h => LWo.loadV1 (e_int y12.Key)  g_int u.1 h.1 rfl (hn := .nil (zn g))) ?_
          refine dq 17 rfl (fun _ g u h => LWo.vcall rfl (av3 u.1 rfl rfl) (c_spec_l1In _ _ _ _ e14) (.same (.same (.same (.nil)))) (hn := .nil (zn g))) ?_
          refine dq 18 rfl (fun _ g u h => LWo.not u.1 (hn := .nil (zn g))) ?_
          refine dq 19 rfl (fun _ g u h => LWo.move (e_bool (!x14)) u.1 (hn := .nil (zn g))) ?_
          refine dq 20 rfl (fun _ g u h => LWo.guardY (t := 19) u.2.1 h15 rfl rfl (LWo.fieldPtr u_impl_Write rfl s_Limpl_Value u.1 rfl (hn := .nil (zn g)))) ?_
          refine dq 21 rfl (fun _ g u h => LWo.guardY (t := 19) u.1 h15 rfl rfl (LWo.loadV1 (e_Limpl_Value y12.Row)  g_Limpl_Value u.2.1 h.1 rfl (hn := .nil (zn g)))) ?_
          refine dq 22 rfl (fun _ g u h => LWo.guardY (t := 19) u.1 h15 rfl rfl (LWo.vcall rfl (av1 u.2.1) (c_spec_RowOk _ _ e16) (.same (.nil)) (hn := .nil (zn g)))) ?_
          refine dq 23 rfl (fun _ g u h => LWo.guardY (t := 19) u.1 h15 rfl rfl (LWo.not u.2.1 (hn := .nil (zn g)))) ?_
          refine dq 24 rfl (fun _ g u h => LWo.pickFM (e_bool (!x16)) u.1 h15 u.2.1 (hn := .nil (zn g))) ?_
          refine dq 25 rfl (fun _ g u h => LWo.move (e_bool (!x16)) u.1 (hn := .nil (zn g))) ?_
          refine dq 26 rfl (fun _ g u h => LWo.guardY (t := 25) u.2.1 h17 rfl rfl (LWo.fieldPtr u_impl_Write rfl s_bool u.1 rfl (hn := .nil (zn g)))) ?_
          refine dq 27 rfl (fun _ g u h => LWo.guardY (t := 25) u.1 h17 rfl rfl (LWo.loadV1 (e_bool y12.Gone)  g_bool u.2.1 h.1 rfl (hn := .nil (zn g)))) ?_
          refine dq 28 rfl (fun _ g u h => LWo.guardY (t := 25) u.1 h17 rfl rfl (LWo.move (e_bool y12.Gone) u.2.1 (hn := .nil (zn g)))) ?_
          refine dq 29 rfl (fun _ g u h => LWo.guardY (t := 28) u.2.1 h18 rfl rfl (LWo.fieldPtr u_impl_Write rfl s_Limpl_Value u.1 rfl (hn := .nil (zn g)))) ?_
          refine dq 30 rfl (fun _ g u h => LWo.guardY (t := 28) u.1 h18 rfl rfl (LWo.loadV1 (e_Limpl_Value y12.Row)  g_Limpl_Value u.2.1 h.1 rfl (hn := .nil (zn g)))) ?_
          refine dq 31 rfl (fun _ g u h => LWo.guardY (t := 28) u.1 h18 rfl rfl (LWo.lenM (f := e_impl_Value) (l := y12.Row) u_Limpl_Value u.2.1 (hn := .nil (zn g)))) ?_
          refine dq 32 rfl (fun _ g u h => LWo.guardY (t := 28) u.1 h18 rfl rfl (LWo.int _ u.2.1 rfl rfl (hn := .nil (zn g)))) ?_
          refine dq 33 rfl (fun _ g u h => LWo.guardY (t := 25) u.1 h17 rfl rfl (LWo.pickTM (e_bool (decide ((y12.Row.length : Int) > (0 : Int)))) u.2.1 h18 u.2.2.1 (hn := .nil (zn g)))) ?_
          refine dq 34 rfl (fun _ g u h => LWo.pickFM (e_bool (decide ((y12.Row.length : Int) > (0 : Int)))) u.1 h17 u.2.1 (hn := .nil (zn g))) ?_
          refine dq 35 rfl (fun _ g u h => LWo.move (e_bool (decide ((y12.Row.length : Int) > (0 : Int)))) u.1 (hn := .nil (zn g))) ?_
          refine dq 36 rfl (fun _ g u h => LWo.guardY (t := 35) u.2.1 h19 rfl rfl (LWo.move (e_int t3) u.1 (hn := .nil (zn g)))) ?_
          refine dq 37 rfl (fun _ g u h => LWo.guardY (t := 35) u.1 h19 rfl rfl (LWo.int _ u.2.1 rfl rfl (hn := .nil (zn g)))) ?_
          refine dq 38 rfl (fun _ g u h => LWo.guardY (t := 35) u.1 h19 rfl rfl (LWo.move (e_bool (decide (t3 > (0 : Int)))) u.2.1 (hn := .nil (zn g)))) ?_
          refine dq 39 rfl (fun _ g u h => LWo.guardY (t := 38) u.2.1 h20 rfl rfl (LWo.move (e_Limpl_Write t0) u.1 (hn := .nil (zn g)))) ?_
          refine dq 40 rfl (fun _ g u h => LWo.guardY (t := 38) u.2.1 h20 rfl rfl (LWo.move (e_int t3) u.1 (hn := .nil (zn g)))) ?_
          refine dq 41 rfl (fun _ g u h => LWo.guardY (t := 38) u.1 h20 rfl rfl (LWo.int _ u.2.1 rfl (sub_ck e21) (hn := .nil (zn g)))) ?_
          refine dq 42 rfl (fun _ g u h => LWo.guardY (t := 38) u.1 h20 rfl rfl (LWo.indexM (f := e_impl_Write) e22 u_Limpl_Write s_impl_Write u.2.1 u.2.2.1 (hn := .nil (zn g)))) ?_
          refine dq 43 rfl (fun _ g u h => LWo.guardY (t := 38) u.1 h20 rfl rfl (LWo.fieldAddr _ u_impl_Write rfl s_int u.2.1 rfl (hn := .nil (zn g)))) ?_
          refine dq 44 rfl (fun _ g u h => LWo.guardY (t := 38) u.1 h20 rfl rfl (LWo.load1 (c := (e_int x22.Key)) g_int u.2.1 (hn := .nil (zn g)))) ?_
          refine dq 45 rfl (fun _ g u h => LWo.guardY (t := 38) u.2.1 h20 rfl rfl (LWo.fieldPtr u_impl_Write rfl s_int u.1 rfl (hn := .nil (zn g)))) ?_
          refine dq 46 rfl (fun _ g u h => LWo.guardY (t := 38) u.1 h20 rfl rfl (LWo.loadV1 (e_int y12.Key)  g_int u.2.1 h.1 rfl (hn := .nil (zn g)))) ?_
          refine dq 47 rfl (fun _ g u h => LWo.guardY (t := 38) u.1 h20 rfl rfl (LWo.int _ u.2.1 u.2.2.1 rfl (hn := .nil (zn g)))) ?_
          refine dq 48 rfl (fun _ g u h => LWo.guardY (t := 35) u.1 h19 rfl rfl (LWo.pickTM (e_bool (decide (x22.Key ≥ y12.Key))) u.2.1 h20 u.2.2.1 (hn := .nil (zn g)))) ?_
          refine dq 49 rfl (fun _ g u h => LWo.pickFM (e_bool (decide (x22.Key ≥ y12.Key))) u.1 h19 u.2.1 (hn := .nil (zn g))) ?_
          refine ⟨rfl, by kernel_rfl, hN13 (t0, t3, decide (x22.Key ≥ y12.Key)) _ ⟨rfl, rfl, rfl, trivial⟩ trivial h⟩
         ·have h := bF h20 h
          refine LWP.drawF (l := [_,_,_,_,_,_,_,_,_,_,_,_,_,_,_,_,_,_,_,_,_,_,_,_,_,_,_,_,_,_,_,_,_,_,_]) [] [0, 3, 4] [([4], []), ([15], [4]), ([16], []), ([17], []), ([18], []), ([4, 19], []), ([19, 20], [4]), ([19, 21], []), ([19, 22], []), ([19, 23], []), ([24], []), ([4, 25], []), ([25, 26], [4]), ([25, 27], []), ([4, 28], []), ([28, 29], [4]), ([28, 30], []), ([28, 31], []), ([25, 28, 32], []), ([25, 33], []), ([34], []), ([3, 35], []), ([35, 36], []), ([35, 37], []), ([0, 38], []), ([3, 38], []), ([38, 40], []), ([38, 39, 41], []), ([38, 42], []), ([38, 43], []), ([4, 38], []), ([38, 45], []), ([38, 44, 46], []), ([35, 38, 47], []), ([35, 48], [])] [0, 3, 49] [] mixed (by kernel_rfl) rfl (by decide) ?_
          refine dq 15 rfl (fun _ g u h => LWo.fieldPtr u_impl_Write rfl s_int u.1 rfl (hn := .nil (zn g))) ?_
          refine dq 16 rfl (fun _ g u h => LWo.loadV1 (e_int y12.Key)  g_int u.1 h.1 rfl (hn := .nil (zn g))) ?_
          refine dq 17 rfl (fun _ g u h => LWo.vcall rfl (av3 u.1 rfl rfl) (c_spec_l1In _ _ _ _ e14) (.same (.same (.same (.nil)))) (hn := .nil (zn g))) ?_
          refine dq 18 rfl (fun _ g u h => LWo.not u.1 (hn := .nil (zn g))) ?_
          refine dq 19 rfl (fun _ g u h => LWo.move (e_bool (!x14)) u.1 (hn := .nil (zn g))) ?_
          refine dq 20 rfl (fun _ g u h => LWo.guardY (t := 19) u.2.1 h15 rfl rfl (LWo.fieldPtr u_impl_Write rfl s_Limpl_Value u.1 rfl (hn := .nil (zn g)))) ?_
          refine dq 21 rfl (fun _ g u h => LWo.guardY (t := 19) u.1 h15 rfl rfl (LWo.loadV1 (e_Limpl_Value y12.Row)  g_Limpl_Value u.2.1 h.1 rfl (hn := .nil (zn g)))) ?_
          refine dq 22 rfl (fun _ g u h => LWo.guardY (t := 19) u.1 h15 rfl rfl (LWo.vcall rfl (av1 u.2.1) (c_spec_RowOk _ _ e16) (.same (.nil)) (hn := .nil (zn g)))) ?_
          refine dq 23 rfl (fun _ g u h => LWo.guardY (t := 19) u.1 h15 rfl rfl (LWo.not u.2.1 (hn := .nil (zn g)))) ?_
          refine dq 24 rfl (fun _ g u h => LWo.pickFM (e_bool (!x16)) u.1 h15 u.2.1 (hn := .nil (zn g))) ?_
          refine dq 25 rfl (fun _ g u h => LWo.move (e_bool (!x16)) u.1 (hn := .nil (zn g))) ?_
          refine dq 26 rfl (fun _ g u h => LWo.guardY (t := 25) u.2.1 h17 rfl rfl (LWo.fieldPtr u_impl_Write rfl s_bool u.1 rfl (hn := .nil (zn g)))) ?_
          refine dq 27 rfl (fun _ g u h => LWo.guardY (t := 25) u.1 h17 rfl rfl (LWo.loadV1 (e_bool y12.Gone)  g_bool u.2.1 h.1 rfl (hn := .nil (zn g)))) ?_
          refine dq 28 rfl (fun _ g u h => LWo.guardY (t := 25) u.1 h17 rfl rfl (LWo.move (e_bool y12.Gone) u.2.1 (hn := .nil (zn g)))) ?_
          refine dq 29 rfl (fun _ g u h => LWo.guardY (t := 28) u.2.1 h18 rfl rfl (LWo.fieldPtr u_impl_Write rfl s_Limpl_Value u.1 rfl (hn := .nil (zn g)))) ?_
          refine dq 30 rfl (fun _ g u h => LWo.guardY (t := 28) u.1 h18 rfl rfl (LWo.loadV1 (e_Limpl_Value y12.Row)  g_Limpl_Value u.2.1 h.1 rfl (hn := .nil (zn g)))) ?_
          refine dq 31 rfl (fun _ g u h => LWo.guardY (t := 28) u.1 h18 rfl rfl (LWo.lenM (f := e_impl_Value) (l := y12.Row) u_Limpl_Value u.2.1 (hn := .nil (zn g)))) ?_
          refine dq 32 rfl (fun _ g u h => LWo.guardY (t := 28) u.1 h18 rfl rfl (LWo.int _ u.2.1 rfl rfl (hn := .nil (zn g)))) ?_
          refine dq 33 rfl (fun _ g u h => LWo.guardY (t := 25) u.1 h17 rfl rfl (LWo.pickTM (e_bool (decide ((y12.Row.length : Int) > (0 : Int)))) u.2.1 h18 u.2.2.1 (hn := .nil (zn g)))) ?_
          refine dq 34 rfl (fun _ g u h => LWo.pickFM (e_bool (decide ((y12.Row.length : Int) > (0 : Int)))) u.1 h17 u.2.1 (hn := .nil (zn g))) ?_
          refine dq 35 rfl (fun _ g u h => LWo.move (e_bool (decide ((y12.Row.length : Int) > (0 : Int)))) u.1 (hn := .nil (zn g))) ?_
          refine dq 36 rfl (fun _ g u h => LWo.guardY (t := 35) u.2.1 h19 rfl rfl (LWo.move (e_int t3) u.1 (hn := .nil (zn g)))) ?_
          refine dq 37 rfl (fun _ g u h => LWo.guardY (t := 35) u.1 h19 rfl rfl (LWo.int _ u.2.1 rfl rfl (hn := .nil (zn g)))) ?_
          refine dq 38 rfl (fun _ g u h => LWo.guardY (t := 35) u.1 h19 rfl rfl (LWo.move (e_bool (decide (t3 > (0 : Int)))) u.2.1 (hn := .nil (zn g)))) ?_
          refine dq 39 rfl (fun _ g u h => LWo.guardNU (t := 38) u.2.1 h20 rfl rfl rfl rfl rfl (.nil (zn g))) ?_
          refine dq 40 rfl (fun _ g u h => LWo.guardNU (t := 38) u.2.1 h20 rfl rfl rfl rfl rfl (.nil (zn g))) ?_
          refine dq 41 rfl (fun _ g u h => LWo.guardNU (t := 38) u.1 h20 rfl rfl rfl rfl rfl (.nil (zn g))) ?_
          refine dq 42 rfl (fun _ g u h => LWo.guardNU (t := 38) u.1 h20 rfl rfl rfl rfl rfl (.nil (zn g))) ?_
          refine dq 43 rfl (fun _ g u h => LWo.guardNU (t := 38) u.1 h20 rfl rfl rfl rfl rfl (.nil (zn g))) ?_
          refine dq 44 rfl (fun _ g u h => LWo.guardNU (t := 38) u.1 h20 rfl rfl rfl rfl rfl (.nil (zn g))) ?_
          refine dq 45 rfl (fun _ g u h => LWo.guardNU (t := 38) u.2.1 h20 rfl rfl rfl rfl rfl (.nil (zn g))) ?_
          refine dq 46 rfl (fun _ g u h => LWo.guardNU (t := 38) u.1 h20 rfl rfl rfl rfl rfl (.nil (zn g))) ?_
          refine dq 47 rfl (fun _ g u h => LWo.guardNU (t := 38) u.1 h20 rfl rfl rfl rfl rfl (.nil (zn g))) ?_
          refine dq 48 rfl (fun _ g u h => LWo.guardY (t := 35) u.1 h19 rfl rfl (LWo.pickFM (e_bool false) u.2.1 h20 rfl (hn := .nil (zn g)))) ?_
          refine dq 49 rfl (fun _ g u h => LWo.pickFM (e_bool false) u.1 h19 u.2.1 (hn := .nil (zn g))) ?_
          refine ⟨rfl, by kernel_rfl, hN13 (t0, t3, false) _ ⟨rfl, rfl, rfl, trivial⟩ trivial h⟩
       ·have h := bF h18 h
        refine bS (decide (t3 > (0 : Int))) (fun h23 => ?_) (fun h23 => ?_)
        ·have h := bT h23 h
         refine bk h fun x24 e24 h => ?_
         refine bk h fun x25 e25 h => ?_
         refine LWP.drawF (l := [_,_,_,_,_,_,_,_,_,_,_,_,_,_,_,_,_,_,_,_,_,_,_,_,_,_,_,_,_,_,_,_,_,_,_]) [] [0, 3, 4] [([4], []), ([15], [4]), ([16], []), ([17], []), ([18], []), ([4, 19], []), ([19, 20], [4]), ([19, 21], []), ([19, 22], []), ([19, 23], []), ([24], []), ([4, 25], []), ([25, 26], [4]), ([25, 27], []), ([4, 28], []), ([28, 29], []), ([28, 30], []), ([28, 31], []), ([25, 28, 32], []), ([25, 33], []), ([34], []), ([3, 35], []), ([35, 36], []), ([35, 37], []), ([0, 38], []), ([3, 38], []), ([38, 40], []), ([38, 39, 41], []), ([38, 42], []), ([38, 43], []), ([4, 38], []), ([38, 45], [4]), ([38, 44, 46], []), ([35, 38, 47], []), ([35, 48], [])] [0, 3, 49] [] mixed (by kernel_rfl) rfl (by decide) ?_
         refine dq 15 rfl (fun _ g u h => LWo.fieldPtr u_impl_Write rfl s_int u.1 rfl (hn := .nil (zn g))) ?_
         refine dq 16 rfl (fun _ g u h => LWo.loadV1 (e_int y12.Key)  g_int u.1 h.1 rfl (hn := .nil (zn g))) ?_
         refine dq 17 rfl (fun _ g u h => LWo.vcall rfl (av3 u.1 rfl rfl) (c_spec_l1In _ _ _ _ e14) (.same (.same (.same (.nil)))) (hn := .nil (zn g))) ?_
         refine dq 18 rfl (fun _ g u h => LWo.not u.1 (hn := .nil (zn g))) ?_
         refine dq 19 rfl (fun _ g u h => LWo.move (e_bool (!x14)) u.1 (hn := .nil (zn g))) ?_
         refine dq 20 rfl (fun _ g u h => LWo.guardY (t := 19) u.2.1 h15 rfl rfl (LWo.fieldPtr u_impl_Write rfl s_Limpl_Value u.1 rfl (hn := .nil (zn g)))) ?_
         refine dq 21 rfl (fun _ g u h => LWo.guardY (t := 19) u.1 h15 rfl rfl (LWo.loadV1 (e_Limpl_Value y12.Row)  g_Limpl_Value u.2.1 h.1 rfl (hn := .nil (zn g)))) ?_
         refine dq 22 rfl (fun _ g u h => LWo.guardY (t := 19) u.1 h15 rfl rfl (LWo.vcall rfl (av1 u.2.1) (c_spec_RowOk _ _ e16) (.same (.nil)) (hn := .nil (zn g)))) ?_
         refine dq 23 rfl (fun _ g u h => LWo.guardY (t := 19) u.1 h15 rfl rfl (LWo.not u.2.1 (hn := .nil (zn g)))) ?_
         refine dq 24 rfl (fun _ g u h => LWo.pickFM (e_bool (!x16)) u.1 h15 u.2.1 (hn := .nil (zn g))) ?_
         refine dq 25 rfl (fun _ g u h => LWo.move (e_bool (!x16)) u.1 (hn := .nil (zn g))) ?_
         refine dq 26 rfl (fun _ g u h => LWo.guardY (t := 25) u.2.1 h17 rfl rfl (LWo.fieldPtr u_impl_Write rfl s_bool u.1 rfl (hn := .nil (zn g)))) ?_
         refine dq 27 rfl (fun _ g u h => LWo.guardY (t := 25) u.1 h17 rfl rfl (LWo.loadV1 (e_bool y12.Gone)  g_bool u.2.1 h.1 rfl (hn := .nil (zn g)))) ?_
         refine dq 28 rfl (fun _ g u h => LWo.guardY (t := 25) u.1 h17 rfl rfl (LWo.move (e_bool y12.Gone) u.2.1 (hn := .nil (zn g)))) ?_
         refine dq 29 rfl (fun _ g u h => LWo.guardNU (t := 28) u.2.1 h18 rfl rfl rfl rfl rfl (.nil (zn g))) ?_
         refine dq 30 rfl (fun _ g u h => LWo.guardNU (t := 28) u.1 h18 rfl rfl rfl rfl rfl (.nil (zn g))) ?_
         refine dq 31 rfl (fun _ g u h => LWo.guardNU (t := 28) u.1 h18 rfl rfl rfl rfl rfl (.nil (zn g))) ?_
         refine dq 32 rfl (fun _ g u h => LWo.guardNU (t := 28) u.1 h18 rfl rfl rfl rfl rfl (.nil (zn g))) ?_
         refine dq 33 rfl (fun _ g u h => LWo.guardY (t := 25) u.1 h17 rfl rfl (LWo.pickFM (e_bool false) u.2.1 h18 rfl (hn := .nil (zn g)))) ?_
         refine dq 34 rfl (fun _ g u h => LWo.pickFM (e_bool false) u.1 h17 u.2.1 (hn := .nil (zn g))) ?_
         refine dq 35 rfl (fun _ g u h => LWo.move (e_bool false) u.1 (hn := .nil (zn g))) ?_
         refine dq 36 rfl (fun _ g u h => LWo.guardY (t := 35) u.2.1 rfl rfl rfl (LWo.move (e_int t3) u.1 (hn := .nil (zn g)))) ?_
         refine dq 37 rfl (fun _ g u h => LWo.guardY (t := 35) u.1 rfl rfl rfl (LWo.int _ u.2.1 rfl rfl (hn := .nil (zn g)))) ?_
         refine dq 38 rfl (fun _ g u h => LWo.guardY (t := 35) u.1 rfl rfl rfl (LWo.move (e_bool (decide (t3 > (0 : Int)))) u.2.1 (hn := .nil (zn g)))) ?_
         refine dq 39 rfl (fun _ g u h => LWo.guardY (t := 38) u.2.1 h23 rfl rfl (LWo.move (e_Limpl_Write t0) u.1 (hn := .nil (zn g)))) ?_
         refine dq 40 rfl (fun _ g u h => LWo.guardY (t := 38) u.2.1 h23 rfl rfl (LWo.move (e_int t3) u.1 (hn := .nil (zn g)))) ?_
         refine dq 41 rfl (fun _ g u h => LWo.guardY (t := 38) u.1 h23 rfl rfl (LWo.int _ u.2.1 rfl (sub_ck e24) (hn := .nil (zn g)))) ?_
         refine dq 42 rfl (fun _ g u h => LWo.guardY (t := 38) u.1 h23 rfl rfl (LWo.indexM (f := e_impl_Write) e25 u_Limpl_Write s_impl_Write u.2.1 u.2.2.1 (hn := .nil (zn g)))) ?_
         refine dq 43 rfl (fun _ g u h => LWo.guardY (t := 38) u.1 h23 rfl rfl (LWo.fieldAddr _ u_impl_Write rfl s_int u.2.1 rfl (hn := .nil (zn g)))) ?_
         refine dq 44 rfl (fun _ g u h => LWo.guardY (t := 38) u.1 h23 rfl rfl (LWo.load1 (c := (e_int x25.Key)) g_int u.2.1 (hn := .nil (zn g)))) ?_
         refine dq 45 rfl (fun _ g u h => LWo.guardY (t := 38) u.2.1 h23 rfl rfl (LWo.fieldPtr u_impl_Write rfl s_int u.1 rfl (hn := .nil (zn g)))) ?_
         refine dq 46 rfl (fun _ g u h => LWo.guardY (t := 38) u.1 h23 rfl rfl (LWo.loadV1 (e_int y12.Key)  g_int u.2.1 h.1 rfl (hn := .nil (zn g)))) ?_
         refine dq 47 rfl (fun _ g u h => LWo.guardY (t := 38) u.1 h23 rfl rfl (LWo.int _ u.2.1 u.2.2.1 rfl (hn := .nil (zn g)))) ?_
         refine dq 48 rfl (fun _ g u h => LWo.guardY (t := 35) u.1 rfl rfl rfl (LWo.pickTM (e_bool (decide (x25.Key ≥ y12.Key))) u.2.1 h23 u.2.2.1 (hn := .nil (zn g)))) ?_
         refine dq 49 rfl (fun _ g u h => LWo.pickFM (e_bool (decide (x25.Key ≥ y12.Key))) u.1 rfl u.2.1 (hn := .nil (zn g))) ?_
         refine ⟨rfl, by kernel_rfl, hN13 (t0, t3, decide (x25.Key ≥ y12.Key)) _ ⟨rfl, rfl, rfl, trivial⟩ trivial h⟩
        ·have h := bF h23 h
         refine LWP.drawF (l := [_,_,_,_,_,_,_,_,_,_,_,_,_,_,_,_,_,_,_,_,_,_,_,_,_,_,_,_,_,_,_,_,_,_,_]) [] [0, 3, 4] [([4], []), ([15], [4]), ([16], []), ([17], []), ([18], []), ([4, 19], []), ([19, 20], [4]), ([19, 21], []), ([19, 22], []), ([19, 23], []), ([24], []), ([4, 25], []), ([25, 26], [4]), ([25, 27], []), ([4, 28], []), ([28, 29], []), ([28, 30], []), ([28, 31], []), ([25, 28, 32], []), ([25, 33], []), ([34], []), ([3, 35], []), ([35, 36], []), ([35, 37], []), ([0, 38], []), ([3, 38], []), ([38, 40], []), ([38, 39, 41], []), ([38, 42], []), ([38, 43], []), ([4, 38], []), ([38, 45], []), ([38, 44, 46], []), ([35, 38, 47], []), ([35, 48], [])] [0, 3, 49] [] mixed (by kernel_rfl) rfl (by decide) ?_
         refine dq 15 rfl (fun _ g u h => LWo.fieldPtr u_impl_Write rfl s_int u.1 rfl (hn := .nil (zn g))) ?_
         refine dq 16 rfl (fun _ g u h => LWo.loadV1 (e_int y12.Key)  g_int u.1 h.1 rfl (hn := .nil (zn g))) ?_
         refine dq 17 rfl (fun _ g u h => LWo.vcall rfl (av3 u.1 rfl rfl) (c_spec_l1In _ _ _ _ e14) (.same (.same (.same (.nil)))) (hn := .nil (zn g))) ?_
         refine dq 18 rfl (fun _ g u h => LWo.not u.1 (hn := .nil (zn g))) ?_
         refine dq 19 rfl (fun _ g u h => LWo.move (e_bool (!x14)) u.1 (hn := .nil (zn g))) ?_
         refine dq 20 rfl (fun _ g u h => LWo.guardY (t := 19) u.2.1 h15 rfl rfl (LWo.fieldPtr u_impl_Write rfl s_Limpl_Value u.1 rfl (hn := .nil (zn g)))) ?_
         refine dq 21 rfl (fun _ g u h => LWo.guardY (t := 19) u.1 h15 rfl rfl (LWo.loadV1 (e_Limpl_Value y12.Row)  g_Limpl_Value u.2.1 h.1 rfl (hn := .nil (zn g)))) ?_
         refine dq 22 rfl (fun _ g u h => LWo.guardY (t := 19) u.1 h15 rfl rfl (LWo.vcall rfl (av1 u.2.1) (c_spec_RowOk _ _ e16) (.same (.nil)) (hn := .nil (zn g)))) ?_
         refine dq 23 rfl (fun _ g u h => LWo.guardY (t := 19) u.1 h15 rfl rfl (LWo.not u.2.1 (hn := .nil (zn g)))) ?_
         refine dq 24 rfl (fun _ g u h => LWo.pickFM (e_bool (!x16)) u.1 h15 u.2.1 (hn := .nil (zn g))) ?_
         refine dq 25 rfl (fun _ g u h => LWo.move (e_bool (!x16)) u.1 (hn := .nil (zn g))) ?_
         refine dq 26 rfl (fun _ g u h => LWo.guardY (t := 25) u.2.1 h17 rfl rfl (LWo.fieldPtr u_impl_Write rfl s_bool u.1 rfl (hn := .nil (zn g)))) ?_
         refine dq 27 rfl (fun _ g u h => LWo.guardY (t := 25) u.1 h17 rfl rfl (LWo.loadV1 (e_bool y12.Gone)  g_bool u.2.1 h.1 rfl (hn := .nil (zn g)))) ?_
         refine dq 28 rfl (fun _ g u h => LWo.guardY (t := 25) u.1 h17 rfl rfl (LWo.move (e_bool y12.Gone) u.2.1 (hn := .nil (zn g)))) ?_
         refine dq 29 rfl (fun _ g u h => LWo.guardNU (t := 28) u.2.1 h18 rfl rfl rfl rfl rfl (.nil (zn g))) ?_
         refine dq 30 rfl (fun _ g u h => LWo.guardNU (t := 28) u.1 h18 rfl rfl rfl rfl rfl (.nil (zn g))) ?_
         refine dq 31 rfl (fun _ g u h => LWo.guardNU (t := 28) u.1 h18 rfl rfl rfl rfl rfl (.nil (zn g))) ?_
         refine dq 32 rfl (fun _ g u h => LWo.guardNU (t := 28) u.1 h18 rfl rfl rfl rfl rfl (.nil (zn g))) ?_
         refine dq 33 rfl (fun _ g u h => LWo.guardY (t := 25) u.1 h17 rfl rfl (LWo.pickFM (e_bool false) u.2.1 h18 rfl (hn := .nil (zn g)))) ?_
         refine dq 34 rfl (fun _ g u h => LWo.pickFM (e_bool false) u.1 h17 u.2.1 (hn := .nil (zn g))) ?_
         refine dq 35 rfl (fun _ g u h => LWo.move (e_bool false) u.1 (hn := .nil (zn g))) ?_
         refine dq 36 rfl (fun _ g u h => LWo.guardY (t := 35) u.2.1 rfl rfl rfl (LWo.move (e_int t3) u.1 (hn := .nil (zn g)))) ?_
         refine dq 37 rfl (fun _ g u h => LWo.guardY (t := 35) u.1 rfl rfl rfl (LWo.int _ u.2.1 rfl rfl (hn := .nil (zn g)))) ?_
         refine dq 38 rfl (fun _ g u h => LWo.guardY (t := 35) u.1 rfl rfl rfl (LWo.move (e_bool (decide (t3 > (0 : Int)))) u.2.1 (hn := .nil (zn g)))) ?_
         refine dq 39 rfl (fun _ g u h => LWo.guardNU (t := 38) u.2.1 h23 rfl rfl rfl rfl rfl (.nil (zn g))) ?_
         refine dq 40 rfl (fun _ g u h => LWo.guardNU (t := 38) u.2.1 h23 rfl rfl rfl rfl rfl (.nil (zn g))) ?_
         refine dq 41 rfl (fun _ g u h => LWo.guardNU (t := 38) u.1 h23 rfl rfl rfl rfl rfl (.nil (zn g))) ?_
         refine dq 42 rfl (fun _ g u h => LWo.guardNU (t := 38) u.1 h23 rfl rfl rfl rfl rfl (.nil (zn g))) ?_
         refine dq 43 rfl (fun _ g u h => LWo.guardNU (t := 38) u.1 h23 rfl rfl rfl rfl rfl (.nil (zn g))) ?_
         refine dq 44 rfl (fun _ g u h => LWo.guardNU (t := 38) u.1 h23 rfl rfl rfl rfl rfl (.nil (zn g))) ?_
         refine dq 45 rfl (fun _ g u h => LWo.guardNU (t := 38) u.2.1 h23 rfl rfl rfl rfl rfl (.nil (zn g))) ?_
         refine dq 46 rfl (fun _ g u h => LWo.guardNU (t := 38) u.1 h23 rfl rfl rfl rfl rfl (.nil (zn g))) ?_
         refine dq 47 rfl (fun _ g u h => LWo.guardNU (t := 38) u.1 h23 rfl rfl rfl rfl rfl (.nil (zn g))) ?_
         refine dq 48 rfl (fun _ g u h => LWo.guardY (t := 35) u.1 rfl rfl rfl (LWo.pickFM (e_bool false) u.2.1 h23 rfl (hn := .nil (zn g)))) ?_
         refine dq 49 rfl (fun _ g u h => LWo.pickFM (e_bool false) u.1 rfl u.2.1 (hn := .nil (zn g))) ?_
         refine ⟨rfl, by kernel_rfl, hN13 (t0, t3, false) _ ⟨rfl, rfl, rfl, trivial⟩ trivial h⟩
   ·have h := bF h8 h
    refine LWP.exit (hN2 () _ trivial trivial h)

def m_spec_LogOk_j2 (t0 : (List S_impl_Entry)) : Option Bool :=
  some (decide ((t0.length : Int) ≤ (12 : Int)))
def m_spec_LogOk_j1 (k1 : (List S_impl_Entry) → Int → Option Bool) (t0 : (List S_impl_Entry)) (t3 : Int) (t43 : Bool) : Option Bool :=
  bif t43 then (some false)
  else ((ckI (t3 + (1 : Int))).bind fun x23 =>
  k1 t0 x23)
def m_spec_LogOk_l1 : Nat → (List S_impl_Entry) → Int → Option Bool
  | 0, _, _ => none
  | n1 + 1, t0, t3 =>
    bif decide (t3 < (t0.length : Int)) then ((at? t0 t3).bind fun x11 =>
    (m_spec_l1In x11.Time (1 : Int) (40 : Int)).bind fun x12 =>
    bif (!x12) then (m_spec_LogOk_j1  (m_spec_LogOk_l1  n1) t0 t3 true)
    else ((at? t0 t3).bind fun x14 =>
      (m_spec_WritesOk x14.Writes).bind fun x15 =>
      bif (!x15) then (m_spec_LogOk_j1  (m_spec_LogOk_l1  n1) t0 t3 true)
      else (bif decide (t3 > (0 : Int)) then ((ckI (t3 - (1 : Int))).bind fun x18 =>
          (at? t0 x18).bind fun x19 =>
          (at? t0 t3).bind fun x20 =>
          m_spec_LogOk_j1  (m_spec_LogOk_l1  n1) t0 t3 (decide (x19.Time ≥ x20.Time)))
        else (m_spec_LogOk_j1  (m_spec_LogOk_l1  n1) t0 t3 false))))
    else (m_spec_LogOk_j2  t0)
def m_spec_LogOk (a0 : (List S_impl_Entry)) : Option Bool :=
  m_spec_LogOk_l1  (((a0.length : Int) - (0 : Int)).toNat + 1) a0 (0 : Int)
theorem c_spec_LogOk (a0 : (List S_impl_Entry)) (r : Bool) (h : m_spec_LogOk a0 = some r) : Ret Try.prog f_spec_LogOk [e_Limpl_Entry a0] (e_bool r) := by
  refine Does.goG [] F_spec_LogOk rfl e_spec_LogOk n_spec_LogOk rfl (rvs := [.tmp 2]) rfl rfl ?_
  intro w0 ok0 lent ρ0
  refine LWP.seq_k fun N1 hN1 => ?_
  refine LWP.region (l := [_]) ?_
  refine LWo.assign (e_bool false) rfl (hn := ?_)
  refine LWo.nil (hN1 _ ?_)
  refine LWP.join (α := (List S_impl_Entry)) (fun z : (List S_impl_Entry) => [(0, (e_Limpl_Entry z))]) (fun z : (List S_impl_Entry) => []) (fun z : (List S_impl_Entry) => m_spec_LogOk_j2  z) r (fun _ => by simp [hkeys]) ?_ ?_
  ·rintro t0 h
   replace h : m_spec_LogOk_j2  t0 = some _ := h
   refine LWP.seq_k fun N24 hN24 => ?_
   refine LWP.region (l := [_,_,_,_]) ?_
   refine LWo.move (e_Limpl_Entry t0) rfl (hn := ?_)
   refine LWo.lenM (f := e_impl_Entry) (l := t0) u_Limpl_Entry rfl (hn := ?_)
   refine LWo.int _ rfl rfl rfl (hn := ?_)
   refine LWo.assign (e_bool (decide ((t0.length : Int) ≤ (12 : Int)))) rfl (hn := ?_)
   refine LWo.nil (hN24 _ ?_)
   obtain rfl := Option.some.inj h
   refine LWP.ret (QG.mk (.inr rfl) (.cons (.tmp (x := (e_bool (decide ((t0.length : Int) ≤ (12 : Int))))) rfl) (.nil)) (RetOK.one0 (.pure rfl) (by decide)) rfl rfl)
  ·intro N2 hN2
   refine LWP.seq_k fun N3 hN3 => ?_
   refine LWP.region (l := [_]) ?_
   refine LWo.assign (e_int (0 : Int)) rfl (hn := ?_)
   refine LWo.nil (hN3 _ ?_)
   refine LWP.block ?_
   refine LWP.loopM (α := (List S_impl_Entry) × Int) (fun z : (List S_impl_Entry) × Int => [(0, (e_Limpl_Entry z.1)), (3, (e_int z.2))]) (fun z : (List S_impl_Entry) × Int => []) (fun n1 (z : (List S_impl_Entry) × Int) => m_spec_LogOk_l1  n1 z.1 z.2) r _ (a0, (0 : Int)) h (fun _ => rfl) (fun _ => by simp [hkeys]) ⟨rfl, rfl, trivial⟩ trivial ?_
   rintro n1 ⟨t0, t3⟩ h N4 hN4
   replace h : m_spec_LogOk_l1  (n1 + 1) t0 t3 = some _ := h
   refine LWP.seq_k fun N6 hN6 => ?_
   refine LWP.seq_k fun N7 hN7 => ?_
   refine LWP.region (l := [_,_,_,_]) ?_
   refine LWo.move (e_int t3) rfl (hn := ?_)
   refine LWo.move (e_Limpl_Entry t0) rfl (hn := ?_)
   refine LWo.lenM (f := e_impl_Entry) (l := t0) u_Limpl_Entry rfl (hn := ?_)
   refine LWo.int _ rfl rfl rfl (hn := ?_)
   refine LWo.nil (hN7 _ ?_)
   refine LWP.cond_split rfl (fun h8 => ?_) (fun h8 => ?_)
   ·have h := bT h8 h
    refine LWP.skip (hN6 _ ?_)
    refine LWP.seq_k fun N9 hN9 => ?_
    refine LWP.block ?_
    refine LWP.join (α := (List S_impl_Entry) × Int × Bool) (fun z : (List S_impl_Entry) × Int × Bool => [(0, (e_Limpl_Entry z.1)), (3, (e_int z.2.1)), (43, (e_bool z.2.2))]) (fun z : (List S_impl_Entry) × Int × Bool => []) (fun z : (List S_impl_Entry) × Int × Bool => m_spec_LogOk_j1  (m_spec_LogOk_l1  n1) z.1 z.2.1 z.2.2) r (fun _ => by simp [hkeys]) ?_ ?_
    ·rintro ⟨t0, t3, t43⟩ h
     replace h : m_spec_LogOk_j1  (m_spec_LogOk_l1  n1) t0 t3 t43 = some _ := h
     refine LWP.cond_split rfl (fun h21 => ?_) (fun h21 => ?_)
     ·have h := bT h21 h
      refine LWP.seq_k fun N22 hN22 => ?_
      refine LWP.region (l := [_]) ?_
      refine LWo.assign (e_bool false) rfl (hn := ?_)
      refine LWo.nil (hN22 _ ?_)
      obtain rfl := Option.some.inj h
      refine LWP.ret (QG.mk (.inr rfl) (.cons (.tmp (x := (e_bool false)) rfl) (.nil)) (RetOK.one0 (.pure rfl) (by decide)) rfl rfl)
     ·have h := bF h21 h
      refine LWP.skip (hN9 _ ?_)
      refine LWP.region (l := [_,_,_]) ?_
      refine LWo.move (e_int t3) rfl (hn := ?_)
      refine bk h fun x23 e23 h => ?_
      refine LWo.int _ rfl rfl (add_ck e23) (hn := ?_)
      refine LWo.assign (e_int x23) rfl (hn := ?_)
      refine LWo.nil (hN4 (t0, x23) _ ⟨rfl, rfl, trivial⟩ trivial h)
    ·intro N10 hN10
     refine bk h fun x11 e11 h => ?_
     refine bk h fun x12 e12 h => ?_
     refine bS ((!x12)) (fun h13 => ?_) (fun h13 => ?_)
     ·have h := bT h13 h
      refine LWP.drawF (l := [_,_,_,_,_,_,_,_,_,_,_,_,_,_,_,_,_,_,_,_,_,_,_,_,_,_,_,_,_,_,_,_,_,_]) [] [0, 3] [([0], []), ([3], []), ([10, 11], []), ([12], []), ([13], []), ([14], []), ([15], []), ([16], []), ([0, 17], []), ([3, 17], []), ([17, 18, 19], []), ([17, 20], []), ([17, 21], []), ([17, 22], []), ([17, 23], []), ([17, 24], []), ([25], []), ([3, 26], []), ([26, 27], []), ([26, 28], []), ([0, 29], []), ([3, 29], []), ([29, 31], []), ([29, 30, 32], []), ([29, 33], []), ([29, 34], []), ([0, 29], []), ([3, 29], []), ([29, 36, 37], []), ([29, 38], []), ([29, 39], []), ([29, 35, 40], []), ([26, 29, 41], []), ([26, 42], [])] [0, 3, 43] [] mixed (by kernel_rfl) rfl (by decide) ?_
      refine dq 10 rfl (fun _ g u h => LWo.move (e_Limpl_Entry t0) u.1 (hn := .nil (zn g))) ?_
      refine dq 11 rfl (fun _ g u h => LWo.move (e_int t3) u.1 (hn := .nil (zn g))) ?_
      refine dq 12 rfl (fun _ g u h => LWo.indexM (f := e_impl_Entry) e11 u_Limpl_Entry s_impl_Entry u.1 u.2.1 (hn := .nil (zn g))) ?_
      refine dq 13 rfl (fun _ g u h => LWo.fieldAddr _ u_impl_Entry rfl s_int u.1 rfl (hn := .nil (zn g))) ?_
      refine dq 14 rfl (fun _ g u h => LWo.load1 (c := (e_int x11.Time)) g_int u.1 (hn := .nil (zn g))) ?_
      refine dq 15 rfl (fun _ g u h => LWo.vcall rfl (av3 u.1 rfl rfl) (c_spec_l1In _ _ _ _ e12) (.same (.same (.same (.nil)))) (hn := .nil (zn g))) ?_
      refine dq 16 rfl (fun _ g u h => LWo.not u.1 (hn := .nil (zn g))) ?_
      refine dq 17 rfl (fun _ g u h => LWo.move (e_bool (!x12)) u.1 (hn := .nil (zn g))) ?_
      refine dq 18 rfl (fun _ g u h => LWo.guardNU (t := 17) u.2.1 h13 rfl rfl rfl rfl rfl (.nil (zn g))) ?_
      refine dq 19 rfl (fun _ g u h => LWo.guardNU (t := 17) u.2.1 h13 rfl rfl rfl rfl rfl (.nil (zn g))) ?_
      refine dq 20 rfl (fun _ g u h => LWo.guardNU (t := 17) u.1 h13 rfl rfl rfl rfl rfl (.nil (zn g))) ?_
      refine dq 21 rfl (fun _ g u h => LWo.guardNU (t := 17) u.1 h13 rfl rfl rfl rfl rfl (.nil (zn g))) ?_
      refine dq 22 rfl (fun _ g u h => LWo.guardNU (t := 17) u.1 h13 rfl rfl rfl rfl rfl (.nil (zn g))) ?_
      refine dq 23 rfl (fun _ g u h => LWo.guardNU (t := 17) u.1 h13 rfl rfl rfl rfl rfl (.nil (zn g))) ?_
      refine dq 24 rfl (fun _ g u h => LWo.guardNU (t := 17) u.1 h13 rfl rfl rfl rfl rfl (.nil (zn g))) ?_
      refine dq 25 rfl (fun _ g u h => LWo.pickTM (e_bool true) u.1 h13 rfl (hn := .nil (zn g))) ?_
      refine dq 26 rfl (fun _ g u h => LWo.move (e_bool true) u.1 (hn := .nil (zn g))) ?_
      refine dq 27 rfl (fun _ g u h => LWo.guardNU (t := 26) u.2.1 rfl rfl rfl rfl rfl rfl (.nil (zn g))) ?_
      refine dq 28 rfl (fun _ g u h => LWo.guardNU (t := 26) u.1 rfl rfl rfl rfl rfl rfl (.nil (zn g))) ?_
      refine dq 29 rfl (fun _ g u h => LWo.guardNU (t := 26) u.1 rfl rfl rfl rfl rfl rfl (.nil (zn g))) ?_
      refine dq 30 rfl (fun _ g u h => LWo.guardU (t := 29) u.2.1 rfl rfl rfl rfl (.nil (zn g))) ?_
      refine dq 31 rfl (fun _ g u h => LWo.guardU (t := 29) u.2.1 rfl rfl rfl rfl (.nil (zn g))) ?_
      refine dq 32 rfl (fun _ g u h => LWo.guardU (t := 29) u.1 rfl rfl rfl rfl (.nil (zn g))) ?_
      refine dq 33 rfl (fun _ g u h => LWo.guardU (t := 29) u.1 rfl rfl rfl rfl (.nil (zn g))) ?_
      refine dq 34 rfl (fun _ g u h => LWo.guardU (t := 29) u.1 rfl rfl rfl rfl (.nil (zn g))) ?_
      refine dq 35 rfl (fun _ g u h => LWo.guardU (t := 29) u.1 rfl rfl rfl rfl (.nil (zn g))) ?_
      refine dq 36 rfl (fun _ g u h => LWo.guardU (t := 29) u.2.1 rfl rfl rfl rfl (.nil (zn g))) ?_
      refine dq 37 rfl (fun _ g u h => LWo.guardU (t := 29) u.2.1 rfl rfl rfl rfl (.nil (zn g))) ?_
      refine dq 38 rfl (fun _ g u h => LWo.guardU (t := 29) u.1 rfl rfl rfl rfl (.nil (zn g))) ?_
      refine dq 39 rfl (fun _ g u h => LWo.guardU (t := 29) u.1 rfl rfl rfl rfl (.nil (zn g))) ?_
      refine dq 40 rfl (fun _ g u h => LWo.guardU (t := 29) u.1 rfl rfl rfl rfl (.nil (zn g))) ?_
      refine dq 41 rfl (fun _ g u h => LWo.guardU (t := 29) u.1 rfl rfl rfl rfl (.nil (zn g))) ?_
      refine dq 42 rfl (fun _ g u h => LWo.guardNU (t := 26) u.1 rfl rfl rfl rfl rfl rfl (.nil (zn g))) ?_
      refine dq 43 rfl (fun _ g u h => LWo.pickTM (e_bool true) u.1 rfl rfl (hn := .nil (zn g))) ?_
      refine ⟨rfl, by kernel_rfl, hN10 (t0, t3, true) _ ⟨rfl, rfl, rfl, trivial⟩ trivial h⟩
     ·have h := bF h13 h
      refine bk h fun x14 e14 h => ?_
      refine bk h fun x15 e15 h => ?_
      refine bS ((!x15)) (fun h16 => ?_) (fun h16 => ?_)
      ·have h := bT h16 h
       refine LWP.drawF (l := [_,_,_,_,_,_,_,_,_,_,_,_,_,_,_,_,_,_,_,_,_,_,_,_,_,_,_,_,_,_,_,_,_,_]) [] [0, 3] [([0], []), ([3], []), ([10, 11], []), ([12], []), ([13], []), ([14], []), ([15], []), ([16], []), ([0, 17], []), ([3, 17], []), ([17, 18, 19], []), ([17, 20], []), ([17, 21], []), ([17, 22], []), ([17, 23], []), ([17, 24], []), ([25], []), ([3, 26], []), ([26, 27], []), ([26, 28], []), ([0, 29], []), ([3, 29], []), ([29, 31], []), ([29, 30, 32], []), ([29, 33], []), ([29, 34], []), ([0, 29], []), ([3, 29], []), ([29, 36, 37], []), ([29, 38], []), ([29, 39], []), ([29, 35, 40], []), ([26, 29, 41], []), ([26, 42], [])] [0, 3, 43] [] mixed (by kernel_rfl) rfl (by decide) ?_
       refine dq 10 rfl (fun _ g u h => LWo.move (e_Limpl_Entry t0) u.1 (hn := .nil (zn g))) ?_
       refine dq 11 rfl (fun _ g u h => LWo.move (e_int t3) u.1 (hn := .nil (zn g))) ?_
       refine dq 12 rfl (fun _ g u h => LWo.indexM (f := e_impl_Entry) e11 u_Limpl_Entry s_impl_Entry u.1 u.2.1 (hn := .nil (zn g))) ?_
       refine dq 13 rfl (fun _ g u h => LWo.fieldAddr _ u_impl_Entry rfl s_int u.1 rfl (hn := .nil (zn g))) ?_
       refine dq 14 rfl (fun _ g u h => LWo.load1 (c := (e_int x11.Time)) g_int u.1 (hn := .nil (zn g))) ?_
       refine dq 15 rfl (fun _ g u h => LWo.vcall rfl (av3 u.1 rfl rfl) (c_spec_l1In _ _ _ _ e12) (.same (.same (.same (.nil)))) (hn := .nil (zn g))) ?_
       refine dq 16 rfl (fun _ g u h => LWo.not u.1 (hn := .nil (zn g))) ?_
       refine dq 17 rfl (fun _ g u h => LWo.move (e_bool (!x12)) u.1 (hn := .nil (zn g))) ?_
       refine dq 18 rfl (fun _ g u h => LWo.guardY (t := 17) u.2.1 h13 rfl rfl (LWo.move (e_Limpl_Entry t0) u.1 (hn := .nil (zn g)))) ?_
       refine dq 19 rfl (fun _ g u h => LWo.guardY (t := 17) u.2.1 h13 rfl rfl (LWo.move (e_int t3) u.1 (hn := .nil (zn g)))) ?_
       refine dq 20 rfl (fun _ g u h => LWo.guardY (t := 17) u.1 h13 rfl rfl (LWo.indexM (f := e_impl_Entry) e14 u_Limpl_Entry s_impl_Entry u.2.1 u.2.2.1 (hn := .nil (zn g)))) ?_
       refine dq 21 rfl (fun _ g u h => LWo.guardY (t := 17) u.1 h13 rfl rfl (LWo.fieldAddr _ u_impl_Entry rfl s_Limpl_Write u.2.1 rfl (hn := .nil (zn g)))) ?_
       refine dq 22 rfl (fun _ g u h => LWo.guardY (t := 17) u.1 h13 rfl rfl (LWo.load1 (c := (e_Limpl_Write x14.Writes)) g_Limpl_Write u.2.1 (hn := .nil (zn g)))) ?_
       refine dq 23 rfl (fun _ g u h => LWo.guardY (t := 17) u.1 h13 rfl rfl (LWo.vcall rfl (av1 u.2.1) (c_spec_WritesOk _ _ e15) (.same (.nil)) (hn := .nil (zn g)))) ?_
       refine dq 24 rfl (fun _ g u h => LWo.guardY (t := 17) u.1 h13 rfl rfl (LWo.not u.2.1 (hn := .nil (zn g)))) ?_
       refine dq 25 rfl (fun _ g u h => LWo.pickFM (e_bool (!x15)) u.1 h13 u.2.1 (hn := .nil (zn g))) ?_
       refine dq 26 rfl (fun _ g u h => LWo.move (e_bool (!x15)) u.1 (hn := .nil (zn g))) ?_
       refine dq 27 rfl (fun _ g u h => LWo.guardNU (t := 26) u.2.1 h16 rfl rfl rfl rfl rfl (.nil (zn g))) ?_
       refine dq 28 rfl (fun _ g u h => LWo.guardNU (t := 26) u.1 h16 rfl rfl rfl rfl rfl (.nil (zn g))) ?_
       refine dq 29 rfl (fun _ g u h => LWo.guardNU (t := 26) u.1 h16 rfl rfl rfl rfl rfl (.nil (zn g))) ?_
       refine dq 30 rfl (fun _ g u h => LWo.guardU (t := 29) u.2.1 rfl rfl rfl rfl (.nil (zn g))) ?_
       refine dq 31 rfl (fun _ g u h => LWo.guardU (t := 29) u.2.1 rfl rfl rfl rfl (.nil (zn g))) ?_
       refine dq 32 rfl (fun _ g u h => LWo.guardU (t := 29) u.1 rfl rfl rfl rfl (.nil (zn g))) ?_
       refine dq 33 rfl (fun _ g u h => LWo.guardU (t := 29) u.1 rfl rfl rfl rfl (.nil (zn g))) ?_
       refine dq 34 rfl (fun _ g u h => LWo.guardU (t := 29) u.1 rfl rfl rfl rfl (.nil (zn g))) ?_
       refine dq 35 rfl (fun _ g u h => LWo.guardU (t := 29) u.1 rfl rfl rfl rfl (.nil (zn g))) ?_
       refine dq 36 rfl (fun _ g u h => LWo.guardU (t := 29) u.2.1 rfl rfl rfl rfl (.nil (zn g))) ?_
       refine dq 37 rfl (fun _ g u h => LWo.guardU (t := 29) u.2.1 rfl rfl rfl rfl (.nil (zn g))) ?_
       refine dq 38 rfl (fun _ g u h => LWo.guardU (t := 29) u.1 rfl rfl rfl rfl (.nil (zn g))) ?_
       refine dq 39 rfl (fun _ g u h => LWo.guardU (t := 29) u.1 rfl rfl rfl rfl (.nil (zn g))) ?_
       refine dq 40 rfl (fun _ g u h => LWo.guardU (t := 29) u.1 rfl rfl rfl rfl (.nil (zn g))) ?_
       refine dq 41 rfl (fun _ g u h => LWo.guardU (t := 29) u.1 rfl rfl rfl rfl (.nil (zn g))) ?_
       refine dq 42 rfl (fun _ g u h => LWo.guardNU (t := 26) u.1 h16 rfl rfl rfl rfl rfl (.nil (zn g))) ?_
       refine dq 43 rfl (fun _ g u h => LWo.pickTM (e_bool true) u.1 h16 rfl (hn := .nil (zn g))) ?_
       refine ⟨rfl, by kernel_rfl, hN10 (t0, t3, true) _ ⟨rfl, rfl, rfl, trivial⟩ trivial h⟩
      ·have h := bF h16 h
       refine bS (decide (t3 > (0 : Int))) (fun h17 => ?_) (fun h17 => ?_)
       ·have h := bT h17 h
        refine bk h fun x18 e18 h => ?_
        refine bk h fun x19 e19 h => ?_
        refine bk h fun x20 e20 h => ?_
        refine LWP.drawF (l := [_,_,_,_,_,_,_,_,_,_,_,_,_,_,_,_,_,_,_,_,_,_,_,_,_,_,_,_,_,_,_,_,_,_]) [] [0, 3] [([0], []), ([3], []), ([10, 11], []), ([12], []), ([13], []), ([14], []), ([15], []), ([16], []), ([0, 17], []), ([3, 17], []), ([17, 18, 19], []), ([17, 20], []), ([17, 21], []), ([17, 22], []), ([17, 23], []), ([17, 24], []), ([25], []), ([3, 26], []), ([26, 27], []), ([26, 28], []), ([0, 29], []), ([3, 29], []), ([29, 31], []), ([29, 30, 32], []), ([29, 33], []), ([29, 34], []), ([0, 29], []), ([3, 29], []), ([29, 36, 37], []), ([29, 38], []), ([29, 39], []), ([29, 35, 40], []), ([26, 29, 41], []), ([26, 42], [])] [0, 3, 43] [] mixed (by kernel_rfl) rfl (by decide) ?_
        refine dq 10 rfl (fun _ g u h => LWo.move (e_Limpl_Entry t0) u.1 (hn := .nil (zn g))) ?_
        refine dq 11 rfl (fun _ g u h => LWo.move (e_int t3) u.1 (hn := .nil (zn g))) ?_
        refine dq 12 rfl (fun _ g u h => LWo.indexM (f := e_impl_Entry) e11 u_Limpl_Entry s_impl_Entry u.1 u.2.1 (hn := .nil (zn g))) ?_
        refine dq 13 rfl (fun _ g u h => LWo.fieldAddr _ u_impl_Entry rfl s_int u.1 rfl (hn := .nil (zn g))) ?_
        refine dq 14 rfl (fun _ g u h => LWo.load1 (c := (e_int x11.Time)) g_int u.1 (hn := .nil (zn g))) ?_
        refine dq 15 rfl (fun _ g u h => LWo.vcall rfl (av3 u.1 rfl rfl) (c_spec_l1In _ _ _ _ e12) (.same (.same (.same (.nil)))) (hn := .nil (zn g))) ?_
        refine dq 16 rfl (fun _ g u h => LWo.not u.1 (hn := .nil (zn g))) ?_
        refine dq 17 rfl (fun _ g u h => LWo.move (e_bool (!x12)) u.1 (hn := .nil (zn g))) ?_
        refine dq 18 rfl (fun _ g u h => LWo.guardY (t := 17) u.2.1 h13 rfl rfl (LWo.move (e_Limpl_Entry t0) u.1 (hn := .nil (zn g)))) ?_
        refine dq 19 rfl (fun _ g u h => LWo.guardY (t := 17) u.2.1 h13 rfl rfl (LWo.move (e_int t3) u.1 (hn := .nil (zn g)))) ?_
        refine dq 20 rfl (fun _ g u h => LWo.guardY (t := 17) u.1 h13 rfl rfl (LWo.indexM (f := e_impl_Entry) e14 u_Limpl_Entry s_impl_Entry u.2.1 u.2.2.1 (hn := .nil (zn g)))) ?_
        refine dq 21 rfl (fun _ g u h => LWo.guardY (t := 17) u.1 h13 rfl rfl (LWo.fieldAddr _ u_impl_Entry rfl s_Limpl_Write u.2.1 rfl (hn := .nil (zn g)))) ?_
        refine dq 22 rfl (fun _ g u h => LWo.guardY (t := 17) u.1 h13 rfl rfl (LWo.load1 (c := (e_Limpl_Write x14.Writes)) g_Limpl_Write u.2.1 (hn := .nil (zn g)))) ?_
        refine dq 23 rfl (fun _ g u h => LWo.guardY (t := 17) u.1 h13 rfl rfl (LWo.vcall rfl (av1 u.2.1) (c_spec_WritesOk _ _ e15) (.same (.nil)) (hn := .nil (zn g)))) ?_
        refine dq 24 rfl (fun _ g u h => LWo.guardY (t := 17) u.1 h13 rfl rfl (LWo.not u.2.1 (hn := .nil (zn g)))) ?_
        refine dq 25 rfl (fun _ g u h => LWo.pickFM (e_bool (!x15)) u.1 h13 u.2.1 (hn := .nil (zn g))) ?_
        refine dq 26 rfl (fun _ g u h => LWo.move (e_bool (!x15)) u.1 (hn := .nil (zn g))) ?_
        refine dq 27 rfl (fun _ g u h => LWo.guardY (t := 26) u.2.1 h16 rfl rfl (LWo.move (e_int t3) u.1 (hn := .nil (zn g)))) ?_
        refine dq 28 rfl (fun _ g u h => LWo.guardY (t := 26) u.1 h16 rfl rfl (LWo.int _ u.2.1 rfl rfl (hn := .nil (zn g)))) ?_
        refine dq 29 rfl (fun _ g u h => LWo.guardY (t := 26) u.1 h16 rfl rfl (LWo.move (e_bool (decide (t3 > (0 : Int)))) u.2.1 (hn := .nil (zn g)))) ?_
        refine dq 30 rfl (fun _ g u h => LWo.guardY (t := 29) u.2.1 h17 rfl rfl (LWo.move (e_Limpl_Entry t0) u.1 (hn := .nil (zn g)))) ?_
        refine dq 31 rfl (fun _ g u h => LWo.guardY (t := 29) u.2.1 h17 rfl rfl (LWo.move (e_int t3) u.1 (hn := .nil (zn g)))) ?_
        refine dq 32 rfl (fun _ g u h => LWo.guardY (t := 29) u.1 h17 rfl rfl (LWo.int _ u.2.1 rfl (sub_ck e18) (hn := .nil (zn g)))) ?_
        refine dq 33 rfl (fun _ g u h => LWo.guardY (t := 29) u.1 h17 rfl rfl (LWo.indexM (f := e_impl_Entry) e19 u_Limpl_Entry s_impl_Entry u.2.1 u.2.2.1 (hn := .nil (zn g)))) ?_
        refine dq 34 rfl (fun _ g u h => LWo.guardY (t := 29) u.1 h17 rfl rfl (LWo.fieldAddr _ u_impl_Entry rfl s_int u.2.1 rfl (hn := .nil (zn g)))) ?_
        refine dq 35 rfl (fun _ g u h => LWo.guardY (t := 29) u.1 h17 rfl rfl (LWo.load1 (c := (e_int x19.Time)) g_int u.2.1 (hn := .nil (zn g)))) ?_
        refine dq 36 rfl (fun _ g u h => LWo.guardY (t := 29) u.2.1 h17 rfl rfl (LWo.move (e_Limpl_Entry t0) u.1 (hn := .nil (zn g)))) ?_
        refine dq 37 rfl (fun _ g u h => LWo.guardY (t := 29) u.2.1 h17 rfl rfl (LWo.move (e_int t3) u.1 (hn := .nil (zn g)))) ?_
        refine dq 38 rfl (fun _ g u h => LWo.guardY (t := 29) u.1 h17 rfl rfl (LWo.indexM (f := e_impl_Entry) e20 u_Limpl_Entry s_impl_Entry u.2.1 u.2.2.1 (hn := .nil (zn g)))) ?_
        refine dq 39 rfl (fun _ g u h => LWo.guardY (t := 29) u.1 h17 rfl rfl (LWo.fieldAddr _ u_impl_Entry rfl s_int u.2.1 rfl (hn := .nil (zn g)))) ?_
        refine dq 40 rfl (fun _ g u h => LWo.guardY (t := 29) u.1 h17 rfl rfl (LWo.load1 (c := (e_int x20.Time)) g_int u.2.1 (hn := .nil (zn g)))) ?_
        refine dq 41 rfl (fun _ g u h => LWo.guardY (t := 29) u.1 h17 rfl rfl (LWo.int _ u.2.1 u.2.2.1 rfl (hn := .nil (zn g)))) ?_
        refine dq 42 rfl (fun _ g u h => LWo.guardY (t := 26) u.1 h16 rfl rfl (LWo.pickTM (e_bool (decide (x19.Time ≥ x20.Time))) u.2.1 h17 u.2.2.1 (hn := .nil (zn g)))) ?_
        refine dq 43 rfl (fun _ g u h => LWo.pickFM (e_bool (decide (x19.Time ≥ x20.Time))) u.1 h16 u.2.1 (hn := .nil (zn g))) ?_
        refine ⟨rfl, by kernel_rfl, hN10 (t0, t3, decide (x19.Time ≥ x20.Time)) _ ⟨rfl, rfl, rfl, trivial⟩ trivial h⟩
       ·have h := bF h17 h
        refine LWP.drawF (l := [_,_,_,_,_,_,_,_,_,_,_,_,_,_,_,_,_,_,_,_,_,_,_,_,_,_,_,_,_,_,_,_,_,_]) [] [0, 3] [([0], []), ([3], []), ([10, 11], []), ([12], []), ([13], []), ([14], []), ([15], []), ([16], []), ([0, 17], []), ([3, 17], []), ([17, 18, 19], []), ([17, 20], []), ([17, 21], []), ([17, 22], []), ([17, 23], []), ([17, 24], []), ([25], []), ([3, 26], []), ([26, 27], []), ([26, 28], []), ([0, 29], []), ([3, 29], []), ([29, 31], []), ([29, 30, 32], []), ([29, 33], []), ([29, 34], []), ([0, 29], []), ([3, 29], []), ([29, 36, 37], []), ([29, 38], []), ([29, 39], []), ([29, 35, 40], []), ([26, 29, 41], []), ([26, 42], [])] [0, 3, 43] [] mixed (by kernel_rfl) rfl (by decide) ?_
        refine dq 10 rfl (fun _ g u h => LWo.move (e_Limpl_Entry t0) u.1 (hn := .nil (zn g))) ?_
        refine dq 11 rfl (fun _ g u h => LWo.move (e_int t3) u.1 (hn := .nil (zn g))) ?_
        refine dq 12 rfl (fun _ g u h => LWo.indexM (f := e_impl_Entry) e11 u_Limpl_Entry s_impl_Entry u.1 u.2.1 (hn := .nil (zn g))) ?_
        refine dq 13 rfl (fun _ g u h => LWo.fieldAddr _ u_impl_Entry rfl s_int u.1 rfl (hn := .nil (zn g))) ?_
        refine dq 14 rfl (fun _ g u h => LWo.load1 (c := (e_int x11.Time)) g_int u.1 (hn := .nil (zn g))) ?_
        refine dq 15 rfl (fun _ g u h => LWo.vcall rfl (av3 u.1 rfl rfl) (c_spec_l1In _ _ _ _ e12) (.same (.same (.same (.nil)))) (hn := .nil (zn g))) ?_
        refine dq 16 rfl (fun _ g u h => LWo.not u.1 (hn := .nil (zn g))) ?_
        refine dq 17 rfl (fun _ g u h => LWo.move (e_bool (!x12)) u.1 (hn := .nil (zn g))) ?_
        refine dq 18 rfl (fun _ g u h => LWo.guardY (t := 17) u.2.1 h13 rfl rfl (LWo.move (e_Limpl_Entry t0) u.1 (hn := .nil (zn g)))) ?_
        refine dq 19 rfl (fun _ g u h => LWo.guardY (t := 17) u.2.1 h13 rfl rfl (LWo.move (e_int t3) u.1 (hn := .nil (zn g)))) ?_
        refine dq 20 rfl (fun _ g u h => LWo.guardY (t := 17) u.1 h13 rfl rfl (LWo.indexM (f := e_impl_Entry) e14 u_Limpl_Entry s_impl_Entry u.2.1 u.2.2.1 (hn := .nil (zn g)))) ?_
        refine dq 21 rfl (fun _ g u h => LWo.guardY (t := 17) u.1 h13 rfl rfl (LWo.fieldAddr _ u_impl_Entry rfl s_Limpl_Write u.2.1 rfl (hn := .nil (zn g)))) ?_
        refine dq 22 rfl (fun _ g u h => LWo.guardY (t := 17) u.1 h13 rfl rfl (LWo.load1 (c := (e_Limpl_Write x14.Writes)) g_Limpl_Write u.2.1 (hn := .nil (zn g)))) ?_
        refine dq 23 rfl (fun _ g u h => LWo.guardY (t := 17) u.1 h13 rfl rfl (LWo.vcall rfl (av1 u.2.1) (c_spec_WritesOk _ _ e15) (.same (.nil)) (hn := .nil (zn g)))) ?_
        refine dq 24 rfl (fun _ g u h => LWo.guardY (t := 17) u.1 h13 rfl rfl (LWo.not u.2.1 (hn := .nil (zn g)))) ?_
        refine dq 25 rfl (fun _ g u h => LWo.pickFM (e_bool (!x15)) u.1 h13 u.2.1 (hn := .nil (zn g))) ?_
        refine dq 26 rfl (fun _ g u h => LWo.move (e_bool (!x15)) u.1 (hn := .nil (zn g))) ?_
        refine dq 27 rfl (fun _ g u h => LWo.guardY (t := 26) u.2.1 h16 rfl rfl (LWo.move (e_int t3) u.1 (hn := .nil (zn g)))) ?_
        refine dq 28 rfl (fun _ g u h => LWo.guardY (t := 26) u.1 h16 rfl rfl (LWo.int _ u.2.1 rfl rfl (hn := .nil (zn g)))) ?_
        refine dq 29 rfl (fun _ g u h => LWo.guardY (t := 26) u.1 h16 rfl rfl (LWo.move (e_bool (decide (t3 > (0 : Int)))) u.2.1 (hn := .nil (zn g)))) ?_
        refine dq 30 rfl (fun _ g u h => LWo.guardNU (t := 29) u.2.1 h17 rfl rfl rfl rfl rfl (.nil (zn g))) ?_
        refine dq 31 rfl (fun _ g u h => LWo.guardNU (t := 29) u.2.1 h17 rfl rfl rfl rfl rfl (.nil (zn g))) ?_
        refine dq 32 rfl (fun _ g u h => LWo.guardNU (t := 29) u.1 h17 rfl rfl rfl rfl rfl (.nil (zn g))) ?_
        refine dq 33 rfl (fun _ g u h => LWo.guardNU (t := 29) u.1 h17 rfl rfl rfl rfl rfl (.nil (zn g))) ?_
        refine dq 34 rfl (fun _ g u h => LWo.guardNU (t := 29) u.1 h17 rfl rfl rfl rfl rfl (.nil (zn g))) ?_
        refine dq 35 rfl (fun _ g u h => LWo.guardNU (t := 29) u.1 h17 rfl rfl rfl rfl rfl (.nil (zn g))) ?_
        refine dq 36 rfl (fun _ g u h => LWo.guardNU (t := 29) u.2.1 h17 rfl rfl rfl rfl rfl (.nil (zn g))) ?_
        refine dq 37 rfl (fun _ g u h => LWo.guardNU (t := 29) u.2.1 h17 rfl rfl rfl rfl rfl (.nil (zn g))) ?_
        refine dq 38 rfl (fun _ g u h => LWo.guardNU (t := 29) u.1 h17 rfl rfl rfl rfl rfl (.nil (zn g))) ?_
        refine dq 39 rfl (fun _ g u h => LWo.guardNU (t := 29) u.1 h17 rfl rfl rfl rfl rfl (.nil (zn g))) ?_
        refine dq 40 rfl (fun _ g u h => LWo.guardNU (t := 29) u.1 h17 rfl rfl rfl rfl rfl (.nil (zn g))) ?_
        refine dq 41 rfl (fun _ g u h => LWo.guardNU (t := 29) u.1 h17 rfl rfl rfl rfl rfl (.nil (zn g))) ?_
        refine dq 42 rfl (fun _ g u h => LWo.guardY (t := 26) u.1 h16 rfl rfl (LWo.pickFM (e_bool false) u.2.1 h17 rfl (hn := .nil (zn g)))) ?_
        refine dq 43 rfl (fun _ g u h => LWo.pickFM (e_bool false) u.1 h16 u.2.1 (hn := .nil (zn g))) ?_
        refine ⟨rfl, by kernel_rfl, hN10 (t0, t3, false) _ ⟨rfl, rfl, rfl, trivial⟩ trivial h⟩
   ·have h := bF h8 h
    refine LWP.exit (hN2 t0 _ ⟨rfl, trivial⟩ trivial h)
end Go.Proofs.Ytkgmomocjkmipaa
