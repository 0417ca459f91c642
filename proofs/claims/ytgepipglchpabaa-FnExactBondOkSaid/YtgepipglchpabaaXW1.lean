/- Mirrors of functions, and that the functions return what the mirrors say. -/
import Derived.Test.YtgepipglchpabaaXTy
set_option linter.unusedVariables false
set_option linter.unusedSimpArgs false
set_option linter.unnecessarySimpa false
namespace Go.Proofs.Ytgepipglchpabaa
open Go.Proofs Go.Lift Go.RowKit
def m_laws_szColumnS (a0 : (List S_laws_Column)) (a1 : Int) : Option Int :=
  (ckI (a1 - (a0.length : Int))).bind fun x3 =>
  bif decide (x3 < (0 : Int)) then (some (-1 : Int))
  else (some x3)
theorem c_laws_szColumnS (a0 : (List S_laws_Column)) (a1 : Int) (r : Int) (h : m_laws_szColumnS a0 a1 = some r) : Ret Try.prog f_laws_szColumnS [e_Llaws_Column a0, e_int a1] (e_int r) := by
  refine Does.goG [] F_laws_szColumnS rfl e_laws_szColumnS n_laws_szColumnS rfl (rvs := [.tmp 4]) rfl rfl ?_
  intro w0 ok0 lent ρ0
  refine LWP.seq_k fun N1 hN1 => ?_
  refine LWP.region (l := [_]) ?_
  refine LWo.assign (e_int (0 : Int)) rfl (hn := ?_)
  refine LWo.nil (hN1 _ ?_)
  refine LWP.seq_k fun N2 hN2 => ?_
  refine LWP.region (l := [_,_,_,_,_]) ?_
  refine LWo.move (e_int a1) rfl (hn := ?_)
  refine LWo.move (e_Llaws_Column a0) rfl (hn := ?_)
  refine LWo.lenM (f := e_laws_Column) (l := a0) u_Llaws_Column rfl (hn := ?_)
  refine bk h fun x3 e3 h => ?_
  refine LWo.int _ rfl rfl (sub_ck e3) (hn := ?_)
  refine LWo.assign (e_int x3) rfl (hn := ?_)
  refine LWo.nil (hN2 _ ?_)
  refine LWP.seq_k fun N4 hN4 => ?_
  refine LWP.seq_k fun N5 hN5 => ?_
  refine LWP.region (l := [_,_]) ?_
  refine LWo.move (e_int x3) rfl (hn := ?_)
  refine LWo.int _ rfl rfl rfl (hn := ?_)
  refine LWo.nil (hN5 _ ?_)
  refine LWP.cond_split rfl (fun h6 => ?_) (fun h6 => ?_)
  ·have h := bT h6 h
   refine LWP.seq_k fun N7 hN7 => ?_
   refine LWP.region (l := [_]) ?_
   refine LWo.assign (e_int (-1 : Int)) rfl (hn := ?_)
   refine LWo.nil (hN7 _ ?_)
   obtain rfl := Option.some.inj h
   refine LWP.ret (QG.mk (.inr rfl) (.cons (.tmp (x := (e_int (-1 : Int))) rfl) (.nil)) (RetOK.one0 (.pure rfl) (by decide)) rfl rfl)
  ·have h := bF h6 h
   refine LWP.skip (hN4 _ ?_)
   refine LWP.seq_k fun N8 hN8 => ?_
   refine LWP.region (l := [_,_]) ?_
   refine LWo.move (e_int x3) rfl (hn := ?_)
   refine LWo.assign (e_int x3) rfl (hn := ?_)
   refine LWo.nil (hN8 _ ?_)
   obtain rfl := Option.some.inj h
   refine LWP.ret (QG.mk (.inr rfl) (.cons (.tmp (x := (e_int x3)) rfl) (.nil)) (RetOK.one0 (.pure rfl) (by decide)) rfl rfl)

def m_laws_szValue (a0 : S_laws_Value) (a1 : Int) : Option Int :=
  (ckI (a1 - (a0.S.size : Int))).bind fun x3 =>
  bif decide (x3 < (0 : Int)) then (some (-1 : Int))
  else (some x3)
theorem c_laws_szValue (a0 : S_laws_Value) (a1 : Int) (r : Int) (h : m_laws_szValue a0 a1 = some r) : Ret Try.prog f_laws_szValue [e_laws_Value a0, e_int a1] (e_int r) := by
  refine Does.goG [] F_laws_szValue rfl e_laws_szValue n_laws_szValue rfl (rvs := [.tmp 4]) rfl rfl ?_
  intro w0 ok0 lent ρ0
  refine LWP.seq_k fun N1 hN1 => ?_
  refine LWP.region (l := [_,_]) ?_
  refine LWo.boxF (e_laws_Value a0) rfl rfl rfl (hn := ?_)
  refine LWo.assign (e_int (0 : Int)) rfl (hn := ?_)
  refine LWo.nil (hN1 _ ?_)
  refine LWP.seq_k fun N2 hN2 => ?_
  refine LWP.region (l := [_,_,_,_,_,_]) ?_
  refine LWo.move (e_int a1) rfl (hn := ?_)
  refine LWo.fieldAddr _ u_laws_Value rfl s_string rfl rfl (hn := ?_)
  refine LWo.load1 (c := (e_string a0.S)) g_string rfl (hn := ?_)
  refine LWo.lenS u_string rfl (hn := ?_)
  refine bk h fun x3 e3 h => ?_
  refine LWo.int _ rfl rfl (sub_ck e3) (hn := ?_)
  refine LWo.assign (e_int x3) rfl (hn := ?_)
  refine LWo.nil (hN2 _ ?_)
  refine LWP.seq_k fun N4 hN4 => ?_
  refine LWP.seq_k fun N5 hN5 => ?_
  refine LWP.region (l := [_,_]) ?_
  refine LWo.move (e_int x3) rfl (hn := ?_)
  refine LWo.int _ rfl rfl rfl (hn := ?_)
  refine LWo.nil (hN5 _ ?_)
  refine LWP.cond_split rfl (fun h6 => ?_) (fun h6 => ?_)
  ·have h := bT h6 h
   refine LWP.seq_k fun N7 hN7 => ?_
   refine LWP.region (l := [_]) ?_
   refine LWo.assign (e_int (-1 : Int)) rfl (hn := ?_)
   refine LWo.nil (hN7 _ ?_)
   obtain rfl := Option.some.inj h
   refine LWP.ret (QG.mk (.inr rfl) (.cons (.tmp (x := (e_int (-1 : Int))) rfl) (.nil)) (RetOK.one0 (.pure rfl) (by decide)) rfl rfl)
  ·have h := bF h6 h
   refine LWP.skip (hN4 _ ?_)
   refine LWP.seq_k fun N8 hN8 => ?_
   refine LWP.region (l := [_,_]) ?_
   refine LWo.move (e_int x3) rfl (hn := ?_)
   refine LWo.assign (e_int x3) rfl (hn := ?_)
   refine LWo.nil (hN8 _ ?_)
   obtain rfl := Option.some.inj h
   refine LWP.ret (QG.mk (.inr rfl) (.cons (.tmp (x := (e_int x3)) rfl) (.nil)) (RetOK.one0 (.pure rfl) (by decide)) rfl rfl)

def m_laws_szValueS_j1 (t1 : Int) : Option Int :=
  some t1
def m_laws_szValueS_l1 : Nat → (List S_laws_Value) → Int → Int → Option Int
  | 0, _, _, _ => none
  | n1 + 1, t0, t1, t5 =>
    bif decide (t5 < (t0.length : Int)) then ((at? t0 t5).bind fun x17 =>
    (m_laws_szValue x17 t1).bind fun x18 =>
    bif decide (x18 < (0 : Int)) then (some (-1 : Int))
    else ((ckI (t5 + (1 : Int))).bind fun x22 =>
    (m_laws_szValueS_l1  n1) t0 x18 x22))
    else (m_laws_szValueS_j1  t1)
def m_laws_szValueS (a0 : (List S_laws_Value)) (a1 : Int) : Option Int :=
  (ckI (a1 - (a0.length : Int))).bind fun x3 =>
  bif decide (x3 < (0 : Int)) then (some (-1 : Int))
  else (m_laws_szValueS_l1  (((a0.length : Int) - (0 : Int)).toNat + 1) a0 x3 (0 : Int))
theorem c_laws_szValueS (a0 : (List S_laws_Value)) (a1 : Int) (r : Int) (h : m_laws_szValueS a0 a1 = some r) : Ret Try.prog f_laws_szValueS [e_Llaws_Value a0, e_int a1] (e_int r) := by
  refine Does.goG [] F_laws_szValueS rfl e_laws_szValueS n_laws_szValueS rfl (rvs := [.tmp 4]) rfl rfl ?_
  intro w0 ok0 lent ρ0
  refine LWP.seq_k fun N1 hN1 => ?_
  refine LWP.region (l := [_]) ?_
  refine LWo.assign (e_int (0 : Int)) rfl (hn := ?_)
  refine LWo.nil (hN1 _ ?_)
  refine LWP.seq_k fun N2 hN2 => ?_
  refine LWP.region (l := [_,_,_,_,_]) ?_
  refine LWo.move (e_int a1) rfl (hn := ?_)
  refine LWo.move (e_Llaws_Value a0) rfl (hn := ?_)
  refine LWo.lenM (f := e_laws_Value) (l := a0) u_Llaws_Value rfl (hn := ?_)
  refine bk h fun x3 e3 h => ?_
  refine LWo.int _ rfl rfl (sub_ck e3) (hn := ?_)
  refine LWo.assign (e_int x3) rfl (hn := ?_)
  refine LWo.nil (hN2 _ ?_)
  refine LWP.seq_k fun N4 hN4 => ?_
  refine LWP.seq_k fun N5 hN5 => ?_
  refine LWP.region (l := [_,_]) ?_
  refine LWo.move (e_int x3) rfl (hn := ?_)
  refine LWo.int _ rfl rfl rfl (hn := ?_)
  refine LWo.nil (hN5 _ ?_)
  refine LWP.cond_split rfl (fun h6 => ?_) (fun h6 => ?_)
  ·have h := bT h6 h
   refine LWP.seq_k fun N7 hN7 => ?_
   refine LWP.region (l := [_]) ?_
   refine LWo.assign (e_int (-1 : Int)) rfl (hn := ?_)
   refine LWo.nil (hN7 _ ?_)
   obtain rfl := Option.some.inj h
   refine LWP.ret (QG.mk (.inr rfl) (.cons (.tmp (x := (e_int (-1 : Int))) rfl) (.nil)) (RetOK.one0 (.pure rfl) (by decide)) rfl rfl)
  ·have h := bF h6 h
   refine LWP.skip (hN4 _ ?_)
   refine LWP.join (α := Int) (fun z : Int => [(1, (e_int z))]) (fun z : Int => []) (fun z : Int => m_laws_szValueS_j1  z) r (fun _ => by simp [hkeys]) ?_ ?_
   ·rintro t1 h
    replace h : m_laws_szValueS_j1  t1 = some _ := h
    refine LWP.seq_k fun N23 hN23 => ?_
    refine LWP.region (l := [_,_]) ?_
    refine LWo.move (e_int t1) rfl (hn := ?_)
    refine LWo.assign (e_int t1) rfl (hn := ?_)
    refine LWo.nil (hN23 _ ?_)
    obtain rfl := Option.some.inj h
    refine LWP.ret (QG.mk (.inr rfl) (.cons (.tmp (x := (e_int t1)) rfl) (.nil)) (RetOK.one0 (.pure rfl) (by decide)) rfl rfl)
   ·intro N8 hN8
    refine LWP.seq_k fun N9 hN9 => ?_
    refine LWP.region (l := [_]) ?_
    refine LWo.assign (e_int (0 : Int)) rfl (hn := ?_)
    refine LWo.nil (hN9 _ ?_)
    refine LWP.block ?_
    refine LWP.loopM (α := (List S_laws_Value) × Int × Int) (fun z : (List S_laws_Value) × Int × Int => [(0, (e_Llaws_Value z.1)), (1, (e_int z.2.1)), (5, (e_int z.2.2))]) (fun z : (List S_laws_Value) × Int × Int => []) (fun n1 (z : (List S_laws_Value) × Int × Int) => m_laws_szValueS_l1  n1 z.1 z.2.1 z.2.2) r _ (a0, x3, (0 : Int)) h (fun _ => rfl) (fun _ => by simp [hkeys]) ⟨rfl, rfl, rfl, trivial⟩ trivial ?_
    rintro n1 ⟨t0, t1, t5⟩ h N10 hN10
    replace h : m_laws_szValueS_l1  (n1 + 1) t0 t1 t5 = some _ := h
    refine LWP.seq_k fun N12 hN12 => ?_
    refine LWP.seq_k fun N13 hN13 => ?_
    refine LWP.region (l := [_,_,_,_]) ?_
    refine LWo.move (e_int t5) rfl (hn := ?_)
    refine LWo.move (e_Llaws_Value t0) rfl (hn := ?_)
    refine LWo.lenM (f := e_laws_Value) (l := t0) u_Llaws_Value rfl (hn := ?_)
    refine LWo.int _ rfl rfl rfl (hn := ?_)
    refine LWo.nil (hN13 _ ?_)
    refine LWP.cond_split rfl (fun h14 => ?_) (fun h14 => ?_)
    ·have h := bT h14 h
     refine LWP.skip (hN12 _ ?_)
     refine LWP.seq_k fun N15 hN15 => ?_
     refine LWP.block ?_
     refine LWP.seq_k fun N16 hN16 => ?_
     refine LWP.region (l := [_,_,_,_,_,_,_]) ?_
     refine LWo.move (e_Llaws_Value t0) rfl (hn := ?_)
     refine LWo.move (e_int t5) rfl (hn := ?_)
     refine bk h fun x17 e17 h => ?_
     refine LWo.indexM (f := e_laws_Value) e17 u_Llaws_Value s_laws_Value rfl rfl (hn := ?_)
     refine LWo.loadN ((e_laws_Value x17)).cells g_laws_Value s_laws_Value rfl (Nat.le_of_ble_eq_true rfl) rfl (hn := ?_)
     refine LWo.move (e_int t1) rfl (hn := ?_)
     refine bk h fun x18 e18 h => ?_
     refine LWo.vcall rfl rfl (c_laws_szValue _ _ _ e18) (.same (.same (.nil))) (hn := ?_)
     refine LWo.assign (e_int x18) rfl (hn := ?_)
     refine LWo.nil (hN16 _ ?_)
     refine LWP.seq_k fun N19 hN19 => ?_
     refine LWP.region (l := [_,_]) ?_
     refine LWo.move (e_int x18) rfl (hn := ?_)
     refine LWo.int _ rfl rfl rfl (hn := ?_)
     refine LWo.nil (hN19 _ ?_)
     refine LWP.cond_split rfl (fun h20 => ?_) (fun h20 => ?_)
     ·have h := bT h20 h
      refine LWP.seq_k fun N21 hN21 => ?_
      refine LWP.region (l := [_]) ?_
      refine LWo.assign (e_int (-1 : Int)) rfl (hn := ?_)
      refine LWo.nil (hN21 _ ?_)
      obtain rfl := Option.some.inj h
      refine LWP.ret (QG.mk (.inr rfl) (.cons (.tmp (x := (e_int (-1 : Int))) rfl) (.nil)) (RetOK.one0 (.pure rfl) (by decide)) rfl rfl)
     ·have h := bF h20 h
      refine LWP.skip (hN15 _ ?_)
      refine LWP.region (l := [_,_,_]) ?_
      refine LWo.move (e_int t5) rfl (hn := ?_)
      refine bk h fun x22 e22 h => ?_
      refine LWo.int _ rfl rfl (add_ck e22) (hn := ?_)
      refine LWo.assign (e_int x22) rfl (hn := ?_)
      refine LWo.nil (hN10 (t0, x18, x22) _ ⟨rfl, rfl, rfl, trivial⟩ trivial h)
    ·have h := bF h14 h
     refine LWP.exit (hN8 t1 _ ⟨rfl, trivial⟩ trivial h)

def m_laws_szValueSS_j1 (t1 : Int) : Option Int :=
  some t1
def m_laws_szValueSS_l1 : Nat → (List (List S_laws_Value)) → Int → Int → Option Int
  | 0, _, _, _ => none
  | n1 + 1, t0, t1, t5 =>
    bif decide (t5 < (t0.length : Int)) then ((at? t0 t5).bind fun x17 =>
    (m_laws_szValueS x17 t1).bind fun x18 =>
    bif decide (x18 < (0 : Int)) then (some (-1 : Int))
    else ((ckI (t5 + (1 : Int))).bind fun x22 =>
    (m_laws_szValueSS_l1  n1) t0 x18 x22))
    else (m_laws_szValueSS_j1  t1)
def m_laws_szValueSS (a0 : (List (List S_laws_Value))) (a1 : Int) : Option Int :=
  (ckI (a1 - (a0.length : Int))).bind fun x3 =>
  bif decide (x3 < (0 : Int)) then (some (-1 : Int))
  else (m_laws_szValueSS_l1  (((a0.length : Int) - (0 : Int)).toNat + 1) a0 x3 (0 : Int))
theorem c_laws_szValueSS (a0 : (List (List S_laws_Value))) (a1 : Int) (r : Int) (h : m_laws_szValueSS a0 a1 = some r) : Ret Try.prog f_laws_szValueSS [e_LLlaws_Value a0, e_int a1] (e_int r) := by
  refine Does.goG [] F_laws_szValueSS rfl e_laws_szValueSS n_laws_szValueSS rfl (rvs := [.tmp 4]) rfl rfl ?_
  intro w0 ok0 lent ρ0
  refine LWP.seq_k fun N1 hN1 => ?_
  refine LWP.region (l := [_]) ?_
  refine LWo.assign (e_int (0 : Int)) rfl (hn := ?_)
  refine LWo.nil (hN1 _ ?_)
  refine LWP.seq_k fun N2 hN2 => ?_
  refine LWP.region (l := [_,_,_,_,_]) ?_
  refine LWo.move (e_int a1) rfl (hn := ?_)
  refine LWo.move (e_LLlaws_Value a0) rfl (hn := ?_)
  refine LWo.lenM (f := e_Llaws_Value) (l := a0) u_LLlaws_Value rfl (hn := ?_)
  refine bk h fun x3 e3 h => ?_
  refine LWo.int _ rfl rfl (sub_ck e3) (hn := ?_)
  refine LWo.assign (e_int x3) rfl (hn := ?_)
  refine LWo.nil (hN2 _ ?_)
  refine LWP.seq_k fun N4 hN4 => ?_
  refine LWP.seq_k fun N5 hN5 => ?_
  refine LWP.region (l := [_,_]) ?_
  refine LWo.move (e_int x3) rfl (hn := ?_)
  refine LWo.int _ rfl rfl rfl (hn := ?_)
  refine LWo.nil (hN5 _ ?_)
  refine LWP.cond_split rfl (fun h6 => ?_) (fun h6 => ?_)
  ·have h := bT h6 h
   refine LWP.seq_k fun N7 hN7 => ?_
   refine LWP.region (l := [_]) ?_
   refine LWo.assign (e_int (-1 : Int)) rfl (hn := ?_)
   refine LWo.nil (hN7 _ ?_)
   obtain rfl := Option.some.inj h
   refine LWP.ret (QG.mk (.inr rfl) (.cons (.tmp (x := (e_int (-1 : Int))) rfl) (.nil)) (RetOK.one0 (.pure rfl) (by decide)) rfl rfl)
  ·have h := bF h6 h
   refine LWP.skip (hN4 _ ?_)
   refine LWP.join (α := Int) (fun z : Int => [(1, (e_int z))]) (fun z : Int => []) (fun z : Int => m_laws_szValueSS_j1  z) r (fun _ => by simp [hkeys]) ?_ ?_
   ·rintro t1 h
    replace h : m_laws_szValueSS_j1  t1 = some _ := h
    refine LWP.seq_k fun N23 hN23 => ?_
    refine LWP.region (l := [_,_]) ?_
    refine LWo.move (e_int t1) rfl (hn := ?_)
    refine LWo.assign (e_int t1) rfl (hn := ?_)
    refine LWo.nil (hN23 _ ?_)
    obtain rfl := Option.some.inj h
    refine LWP.ret (QG.mk (.inr rfl) (.cons (.tmp (x := (e_int t1)) rfl) (.nil)) (RetOK.one0 (.pure rfl) (by decide)) rfl rfl)
   ·intro N8 hN8
    refine LWP.seq_k fun N9 hN9 => ?_
    refine LWP.region (l := [_]) ?_
    refine LWo.assign (e_int (0 : Int)) rfl (hn := ?_)
    refine LWo.nil (hN9 _ ?_)
    refine LWP.block ?_
    refine LWP.loopM (α := (List (List S_laws_Value)) × Int × Int) (fun z : (List (List S_laws_Value)) × Int × Int => [(0, (e_LLlaws_Value z.1)), (1, (e_int z.2.1)), (5, (e_int z.2.2))]) (fun z : (List (List S_laws_Value)) × Int × Int => []) (fun n1 (z : (List (List S_laws_Value)) × Int × Int) => m_laws_szValueSS_l1  n1 z.1 z.2.1 z.2.2) r _ (a0, x3, (0 : Int)) h (fun _ => rfl) (fun _ => by simp [hkeys]) ⟨rfl, rfl, rfl, trivial⟩ trivial ?_
    rintro n1 ⟨t0, t1, t5⟩ h N10 hN10
    replace h : m_laws_szValueSS_l1  (n1 + 1) t0 t1 t5 = some _ := h
    refine LWP.seq_k fun N12 hN12 => ?_
    refine LWP.seq_k fun N13 hN13 => ?_
    refine LWP.region (l := [_,_,_,_]) ?_
    refine LWo.move (e_int t5) rfl (hn := ?_)
    refine LWo.move (e_LLlaws_Value t0) rfl (hn := ?_)
    refine LWo.lenM (f := e_Llaws_Value) (l := t0) u_LLlaws_Value rfl (hn := ?_)
    refine LWo.int _ rfl rfl rfl (hn := ?_)
    refine LWo.nil (hN13 _ ?_)
    refine LWP.cond_split rfl (fun h14 => ?_) (fun h14 => ?_)
    ·have h := bT h14 h
     refine LWP.skip (hN12 _ ?_)
     refine LWP.seq_k fun N15 hN15 => ?_
     refine LWP.block ?_
     refine LWP.seq_k fun N16 hN16 => ?_
     refine LWP.region (l := [_,_,_,_,_,_,_]) ?_
     refine LWo.move (e_LLlaws_Value t0) rfl (hn := ?_)
     refine LWo.move (e_int t5) rfl (hn := ?_)
     refine bk h fun x17 e17 h => ?_
     refine LWo.indexM (f := e_Llaws_Value) e17 u_LLlaws_Value s_Llaws_Value rfl rfl (hn := ?_)
     refine LWo.load1 (c := (e_Llaws_Value x17)) g_Llaws_Value rfl (hn := ?_)
     refine LWo.move (e_int t1) rfl (hn := ?_)
     refine bk h fun x18 e18 h => ?_
     refine LWo.vcall rfl rfl (c_laws_szValueS _ _ _ e18) (.same (.same (.nil))) (hn := ?_)
     refine LWo.assign (e_int x18) rfl (hn := ?_)
     refine LWo.nil (hN16 _ ?_)
     refine LWP.seq_k fun N19 hN19 => ?_
     refine LWP.region (l := [_,_]) ?_
     refine LWo.move (e_int x18) rfl (hn := ?_)
     refine LWo.int _ rfl rfl rfl (hn := ?_)
     refine LWo.nil (hN19 _ ?_)
     refine LWP.cond_split rfl (fun h20 => ?_) (fun h20 => ?_)
     ·have h := bT h20 h
      refine LWP.seq_k fun N21 hN21 => ?_
      refine LWP.region (l := [_]) ?_
      refine LWo.assign (e_int (-1 : Int)) rfl (hn := ?_)
      refine LWo.nil (hN21 _ ?_)
      obtain rfl := Option.some.inj h
      refine LWP.ret (QG.mk (.inr rfl) (.cons (.tmp (x := (e_int (-1 : Int))) rfl) (.nil)) (RetOK.one0 (.pure rfl) (by decide)) rfl rfl)
     ·have h := bF h20 h
      refine LWP.skip (hN15 _ ?_)
      refine LWP.region (l := [_,_,_]) ?_
      refine LWo.move (e_int t5) rfl (hn := ?_)
      refine bk h fun x22 e22 h => ?_
      refine LWo.int _ rfl rfl (add_ck e22) (hn := ?_)
      refine LWo.assign (e_int x22) rfl (hn := ?_)
      refine LWo.nil (hN10 (t0, x18, x22) _ ⟨rfl, rfl, rfl, trivial⟩ trivial h)
    ·have h := bF h14 h
     refine LWP.exit (hN8 t1 _ ⟨rfl, trivial⟩ trivial h)

def m_laws_szTable (a0 : S_laws_Table) (a1 : Int) : Option Int :=
  (m_laws_szColumnS a0.Columns a1).bind fun x3 =>
  bif decide (x3 < (0 : Int)) then (some (-1 : Int))
  else ((m_laws_szValueSS a0.Rows x3).bind fun x9 =>
  bif decide (x9 < (0 : Int)) then (some (-1 : Int))
  else (some x9))
theorem c_laws_szTable (a0 : S_laws_Table) (a1 : Int) (r : Int) (h : m_laws_szTable a0 a1 = some r) : Ret Try.prog f_laws_szTable [e_laws_Table a0, e_int a1] (e_int r) := by
  refine Does.goG [] F_laws_szTable rfl e_laws_szTable n_laws_szTable rfl (rvs := [.tmp 4]) rfl rfl ?_
  intro w0 ok0 lent ρ0
  refine LWP.seq_k fun N1 hN1 => ?_
  refine LWP.region (l := [_,_]) ?_
  refine LWo.boxF (e_laws_Table a0) rfl rfl rfl (hn := ?_)
  refine LWo.assign (e_int (0 : Int)) rfl (hn := ?_)
  refine LWo.nil (hN1 _ ?_)
  refine LWP.seq_k fun N2 hN2 => ?_
  refine LWP.region (l := [_,_,_,_,_]) ?_
  refine LWo.fieldAddr _ u_laws_Table rfl s_Llaws_Column rfl rfl (hn := ?_)
  refine LWo.load1 (c := (e_Llaws_Column a0.Columns)) g_Llaws_Column rfl (hn := ?_)
  refine LWo.move (e_int a1) rfl (hn := ?_)
  refine bk h fun x3 e3 h => ?_
  refine LWo.vcall rfl rfl (c_laws_szColumnS _ _ _ e3) (.same (.same (.nil))) (hn := ?_)
  refine LWo.assign (e_int x3) rfl (hn := ?_)
  refine LWo.nil (hN2 _ ?_)
  refine LWP.seq_k fun N4 hN4 => ?_
  refine LWP.seq_k fun N5 hN5 => ?_
  refine LWP.region (l := [_,_]) ?_
  refine LWo.move (e_int x3) rfl (hn := ?_)
  refine LWo.int _ rfl rfl rfl (hn := ?_)
  refine LWo.nil (hN5 _ ?_)
  refine LWP.cond_split rfl (fun h6 => ?_) (fun h6 => ?_)
  ·have h := bT h6 h
   refine LWP.seq_k fun N7 hN7 => ?_
   refine LWP.region (l := [_]) ?_
   refine LWo.assign (e_int (-1 : Int)) rfl (hn := ?_)
   refine LWo.nil (hN7 _ ?_)
   obtain rfl := Option.some.inj h
   refine LWP.ret (QG.mk (.inr rfl) (.cons (.tmp (x := (e_int (-1 : Int))) rfl) (.nil)) (RetOK.one0 (.pure rfl) (by decide)) rfl rfl)
  ·have h := bF h6 h
   refine LWP.skip (hN4 _ ?_)
   refine LWP.seq_k fun N8 hN8 => ?_
   refine LWP.region (l := [_,_,_,_,_]) ?_
   refine LWo.fieldAddr _ u_laws_Table rfl s_LLlaws_Value rfl rfl (hn := ?_)
   refine LWo.load1 (c := (e_LLlaws_Value a0.Rows)) g_LLlaws_Value rfl (hn := ?_)
   refine LWo.move (e_int x3) rfl (hn := ?_)
   refine bk h fun x9 e9 h => ?_
   refine LWo.vcall rfl rfl (c_laws_szValueSS _ _ _ e9) (.same (.same (.nil))) (hn := ?_)
   refine LWo.assign (e_int x9) rfl (hn := ?_)
   refine LWo.nil (hN8 _ ?_)
   refine LWP.seq_k fun N10 hN10 => ?_
   refine LWP.seq_k fun N11 hN11 => ?_
   refine LWP.region (l := [_,_]) ?_
   refine LWo.move (e_int x9) rfl (hn := ?_)
   refine LWo.int _ rfl rfl rfl (hn := ?_)
   refine LWo.nil (hN11 _ ?_)
   refine LWP.cond_split rfl (fun h12 => ?_) (fun h12 => ?_)
   ·have h := bT h12 h
    refine LWP.seq_k fun N13 hN13 => ?_
    refine LWP.region (l := [_]) ?_
    refine LWo.assign (e_int (-1 : Int)) rfl (hn := ?_)
    refine LWo.nil (hN13 _ ?_)
    obtain rfl := Option.some.inj h
    refine LWP.ret (QG.mk (.inr rfl) (.cons (.tmp (x := (e_int (-1 : Int))) rfl) (.nil)) (RetOK.one0 (.pure rfl) (by decide)) rfl rfl)
   ·have h := bF h12 h
    refine LWP.skip (hN10 _ ?_)
    refine LWP.seq_k fun N14 hN14 => ?_
    refine LWP.region (l := [_,_]) ?_
    refine LWo.move (e_int x9) rfl (hn := ?_)
    refine LWo.assign (e_int x9) rfl (hn := ?_)
    refine LWo.nil (hN14 _ ?_)
    obtain rfl := Option.some.inj h
    refine LWP.ret (QG.mk (.inr rfl) (.cons (.tmp (x := (e_int x9)) rfl) (.nil)) (RetOK.one0 (.pure rfl) (by decide)) rfl rfl)

def m_laws_szTableS_j1 (t1 : Int) : Option Int :=
  some t1
def m_laws_szTableS_l1 : Nat → (List S_laws_Table) → Int → Int → Option Int
  | 0, _, _, _ => none
  | n1 + 1, t0, t1, t5 =>
    bif decide (t5 < (t0.length : Int)) then ((at? t0 t5).bind fun x17 =>
    (m_laws_szTable x17 t1).bind fun x18 =>
    bif decide (x18 < (0 : Int)) then (some (-1 : Int))
    else ((ckI (t5 + (1 : Int))).bind fun x22 =>
    (m_laws_szTableS_l1  n1) t0 x18 x22))
    else (m_laws_szTableS_j1  t1)
def m_laws_szTableS (a0 : (List S_laws_Table)) (a1 : Int) : Option Int :=
  (ckI (a1 - (a0.length : Int))).bind fun x3 =>
  bif decide (x3 < (0 : Int)) then (some (-1 : Int))
  else (m_laws_szTableS_l1  (((a0.length : Int) - (0 : Int)).toNat + 1) a0 x3 (0 : Int))
theorem c_laws_szTableS (a0 : (List S_laws_Table)) (a1 : Int) (r : Int) (h : m_laws_szTableS a0 a1 = some r) : Ret Try.prog f_laws_szTableS [e_Llaws_Table a0, e_int a1] (e_int r) := by
  refine Does.goG [] F_laws_szTableS rfl e_laws_szTableS n_laws_szTableS rfl (rvs := [.tmp 4]) rfl rfl ?_
  intro w0 ok0 lent ρ0
  refine LWP.seq_k fun N1 hN1 => ?_
  refine LWP.region (l := [_]) ?_
  refine LWo.assign (e_int (0 : Int)) rfl (hn := ?_)
  refine LWo.nil (hN1 _ ?_)
  refine LWP.seq_k fun N2 hN2 => ?_
  refine LWP.region (l := [_,_,_,_,_]) ?_
  refine LWo.move (e_int a1) rfl (hn := ?_)
  refine LWo.move (e_Llaws_Table a0) rfl (hn := ?_)
  refine LWo.lenM (f := e_laws_Table) (l := a0) u_Llaws_Table rfl (hn := ?_)
  refine bk h fun x3 e3 h => ?_
  refine LWo.int _ rfl rfl (sub_ck e3) (hn := ?_)
  refine LWo.assign (e_int x3) rfl (hn := ?_)
  refine LWo.nil (hN2 _ ?_)
  refine LWP.seq_k fun N4 hN4 => ?_
  refine LWP.seq_k fun N5 hN5 => ?_
  refine LWP.region (l := [_,_]) ?_
  refine LWo.move (e_int x3) rfl (hn := ?_)
  refine LWo.int _ rfl rfl rfl (hn := ?_)
  refine LWo.nil (hN5 _ ?_)
  refine LWP.cond_split rfl (fun h6 => ?_) (fun h6 => ?_)
  ·have h := bT h6 h
   refine LWP.seq_k fun N7 hN7 => ?_
   refine LWP.region (l := [_]) ?_
   refine LWo.assign (e_int (-1 : Int)) rfl (hn := ?_)
   refine LWo.nil (hN7 _ ?_)
   obtain rfl := Option.some.inj h
   refine LWP.ret (QG.mk (.inr rfl) (.cons (.tmp (x := (e_int (-1 : Int))) rfl) (.nil)) (RetOK.one0 (.pure rfl) (by decide)) rfl rfl)
  ·have h := bF h6 h
   refine LWP.skip (hN4 _ ?_)
   refine LWP.join (α := Int) (fun z : Int => [(1, (e_int z))]) (fun z : Int => []) (fun z : Int => m_laws_szTableS_j1  z) r (fun _ => by simp [hkeys]) ?_ ?_
   ·rintro t1 h
    replace h : m_laws_szTableS_j1  t1 = some _ := h
    refine LWP.seq_k fun N23 hN23 => ?_
    refine LWP.region (l := [_,_]) ?_
    refine LWo.move (e_int t1) rfl (hn := ?_)
    refine LWo.assign (e_int t1) rfl (hn := ?_)
    refine LWo.nil (hN23 _ ?_)
    obtain rfl := Option.some.inj h
    refine LWP.ret (QG.mk (.inr rfl) (.cons (.tmp (x := (e_int t1)) rfl) (.nil)) (RetOK.one0 (.pure rfl) (by decide)) rfl rfl)
   ·intro N8 hN8
    refine LWP.seq_k fun N9 hN9 => ?_
    refine LWP.region (l := [_]) ?_
    refine LWo.assign (e_int (0 : Int)) rfl (hn := ?_)
    refine LWo.nil (hN9 _ ?_)
    refine LWP.block ?_
    refine LWP.loopM (α := (List S_laws_Table) × Int × Int) (fun z : (List S_laws_Table) × Int × Int => [(0, (e_Llaws_Table z.1)), (1, (e_int z.2.1)), (5, (e_int z.2.2))]) (fun z : (List S_laws_Table) × Int × Int => []) (fun n1 (z : (List S_laws_Table) × Int × Int) => m_laws_szTableS_l1  n1 z.1 z.2.1 z.2.2) r _ (a0, x3, (0 : Int)) h (fun _ => rfl) (fun _ => by simp [hkeys]) ⟨rfl, rfl, rfl, trivial⟩ trivial ?_
    rintro n1 ⟨t0, t1, t5⟩ h N10 hN10
    replace h : m_laws_szTableS_l1  (n1 + 1) t0 t1 t5 = some _ := h
    refine LWP.seq_k fun N12 hN12 => ?_
    refine LWP.seq_k fun N13 hN13 => ?_
    refine LWP.region (l := [_,_,_,_]) ?_
    refine LWo.move (e_int t5) rfl (hn := ?_)
    refine LWo.move (e_Llaws_Table t0) rfl (hn := ?_)
    refine LWo.lenM (f := e_laws_Table) (l := t0) u_Llaws_Table rfl (hn := ?_)
    refine LWo.int _ rfl rfl rfl (hn := ?_)
    refine LWo.nil (hN13 _ ?_)
    refine LWP.cond_split rfl (fun h14 => ?_) (fun h14 => ?_)
    ·have h := bT h14 h
     refine LWP.skip (hN12 _ ?_)
     refine LWP.seq_k fun N15 hN15 => ?_
     refine LWP.block ?_
     refine LWP.seq_k fun N16 hN16 => ?_
     refine LWP.region (l := [_,_,_,_,_,_,_]) ?_
     refine LWo.move (e_Llaws_Table t0) rfl (hn := ?_)
     refine LWo.move (e_int t5) rfl (hn := ?_)
     refine bk h fun x17 e17 h => ?_
     refine LWo.indexM (f := e_laws_Table) e17 u_Llaws_Table s_laws_Table rfl rfl (hn := ?_)
     refine LWo.loadN ((e_laws_Table x17)).cells g_laws_Table s_laws_Table rfl (Nat.le_of_ble_eq_true rfl) rfl (hn := ?_)
     refine LWo.move (e_int t1) rfl (hn := ?_)
     refine bk h fun x18 e18 h => ?_
     refine LWo.vcall rfl rfl (c_laws_szTable _ _ _ e18) (.same (.same (.nil))) (hn := ?_)
     refine LWo.assign (e_int x18) rfl (hn := ?_)
     refine LWo.nil (hN16 _ ?_)
     refine LWP.seq_k fun N19 hN19 => ?_
     refine LWP.region (l := [_,_]) ?_
     refine LWo.move (e_int x18) rfl (hn := ?_)
     refine LWo.int _ rfl rfl rfl (hn := ?_)
     refine LWo.nil (hN19 _ ?_)
     refine LWP.cond_split rfl (fun h20 => ?_) (fun h20 => ?_)
     ·have h := bT h20 h
      refine LWP.seq_k fun N21 hN21 => ?_
      refine LWP.region (l := [_]) ?_
      refine LWo.assign (e_int (-1 : Int)) rfl (hn := ?_)
      refine LWo.nil (hN21 _ ?_)
      obtain rfl := Option.some.inj h
      refine LWP.ret (QG.mk (.inr rfl) (.cons (.tmp (x := (e_int (-1 : Int))) rfl) (.nil)) (RetOK.one0 (.pure rfl) (by decide)) rfl rfl)
     ·have h := bF h20 h
      refine LWP.skip (hN15 _ ?_)
      refine LWP.region (l := [_,_,_]) ?_
      refine LWo.move (e_int t5) rfl (hn := ?_)
      refine bk h fun x22 e22 h => ?_
      refine LWo.int _ rfl rfl (add_ck e22) (hn := ?_)
      refine LWo.assign (e_int x22) rfl (hn := ?_)
      refine LWo.nil (hN10 (t0, x18, x22) _ ⟨rfl, rfl, rfl, trivial⟩ trivial h)
    ·have h := bF h14 h
     refine LWP.exit (hN8 t1 _ ⟨rfl, trivial⟩ trivial h)

def m_laws_szIntS (a0 : (List Int)) (a1 : Int) : Option Int :=
  (ckI (a1 - (a0.length : Int))).bind fun x3 =>
  bif decide (x3 < (0 : Int)) then (some (-1 : Int))
  else (some x3)
theorem c_laws_szIntS (a0 : (List Int)) (a1 : Int) (r : Int) (h : m_laws_szIntS a0 a1 = some r) : Ret Try.prog f_laws_szIntS [e_Lint a0, e_int a1] (e_int r) := by
  refine Does.goG [] F_laws_szIntS rfl e_laws_szIntS n_laws_szIntS rfl (rvs := [.tmp 4]) rfl rfl ?_
  intro w0 ok0 lent ρ0
  refine LWP.seq_k fun N1 hN1 => ?_
  refine LWP.region (l := [_]) ?_
  refine LWo.assign (e_int (0 : Int)) rfl (hn := ?_)
  refine LWo.nil (hN1 _ ?_)
  refine LWP.seq_k fun N2 hN2 => ?_
  refine LWP.region (l := [_,_,_,_,_]) ?_
  refine LWo.move (e_int a1) rfl (hn := ?_)
  refine LWo.move (e_Lint a0) rfl (hn := ?_)
  refine LWo.lenM (f := e_int) (l := a0) u_Lint rfl (hn := ?_)
  refine bk h fun x3 e3 h => ?_
  refine LWo.int _ rfl rfl (sub_ck e3) (hn := ?_)
  refine LWo.assign (e_int x3) rfl (hn := ?_)
  refine LWo.nil (hN2 _ ?_)
  refine LWP.seq_k fun N4 hN4 => ?_
  refine LWP.seq_k fun N5 hN5 => ?_
  refine LWP.region (l := [_,_]) ?_
  refine LWo.move (e_int x3) rfl (hn := ?_)
  refine LWo.int _ rfl rfl rfl (hn := ?_)
  refine LWo.nil (hN5 _ ?_)
  refine LWP.cond_split rfl (fun h6 => ?_) (fun h6 => ?_)
  ·have h := bT h6 h
   refine LWP.seq_k fun N7 hN7 => ?_
   refine LWP.region (l := [_]) ?_
   refine LWo.assign (e_int (-1 : Int)) rfl (hn := ?_)
   refine LWo.nil (hN7 _ ?_)
   obtain rfl := Option.some.inj h
   refine LWP.ret (QG.mk (.inr rfl) (.cons (.tmp (x := (e_int (-1 : Int))) rfl) (.nil)) (RetOK.one0 (.pure rfl) (by decide)) rfl rfl)
  ·have h := bF h6 h
   refine LWP.skip (hN4 _ ?_)
   refine LWP.seq_k fun N8 hN8 => ?_
   refine LWP.region (l := [_,_]) ?_
   refine LWo.move (e_int x3) rfl (hn := ?_)
   refine LWo.assign (e_int x3) rfl (hn := ?_)
   refine LWo.nil (hN8 _ ?_)
   obtain rfl := Option.some.inj h
   refine LWP.ret (QG.mk (.inr rfl) (.cons (.tmp (x := (e_int x3)) rfl) (.nil)) (RetOK.one0 (.pure rfl) (by decide)) rfl rfl)

def m_laws_szPart (a0 : S_laws_Part) (a1 : Int) : Option Int :=
  (m_laws_szValue a0.V a1).bind fun x3 =>
  bif decide (x3 < (0 : Int)) then (some (-1 : Int))
  else (some x3)
theorem c_laws_szPart (a0 : S_laws_Part) (a1 : Int) (r : Int) (h : m_laws_szPart a0 a1 = some r) : Ret Try.prog f_laws_szPart [e_laws_Part a0, e_int a1] (e_int r) := by
  refine Does.goG [] F_laws_szPart rfl e_laws_szPart n_laws_szPart rfl (rvs := [.tmp 4]) rfl rfl ?_
  intro w0 ok0 lent ρ0
  refine LWP.seq_k fun N1 hN1 => ?_
  refine LWP.region (l := [_,_]) ?_
  refine LWo.boxF (e_laws_Part a0) rfl rfl rfl (hn := ?_)
  refine LWo.assign (e_int (0 : Int)) rfl (hn := ?_)
  refine LWo.nil (hN1 _ ?_)
  refine LWP.seq_k fun N2 hN2 => ?_
  refine LWP.region (l := [_,_,_,_,_]) ?_
  refine LWo.fieldAddr _ u_laws_Part rfl s_laws_Value rfl rfl (hn := ?_)
  refine LWo.loadN ((e_laws_Value a0.V)).cells g_laws_Value s_laws_Value rfl (Nat.le_of_ble_eq_true rfl) rfl (hn := ?_)
  refine LWo.move (e_int a1) rfl (hn := ?_)
  refine bk h fun x3 e3 h => ?_
  refine LWo.vcall rfl rfl (c_laws_szValue _ _ _ e3) (.same (.same (.nil))) (hn := ?_)
  refine LWo.assign (e_int x3) rfl (hn := ?_)
  refine LWo.nil (hN2 _ ?_)
  refine LWP.seq_k fun N4 hN4 => ?_
  refine LWP.seq_k fun N5 hN5 => ?_
  refine LWP.region (l := [_,_]) ?_
  refine LWo.move (e_int x3) rfl (hn := ?_)
  refine LWo.int _ rfl rfl rfl (hn := ?_)
  refine LWo.nil (hN5 _ ?_)
  refine LWP.cond_split rfl (fun h6 => ?_) (fun h6 => ?_)
  ·have h := bT h6 h
   refine LWP.seq_k fun N7 hN7 => ?_
   refine LWP.region (l := [_]) ?_
   refine LWo.assign (e_int (-1 : Int)) rfl (hn := ?_)
   refine LWo.nil (hN7 _ ?_)
   obtain rfl := Option.some.inj h
   refine LWP.ret (QG.mk (.inr rfl) (.cons (.tmp (x := (e_int (-1 : Int))) rfl) (.nil)) (RetOK.one0 (.pure rfl) (by decide)) rfl rfl)
  ·have h := bF h6 h
   refine LWP.skip (hN4 _ ?_)
   refine LWP.seq_k fun N8 hN8 => ?_
   refine LWP.region (l := [_,_]) ?_
   refine LWo.move (e_int x3) rfl (hn := ?_)
   refine LWo.assign (e_int x3) rfl (hn := ?_)
   refine LWo.nil (hN8 _ ?_)
   obtain rfl := Option.some.inj h
   refine LWP.ret (QG.mk (.inr rfl) (.cons (.tmp (x := (e_int x3)) rfl) (.nil)) (RetOK.one0 (.pure rfl) (by decide)) rfl rfl)

def m_laws_szPartS_j1 (t1 : Int) : Option Int :=
  some t1
def m_laws_szPartS_l1 : Nat → (List S_laws_Part) → Int → Int → Option Int
  | 0, _, _, _ => none
  | n1 + 1, t0, t1, t5 =>
    bif decide (t5 < (t0.length : Int)) then ((at? t0 t5).bind fun x17 =>
    (m_laws_szPart x17 t1).bind fun x18 =>
    bif decide (x18 < (0 : Int)) then (some (-1 : Int))
    else ((ckI (t5 + (1 : Int))).bind fun x22 =>
    (m_laws_szPartS_l1  n1) t0 x18 x22))
    else (m_laws_szPartS_j1  t1)
def m_laws_szPartS (a0 : (List S_laws_Part)) (a1 : Int) : Option Int :=
  (ckI (a1 - (a0.length : Int))).bind fun x3 =>
  bif decide (x3 < (0 : Int)) then (some (-1 : Int))
  else (m_laws_szPartS_l1  (((a0.length : Int) - (0 : Int)).toNat + 1) a0 x3 (0 : Int))
theorem c_laws_szPartS (a0 : (List S_laws_Part)) (a1 : Int) (r : Int) (h : m_laws_szPartS a0 a1 = some r) : Ret Try.prog f_laws_szPartS [e_Llaws_Part a0, e_int a1] (e_int r) := by
  refine Does.goG [] F_laws_szPartS rfl e_laws_szPartS n_laws_szPartS rfl (rvs := [.tmp 4]) rfl rfl ?_
  intro w0 ok0 lent ρ0
  refine LWP.seq_k fun N1 hN1 => ?_
  refine LWP.region (l := [_]) ?_
  refine LWo.assign (e_int (0 : Int)) rfl (hn := ?_)
  refine LWo.nil (hN1 _ ?_)
  refine LWP.seq_k fun N2 hN2 => ?_
  refine LWP.region (l := [_,_,_,_,_]) ?_
  refine LWo.move (e_int a1) rfl (hn := ?_)
  refine LWo.move (e_Llaws_Part a0) rfl (hn := ?_)
  refine LWo.lenM (f := e_laws_Part) (l := a0) u_Llaws_Part rfl (hn := ?_)
  refine bk h fun x3 e3 h => ?_
  refine LWo.int _ rfl rfl (sub_ck e3) (hn := ?_)
  refine LWo.assign (e_int x3) rfl (hn := ?_)
  refine LWo.nil (hN2 _ ?_)
  refine LWP.seq_k fun N4 hN4 => ?_
  refine LWP.seq_k fun N5 hN5 => ?_
  refine LWP.region (l := [_,_]) ?_
  refine LWo.move (e_int x3) rfl (hn := ?_)
  refine LWo.int _ rfl rfl rfl (hn := ?_)
  refine LWo.nil (hN5 _ ?_)
  refine LWP.cond_split rfl (fun h6 => ?_) (fun h6 => ?_)
  ·have h := bT h6 h
   refine LWP.seq_k fun N7 hN7 => ?_
   refine LWP.region (l := [_]) ?_
   refine LWo.assign (e_int (-1 : Int)) rfl (hn := ?_)
   refine LWo.nil (hN7 _ ?_)
   obtain rfl := Option.some.inj h
   refine LWP.ret (QG.mk (.inr rfl) (.cons (.tmp (x := (e_int (-1 : Int))) rfl) (.nil)) (RetOK.one0 (.pure rfl) (by decide)) rfl rfl)
  ·have h := bF h6 h
   refine LWP.skip (hN4 _ ?_)
   refine LWP.join (α := Int) (fun z : Int => [(1, (e_int z))]) (fun z : Int => []) (fun z : Int => m_laws_szPartS_j1  z) r (fun _ => by simp [hkeys]) ?_ ?_
   ·rintro t1 h
    replace h : m_laws_szPartS_j1  t1 = some _ := h
    refine LWP.seq_k fun N23 hN23 => ?_
    refine LWP.region (l := [_,_]) ?_
    refine LWo.move (e_int t1) rfl (hn := ?_)
    refine LWo.assign (e_int t1) rfl (hn := ?_)
    refine LWo.nil (hN23 _ ?_)
    obtain rfl := Option.some.inj h
    refine LWP.ret (QG.mk (.inr rfl) (.cons (.tmp (x := (e_int t1)) rfl) (.nil)) (RetOK.one0 (.pure rfl) (by decide)) rfl rfl)
   ·intro N8 hN8
    refine LWP.seq_k fun N9 hN9 => ?_
    refine LWP.region (l := [_]) ?_
    refine LWo.assign (e_int (0 : Int)) rfl (hn := ?_)
    refine LWo.nil (hN9 _ ?_)
    refine LWP.block ?_
    refine LWP.loopM (α := (List S_laws_Part) × Int × Int) (fun z : (List S_laws_Part) × Int × Int => [(0, (e_Llaws_Part z.1)), (1, (e_int z.2.1)), (5, (e_int z.2.2))]) (fun z : (List S_laws_Part) × Int × Int => []) (fun n1 (z : (List S_laws_Part) × Int × Int) => m_laws_szPartS_l1  n1 z.1 z.2.1 z.2.2) r _ (a0, x3, (0 : Int)) h (fun _ => rfl) (fun _ => by simp [hkeys]) ⟨rfl, rfl, rfl, trivial⟩ trivial ?_
    rintro n1 ⟨t0, t1, t5⟩ h N10 hN10
    replace h : m_laws_szPartS_l1  (n1 + 1) t0 t1 t5 = some _ := h
    refine LWP.seq_k fun N12 hN12 => ?_
    refine LWP.seq_k fun N13 hN13 => ?_
    refine LWP.region (l := [_,_,_,_]) ?_
    refine LWo.move (e_int t5) rfl (hn := ?_)
    refine LWo.move (e_Llaws_Part t0) rfl (hn := ?_)
    refine LWo.lenM (f := e_laws_Part) (l := t0) u_Llaws_Part rfl (hn := ?_)
    refine LWo.int _ rfl rfl rfl (hn := ?_)
    refine LWo.nil (hN13 _ ?_)
    refine LWP.cond_split rfl (fun h14 => ?_) (fun h14 => ?_)
    ·have h := bT h14 h
     refine LWP.skip (hN12 _ ?_)
     refine LWP.seq_k fun N15 hN15 => ?_
     refine LWP.block ?_
     refine LWP.seq_k fun N16 hN16 => ?_
     refine LWP.region (l := [_,_,_,_,_,_,_]) ?_
     refine LWo.move (e_Llaws_Part t0) rfl (hn := ?_)
     refine LWo.move (e_int t5) rfl (hn := ?_)
     refine bk h fun x17 e17 h => ?_
     refine LWo.indexM (f := e_laws_Part) e17 u_Llaws_Part s_laws_Part rfl rfl (hn := ?_)
     refine LWo.loadN ((e_laws_Part x17)).cells g_laws_Part s_laws_Part rfl (Nat.le_of_ble_eq_true rfl) rfl (hn := ?_)
     refine LWo.move (e_int t1) rfl (hn := ?_)
     refine bk h fun x18 e18 h => ?_
     refine LWo.vcall rfl rfl (c_laws_szPart _ _ _ e18) (.same (.same (.nil))) (hn := ?_)
     refine LWo.assign (e_int x18) rfl (hn := ?_)
     refine LWo.nil (hN16 _ ?_)
     refine LWP.seq_k fun N19 hN19 => ?_
     refine LWP.region (l := [_,_]) ?_
     refine LWo.move (e_int x18) rfl (hn := ?_)
     refine LWo.int _ rfl rfl rfl (hn := ?_)
     refine LWo.nil (hN19 _ ?_)
     refine LWP.cond_split rfl (fun h20 => ?_) (fun h20 => ?_)
     ·have h := bT h20 h
      refine LWP.seq_k fun N21 hN21 => ?_
      refine LWP.region (l := [_]) ?_
      refine LWo.assign (e_int (-1 : Int)) rfl (hn := ?_)
      refine LWo.nil (hN21 _ ?_)
      obtain rfl := Option.some.inj h
      refine LWP.ret (QG.mk (.inr rfl) (.cons (.tmp (x := (e_int (-1 : Int))) rfl) (.nil)) (RetOK.one0 (.pure rfl) (by decide)) rfl rfl)
     ·have h := bF h20 h
      refine LWP.skip (hN15 _ ?_)
      refine LWP.region (l := [_,_,_]) ?_
      refine LWo.move (e_int t5) rfl (hn := ?_)
      refine bk h fun x22 e22 h => ?_
      refine LWo.int _ rfl rfl (add_ck e22) (hn := ?_)
      refine LWo.assign (e_int x22) rfl (hn := ?_)
      refine LWo.nil (hN10 (t0, x18, x22) _ ⟨rfl, rfl, rfl, trivial⟩ trivial h)
    ·have h := bF h14 h
     refine LWP.exit (hN8 t1 _ ⟨rfl, trivial⟩ trivial h)

def m_laws_szBond (a0 : S_laws_Bond) (a1 : Int) : Option Int :=
  (m_laws_szIntS a0.f_List a1).bind fun x3 =>
  bif decide (x3 < (0 : Int)) then (some (-1 : Int))
  else ((m_laws_szIntS a0.To x3).bind fun x9 =>
  bif decide (x9 < (0 : Int)) then (some (-1 : Int))
  else ((m_laws_szPartS a0.E x9).bind fun x15 =>
  bif decide (x15 < (0 : Int)) then (some (-1 : Int))
  else (some x15)))
theorem c_laws_szBond (a0 : S_laws_Bond) (a1 : Int) (r : Int) (h : m_laws_szBond a0 a1 = some r) : Ret Try.prog f_laws_szBond [e_laws_Bond a0, e_int a1] (e_int r) := by
  refine Does.goG [] F_laws_szBond rfl e_laws_szBond n_laws_szBond rfl (rvs := [.tmp 4]) rfl rfl ?_
  intro w0 ok0 lent ρ0
  refine LWP.seq_k fun N1 hN1 => ?_
  refine LWP.region (l := [_,_]) ?_
  refine LWo.boxF (e_laws_Bond a0) rfl rfl rfl (hn := ?_)
  refine LWo.assign (e_int (0 : Int)) rfl (hn := ?_)
  refine LWo.nil (hN1 _ ?_)
  refine LWP.seq_k fun N2 hN2 => ?_
  refine LWP.region (l := [_,_,_,_,_]) ?_
  refine LWo.fieldAddr _ u_laws_Bond rfl s_Lint rfl rfl (hn := ?_)
  refine LWo.load1 (c := (e_Lint a0.f_List)) g_Lint rfl (hn := ?_)
  refine LWo.move (e_int a1) rfl (hn := ?_)
  refine bk h fun x3 e3 h => ?_
  refine LWo.vcall rfl rfl (c_laws_szIntS _ _ _ e3) (.same (.same (.nil))) (hn := ?_)
  refine LWo.assign (e_int x3) rfl (hn := ?_)
  refine LWo.nil (hN2 _ ?_)
  refine LWP.seq_k fun N4 hN4 => ?_
  refine LWP.seq_k fun N5 hN5 => ?_
  refine LWP.region (l := [_,_]) ?_
  refine LWo.move (e_int x3) rfl (hn := ?_)
  refine LWo.int _ rfl rfl rfl (hn := ?_)
  refine LWo.nil (hN5 _ ?_)
  refine LWP.cond_split rfl (fun h6 => ?_) (fun h6 => ?_)
  ·have h := bT h6 h
   refine LWP.seq_k fun N7 hN7 => ?_
   refine LWP.region (l := [_]) ?_
   refine LWo.assign (e_int (-1 : Int)) rfl (hn := ?_)
   refine LWo.nil (hN7 _ ?_)
   obtain rfl := Option.some.inj h
   refine LWP.ret (QG.mk (.inr rfl) (.cons (.tmp (x := (e_int (-1 : Int))) rfl) (.nil)) (RetOK.one0 (.pure rfl) (by decide)) rfl rfl)
  ·have h := bF h6 h
   refine LWP.skip (hN4 _ ?_)
   refine LWP.seq_k fun N8 hN8 => ?_
   refine LWP.region (l := [_,_,_,_,_]) ?_
   refine LWo.fieldAddr _ u_laws_Bond rfl s_Lint rfl rfl (hn := ?_)
   refine LWo.load1 (c := (e_Lint a0.To)) g_Lint rfl (hn := ?_)
   refine LWo.move (e_int x3) rfl (hn := ?_)
   refine bk h fun x9 e9 h => ?_
   refine LWo.vcall rfl rfl (c_laws_szIntS _ _ _ e9) (.same (.same (.nil))) (hn := ?_)
   refine LWo.assign (e_int x9) rfl (hn := ?_)
   refine LWo.nil (hN8 _ ?_)
   refine LWP.seq_k fun N10 hN10 => ?_
   refine LWP.seq_k fun N11 hN11 => ?_
   refine LWP.region (l := [_,_]) ?_
   refine LWo.move (e_int x9) rfl (hn := ?_)
   refine LWo.int _ rfl rfl rfl (hn := ?_)
   refine LWo.nil (hN11 _ ?_)
   refine LWP.cond_split rfl (fun h12 => ?_) (fun h12 => ?_)
   ·have h := bT h12 h
    refine LWP.seq_k fun N13 hN13 => ?_
    refine LWP.region (l := [_]) ?_
    refine LWo.assign (e_int (-1 : Int)) rfl (hn := ?_)
    refine LWo.nil (hN13 _ ?_)
    obtain rfl := Option.some.inj h
    refine LWP.ret (QG.mk (.inr rfl) (.cons (.tmp (x := (e_int (-1 : Int))) rfl) (.nil)) (RetOK.one0 (.pure rfl) (by decide)) rfl rfl)
   ·have h := bF h12 h
    refine LWP.skip (hN10 _ ?_)
    refine LWP.seq_k fun N14 hN14 => ?_
    refine LWP.region (l := [_,_,_,_,_]) ?_
    refine LWo.fieldAddr _ u_laws_Bond rfl s_Llaws_Part rfl rfl (hn := ?_)
    refine LWo.load1 (c := (e_Llaws_Part a0.E)) g_Llaws_Part rfl (hn := ?_)
    refine LWo.move (e_int x9) rfl (hn := ?_)
    refine bk h fun x15 e15 h => ?_
    refine LWo.vcall rfl rfl (c_laws_szPartS _ _ _ e15) (.same (.same (.nil))) (hn := ?_)
    refine LWo.assign (e_int x15) rfl (hn := ?_)
    refine LWo.nil (hN14 _ ?_)
    refine LWP.seq_k fun N16 hN16 => ?_
    refine LWP.seq_k fun N17 hN17 => ?_
    refine LWP.region (l := [_,_]) ?_
    refine LWo.move (e_int x15) rfl (hn := ?_)
    refine LWo.int _ rfl rfl rfl (hn := ?_)
    refine LWo.nil (hN17 _ ?_)
    refine LWP.cond_split rfl (fun h18 => ?_) (fun h18 => ?_)
    ·have h := bT h18 h
     refine LWP.seq_k fun N19 hN19 => ?_
     refine LWP.region (l := [_]) ?_
     refine LWo.assign (e_int (-1 : Int)) rfl (hn := ?_)
     refine LWo.nil (hN19 _ ?_)
     obtain rfl := Option.some.inj h
     refine LWP.ret (QG.mk (.inr rfl) (.cons (.tmp (x := (e_int (-1 : Int))) rfl) (.nil)) (RetOK.one0 (.pure rfl) (by decide)) rfl rfl)
    ·have h := bF h18 h
     refine LWP.skip (hN16 _ ?_)
     refine LWP.seq_k fun N20 hN20 => ?_
     refine LWP.region (l := [_,_]) ?_
     refine LWo.move (e_int x15) rfl (hn := ?_)
     refine LWo.assign (e_int x15) rfl (hn := ?_)
     refine LWo.nil (hN20 _ ?_)
     obtain rfl := Option.some.inj h
     refine LWP.ret (QG.mk (.inr rfl) (.cons (.tmp (x := (e_int x15)) rfl) (.nil)) (RetOK.one0 (.pure rfl) (by decide)) rfl rfl)

def m_laws_toColumn (a0 : S_laws_Column) : Option S_impl_Column :=
  lt ({ (⟨(0 : Int), false⟩ : S_impl_Column) with Kind := a0.Kind }) fun y4 =>
  lt ({ y4 with Empty := a0.Empty }) fun y6 =>
  lt (y6) fun y8 =>
  some y8
theorem c_laws_toColumn (a0 : S_laws_Column) (r : S_impl_Column) (h : m_laws_toColumn a0 = some r) : Ret Try.prog f_laws_toColumn [e_laws_Column a0] (e_impl_Column r) := by
  refine Does.goG [] F_laws_toColumn rfl e_laws_toColumn n_laws_toColumn rfl (rvs := [.cell 2 t_impl_Column]) rfl rfl ?_
  intro w0 ok0 lent ρ0
  refine LWP.seq_k fun N1 hN1 => ?_
  refine LWP.region (l := [_,_]) ?_
  refine LWo.boxF (e_laws_Column a0) rfl rfl rfl (hn := ?_)
  refine LWo.alloc_impl_Column 2 rfl (hn := ?_)
  refine LWo.nil (hN1 _ ?_)
  refine LWP.seq_k fun N2 hN2 => ?_
  refine LWP.region (l := [_]) ?_
  refine LWo.alloc_impl_Column 3 rfl (hn := ?_)
  refine LWo.nil (hN2 _ ?_)
  refine LWP.seq_k fun N3 hN3 => ?_
  refine LWP.region (l := [_,_,_,_]) ?_
  refine LWo.fieldAddr _ u_laws_Column rfl s_int rfl rfl (hn := ?_)
  refine LWo.load1 (c := (e_int a0.Kind)) g_int rfl (hn := ?_)
  refine LWo.fieldPtr u_impl_Column rfl s_int rfl rfl (hn := ?_)
  refine lk h fun y4 e4 h => ?_
  refine LWo.storeW (y := (⟨(0 : Int), false⟩ : S_impl_Column)) y4 s_int rfl rfl rfl rfl rfl rfl (by rw [e4]; exact .refl) rfl (hn := ?_)
  refine LWo.nil (hN3 _ ?_)
  refine LWP.seq_k fun N5 hN5 => ?_
  refine LWP.region (l := [_,_,_,_]) ?_
  refine LWo.fieldAddr _ u_laws_Column rfl s_bool rfl rfl (hn := ?_)
  refine LWo.load1 (c := (e_bool a0.Empty)) g_bool rfl (hn := ?_)
  refine LWo.fieldPtr u_impl_Column rfl s_bool rfl rfl (hn := ?_)
  refine lk h fun y6 e6 h => ?_
  refine LWo.storeW (y := y4) y6 s_bool rfl rfl rfl rfl rfl rfl (by rw [e6]; exact .refl) rfl (hn := ?_)
  refine LWo.nil (hN5 _ ?_)
  refine LWP.seq_k fun N7 hN7 => ?_
  refine LWP.region (l := [_,_]) ?_
  refine LWo.loadVN ((e_impl_Column y6)).cells  g_impl_Column s_impl_Column rfl rfl rfl rfl (hn := ?_)
  refine lk h fun y8 e8 h => ?_
  refine LWo.storeW (y := (⟨(0 : Int), false⟩ : S_impl_Column)) y8 s_impl_Column rfl rfl rfl rfl rfl rfl (by rw [e8]; exact .refl) rfl (hn := ?_)
  refine LWo.nil (hN7 _ ?_)
  obtain rfl := Option.some.inj h
  refine LWP.ret (QG.mk (.inr rfl) (.cons (.cellN (ys := (e_impl_Column y8).cells) g_impl_Column s_impl_Column rfl rfl rfl rfl rfl (fun _ _ => rfl)) (.nil)) (RetOK.one0 (.pure rfl) (by decide)) rfl rfl)

def m_laws_toColumnS_j1 (o1007 : (List S_impl_Column)) : Option (List S_impl_Column) :=
  some o1007
def m_laws_toColumnS_l1 : Nat → (List S_laws_Column) → Int → (List S_impl_Column) → Option (List S_impl_Column)
  | 0, _, _, _ => none
  | n1 + 1, t0, t4, o1007 =>
    bif decide (t4 < (t0.length : Int)) then ((at? t0 t4).bind fun x12 =>
    (m_laws_toColumn x12).bind fun x13 =>
    (at? o1007 t4).bind fun x14 =>
    (at? o1007 t4).bind fun x15 =>
    lt (x13) fun y16 =>
    (ckI (t4 + (1 : Int))).bind fun x17 =>
    (m_laws_toColumnS_l1  n1) t0 x17 (o1007.set (t4).toNat y16))
    else (m_laws_toColumnS_j1  o1007)
def m_laws_toColumnS (a0 : (List S_laws_Column)) : Option (List S_impl_Column) :=
  (mk2? (a0.length : Int) (a0.length : Int) ((⟨(0 : Int), false⟩ : S_impl_Column) : S_impl_Column)).bind fun x3 =>
  m_laws_toColumnS_l1  (((a0.length : Int) - (0 : Int)).toNat + 1) a0 (0 : Int) x3
theorem c_laws_toColumnS (a0 : (List S_laws_Column)) (r : (List S_impl_Column)) (h : m_laws_toColumnS a0 = some r) : Ret Try.prog f_laws_toColumnS [e_Llaws_Column a0] (.nw 2 (r.map e_impl_Column) false) := by
  refine Does.goG [] F_laws_toColumnS rfl e_laws_toColumnS n_laws_toColumnS rfl (rvs := [.tmp 2]) rfl rfl ?_
  intro w0 ok0 lent ρ0
  refine LWP.seq_k fun N1 hN1 => ?_
  refine LWP.region (l := [_]) ?_
  refine LWo.assign _ rfl (hn := ?_)
  refine LWo.ownNil 2 1002 2 rfl rfl rfl ?_
  refine LWo.known 2 (.own 1002 0 ([] : (List S_impl_Column)).length) rfl ?_
  refine LWo.nil (hN1 _ ?_)
  refine LWP.seq_k fun N2 hN2 => ?_
  refine LWP.region (l := [_,_,_,_]) ?_
  refine LWo.move (e_Llaws_Column a0) rfl (hn := ?_)
  refine LWo.lenM (f := e_laws_Column) (l := a0) u_Llaws_Column rfl (hn := ?_)
  refine bk h fun x3 e3 h => ?_
  refine LWo.make_impl_Column 1007 e3 u_Limpl_Column i_impl_Column rfl rfl rfl (hn := ?_)
  refine LWo.assign (.own 1007 0 (x3).length) rfl (hn := ?_)
  refine LWo.nil (hN2 _ ?_)
  refine LWP.join (α := (List S_impl_Column)) (fun z : (List S_impl_Column) => [(3, (.own 1007 0 (z).length))]) (fun z : (List S_impl_Column) => [(1007, (lob 2 e_impl_Column z))]) (fun z : (List S_impl_Column) => m_laws_toColumnS_j1  z) r (fun _ => by simp [hkeys]) ?_ ?_
  ·rintro o1007 h
   replace h : m_laws_toColumnS_j1  o1007 = some _ := h
   refine LWP.seq_k fun N18 hN18 => ?_
   refine LWP.region (l := [_,_]) ?_
   refine LWo.move (.own 1007 0 (o1007).length) rfl (hn := ?_)
   refine LWo.assign (.own 1007 0 (o1007).length) rfl (hn := ?_)
   refine LWo.nil (hN18 _ ?_)
   obtain rfl := Option.some.inj h
   refine LWP.ret (QG.mk (.inr rfl) (.cons (.tmp (x := (.own 1007 0 (o1007).length)) rfl) (.nil)) (RetOK.one0 (.nwM rfl rfl) (by decide)) rfl rfl)
  ·intro N4 hN4
   refine LWP.seq_k fun N5 hN5 => ?_
   refine LWP.region (l := [_]) ?_
   refine LWo.assign (e_int (0 : Int)) rfl (hn := ?_)
   refine LWo.nil (hN5 _ ?_)
   refine LWP.block ?_
   refine LWP.loopM (α := (List S_laws_Column) × Int × (List S_impl_Column)) (fun z : (List S_laws_Column) × Int × (List S_impl_Column) => [(0, (e_Llaws_Column z.1)), (3, (.own 1007 0 (z.2.2).length)), (4, (e_int z.2.1))]) (fun z : (List S_laws_Column) × Int × (List S_impl_Column) => [(1007, (lob 2 e_impl_Column z.2.2))]) (fun n1 (z : (List S_laws_Column) × Int × (List S_impl_Column)) => m_laws_toColumnS_l1  n1 z.1 z.2.1 z.2.2) r _ (a0, (0 : Int), x3) h (fun _ => rfl) (fun _ => by simp [hkeys]) ⟨rfl, rfl, rfl, trivial⟩ ⟨rfl, trivial⟩ ?_
   rintro n1 ⟨t0, t4, o1007⟩ h N6 hN6
   replace h : m_laws_toColumnS_l1  (n1 + 1) t0 t4 o1007 = some _ := h
   refine LWP.seq_k fun N8 hN8 => ?_
   refine LWP.seq_k fun N9 hN9 => ?_
   refine LWP.region (l := [_,_,_,_]) ?_
   refine LWo.move (e_int t4) rfl (hn := ?_)
   refine LWo.move (e_Llaws_Column t0) rfl (hn := ?_)
   refine LWo.lenM (f := e_laws_Column) (l := t0) u_Llaws_Column rfl (hn := ?_)
   refine LWo.int _ rfl rfl rfl (hn := ?_)
   refine LWo.nil (hN9 _ ?_)
   refine LWP.cond_split rfl (fun h10 => ?_) (fun h10 => ?_)
   ·have h := bT h10 h
    refine LWP.skip (hN8 _ ?_)
    refine LWP.seq_k fun N11 hN11 => ?_
    refine LWP.block ?_
    refine LWP.region (l := [_,_,_,_,_,_,_,_,_]) ?_
    refine LWo.move (.own 1007 0 (o1007).length) rfl (hn := ?_)
    refine LWo.move (e_int t4) rfl (hn := ?_)
    refine LWo.move (e_Llaws_Column t0) rfl (hn := ?_)
    refine LWo.move (e_int t4) rfl (hn := ?_)
    refine bk h fun x12 e12 h => ?_
    refine LWo.indexM (f := e_laws_Column) e12 u_Llaws_Column s_laws_Column rfl rfl (hn := ?_)
    refine LWo.loadN ((e_laws_Column x12)).cells g_laws_Column s_laws_Column rfl (Nat.le_of_ble_eq_true rfl) rfl (hn := ?_)
    refine bk h fun x13 e13 h => ?_
    refine LWo.vcall rfl rfl (c_laws_toColumn _ _ e13) (.same (.nil)) (hn := ?_)
    refine bk h fun x14 e14 h => ?_
    refine LWo.indexO e14 rfl u_Limpl_Column s_impl_Column rfl rfl rfl (hn := ?_)
    refine bk h fun x15 e15 h => ?_
    refine lk h fun y16 e16 h => ?_
    refine LWo.storeO y16 e15 s_impl_Column rfl rfl rfl rfl rfl rfl rfl (by rw [e16]; rfl) (hn := ?_)
    refine LWo.nil (hN11 _ ?_)
    refine LWP.region (l := [_,_,_]) ?_
    refine LWo.move (e_int t4) rfl (hn := ?_)
    refine bk h fun x17 e17 h => ?_
    refine LWo.int _ rfl rfl (add_ck e17) (hn := ?_)
    refine LWo.assign (e_int x17) rfl (hn := ?_)
    refine LWo.nil (hN6 (t0, x17, (o1007.set (t4).toNat y16)) _ ⟨rfl, (congrArg (LV.own 1007 0) List.length_set.symm), rfl, trivial⟩ ⟨rfl, trivial⟩ h)
   ·have h := bF h10 h
    refine LWP.exit (hN4 o1007 _ ⟨rfl, trivial⟩ ⟨rfl, trivial⟩ h)

def m_laws_toValue (a0 : S_laws_Value) : Option S_impl_Value :=
  lt ({ (⟨(0 : Int), (0 : Int), (⟨#[]⟩ : ByteArray)⟩ : S_impl_Value) with Kind := a0.Kind }) fun y4 =>
  lt ({ y4 with N := a0.N }) fun y6 =>
  lt ({ y6 with S := a0.S }) fun y8 =>
  lt (y8) fun y10 =>
  some y10
theorem c_laws_toValue (a0 : S_laws_Value) (r : S_impl_Value) (h : m_laws_toValue a0 = some r) : Ret Try.prog f_laws_toValue [e_laws_Value a0] (e_impl_Value r) := by
  refine Does.goG [] F_laws_toValue rfl e_laws_toValue n_laws_toValue rfl (rvs := [.cell 2 t_impl_Value]) rfl rfl ?_
  intro w0 ok0 lent ρ0
  refine LWP.seq_k fun N1 hN1 => ?_
  refine LWP.region (l := [_,_]) ?_
  refine LWo.boxF (e_laws_Value a0) rfl rfl rfl (hn := ?_)
  refine LWo.alloc_impl_Value 2 rfl (hn := ?_)
  refine LWo.nil (hN1 _ ?_)
  refine LWP.seq_k fun N2 hN2 => ?_
  refine LWP.region (l := [_]) ?_
  refine LWo.alloc_impl_Value 3 rfl (hn := ?_)
  refine LWo.nil (hN2 _ ?_)
  refine LWP.seq_k fun N3 hN3 => ?_
  refine LWP.region (l := [_,_,_,_]) ?_
  refine LWo.fieldAddr _ u_laws_Value rfl s_int rfl rfl (hn := ?_)
  refine LWo.load1 (c := (e_int a0.Kind)) g_int rfl (hn := ?_)
  refine LWo.fieldPtr u_impl_Value rfl s_int rfl rfl (hn := ?_)
  refine lk h fun y4 e4 h => ?_
  refine LWo.storeW (y := (⟨(0 : Int), (0 : Int), (⟨#[]⟩ : ByteArray)⟩ : S_impl_Value)) y4 s_int rfl rfl rfl rfl rfl rfl (by rw [e4]; exact .refl) rfl (hn := ?_)
  refine LWo.nil (hN3 _ ?_)
  refine LWP.seq_k fun N5 hN5 => ?_
  refine LWP.region (l := [_,_,_,_]) ?_
  refine LWo.fieldAddr _ u_laws_Value rfl s_int rfl rfl (hn := ?_)
  refine LWo.load1 (c := (e_int a0.N)) g_int rfl (hn := ?_)
  refine LWo.fieldPtr u_impl_Value rfl s_int rfl rfl (hn := ?_)
  refine lk h fun y6 e6 h => ?_
  refine LWo.storeW (y := y4) y6 s_int rfl rfl rfl rfl rfl rfl (by rw [e6]; exact .refl) rfl (hn := ?_)
  refine LWo.nil (hN5 _ ?_)
  refine LWP.seq_k fun N7 hN7 => ?_
  refine LWP.region (l := [_,_,_,_]) ?_
  refine LWo.fieldAddr _ u_laws_Value rfl s_string rfl rfl (hn := ?_)
  refine LWo.load1 (c := (e_string a0.S)) g_string rfl (hn := ?_)
  refine LWo.fieldPtr u_impl_Value rfl s_string rfl rfl (hn := ?_)
  refine lk h fun y8 e8 h => ?_
  refine LWo.storeW (y := y6) y8 s_string rfl rfl rfl rfl rfl rfl (by rw [e8]; exact .refl) rfl (hn := ?_)
  refine LWo.nil (hN7 _ ?_)
  refine LWP.seq_k fun N9 hN9 => ?_
  refine LWP.region (l := [_,_]) ?_
  refine LWo.loadVN ((e_impl_Value y8)).cells  g_impl_Value s_impl_Value rfl rfl rfl rfl (hn := ?_)
  refine lk h fun y10 e10 h => ?_
  refine LWo.storeW (y := (⟨(0 : Int), (0 : Int), (⟨#[]⟩ : ByteArray)⟩ : S_impl_Value)) y10 s_impl_Value rfl rfl rfl rfl rfl rfl (by rw [e10]; exact .refl) rfl (hn := ?_)
  refine LWo.nil (hN9 _ ?_)
  obtain rfl := Option.some.inj h
  refine LWP.ret (QG.mk (.inr rfl) (.cons (.cellN (ys := (e_impl_Value y10).cells) g_impl_Value s_impl_Value rfl rfl rfl rfl rfl (fun _ _ => rfl)) (.nil)) (RetOK.one0 (.pure rfl) (by decide)) rfl rfl)

def m_laws_toValueS_j1 (o1007 : (List S_impl_Value)) : Option (List S_impl_Value) :=
  some o1007
def m_laws_toValueS_l1 : Nat → (List S_laws_Value) → Int → (List S_impl_Value) → Option (List S_impl_Value)
  | 0, _, _, _ => none
  | n1 + 1, t0, t4, o1007 =>
    bif decide (t4 < (t0.length : Int)) then ((at? t0 t4).bind fun x12 =>
    (m_laws_toValue x12).bind fun x13 =>
    (at? o1007 t4).bind fun x14 =>
    (at? o1007 t4).bind fun x15 =>
    lt (x13) fun y16 =>
    (ckI (t4 + (1 : Int))).bind fun x17 =>
    (m_laws_toValueS_l1  n1) t0 x17 (o1007.set (t4).toNat y16))
    else (m_laws_toValueS_j1  o1007)
def m_laws_toValueS (a0 : (List S_laws_Value)) : Option (List S_impl_Value) :=
  (mk2? (a0.length : Int) (a0.length : Int) ((⟨(0 : Int), (0 : Int), (⟨#[]⟩ : ByteArray)⟩ : S_impl_Value) : S_impl_Value)).bind fun x3 =>
  m_laws_toValueS_l1  (((a0.length : Int) - (0 : Int)).toNat + 1) a0 (0 : Int) x3
theorem c_laws_toValueS (a0 : (List S_laws_Value)) (r : (List S_impl_Value)) (h : m_laws_toValueS a0 = some r) : Ret Try.prog f_laws_toValueS [e_Llaws_Value a0] (.nw 3 (r.map e_impl_Value) false) := by
  refine Does.goG [] F_laws_toValueS rfl e_laws_toValueS n_laws_toValueS rfl (rvs := [.tmp 2]) rfl rfl ?_
  intro w0 ok0 lent ρ0
  refine LWP.seq_k fun N1 hN1 => ?_
  refine LWP.region (l := [_]) ?_
  refine LWo.assign _ rfl (hn := ?_)
  refine LWo.ownNil 2 1002 3 rfl rfl rfl ?_
  refine LWo.known 2 (.own 1002 0 ([] : (List S_impl_Value)).length) rfl ?_
  refine LWo.nil (hN1 _ ?_)
  refine LWP.seq_k fun N2 hN2 => ?_
  refine LWP.region (l := [_,_,_,_]) ?_
  refine LWo.move (e_Llaws_Value a0) rfl (hn := ?_)
  refine LWo.lenM (f := e_laws_Value) (l := a0) u_Llaws_Value rfl (hn := ?_)
  refine bk h fun x3 e3 h => ?_
  refine LWo.make_impl_Value 1007 e3 u_Limpl_Value i_impl_Value rfl rfl rfl (hn := ?_)
  refine LWo.assign (.own 1007 0 (x3).length) rfl (hn := ?_)
  refine LWo.nil (hN2 _ ?_)
  refine LWP.join (α := (List S_impl_Value)) (fun z : (List S_impl_Value) => [(3, (.own 1007 0 (z).length))]) (fun z : (List S_impl_Value) => [(1007, (lob 3 e_impl_Value z))]) (fun z : (List S_impl_Value) => m_laws_toValueS_j1  z) r (fun _ => by simp [hkeys]) ?_ ?_
  ·rintro o1007 h
   replace h : m_laws_toValueS_j1  o1007 = some _ := h
   refine LWP.seq_k fun N18 hN18 => ?_
   refine LWP.region (l := [_,_]) ?_
   refine LWo.move (.own 1007 0 (o1007).length) rfl (hn := ?_)
   refine LWo.assign (.own 1007 0 (o1007).length) rfl (hn := ?_)
   refine LWo.nil (hN18 _ ?_)
   obtain rfl := Option.some.inj h
   refine LWP.ret (QG.mk (.inr rfl) (.cons (.tmp (x := (.own 1007 0 (o1007).length)) rfl) (.nil)) (RetOK.one0 (.nwM rfl rfl) (by decide)) rfl rfl)
  ·intro N4 hN4
   refine LWP.seq_k fun N5 hN5 => ?_
   refine LWP.region (l := [_]) ?_
   refine LWo.assign (e_int (0 : Int)) rfl (hn := ?_)
   refine LWo.nil (hN5 _ ?_)
   refine LWP.block ?_
   refine LWP.loopM (α := (List S_laws_Value) × Int × (List S_impl_Value)) (fun z : (List S_laws_Value) × Int × (List S_impl_Value) => [(0, (e_Llaws_Value z.1)), (3, (.own 1007 0 (z.2.2).length)), (4, (e_int z.2.1))]) (fun z : (List S_laws_Value) × Int × (List S_impl_Value) => [(1007, (lob 3 e_impl_Value z.2.2))]) (fun n1 (z : (List S_laws_Value) × Int × (List S_impl_Value)) => m_laws_toValueS_l1  n1 z.1 z.2.1 z.2.2) r _ (a0, (0 : Int), x3) h (fun _ => rfl) (fun _ => by simp [hkeys]) ⟨rfl, rfl, rfl, trivial⟩ ⟨rfl, trivial⟩ ?_
   rintro n1 ⟨t0, t4, o1007⟩ h N6 hN6
   replace h : m_laws_toValueS_l1  (n1 + 1) t0 t4 o1007 = some _ := h
   refine LWP.seq_k fun N8 hN8 => ?_
   refine LWP.seq_k fun N9 hN9 => ?_
   refine LWP.region (l := [_,_,_,_]) ?_
   refine LWo.move (e_int t4) rfl (hn := ?_)
   refine LWo.move (e_Llaws_Value t0) rfl (hn := ?_)
   refine LWo.lenM (f := e_laws_Value) (l := t0) u_Llaws_Value rfl (hn := ?_)
   refine LWo.int _ rfl rfl rfl (hn := ?_)
   refine LWo.nil (hN9 _ ?_)
   refine LWP.cond_split rfl (fun h10 => ?_) (fun h10 => ?_)
   ·have h := bT h10 h
    refine LWP.skip (hN8 _ ?_)
    refine LWP.seq_k fun N11 hN11 => ?_
    refine LWP.block ?_
    refine LWP.region (l := [_,_,_,_,_,_,_,_,_]) ?_
    refine LWo.move (.own 1007 0 (o1007).length) rfl (hn := ?_)
    refine LWo.move (e_int t4) rfl (hn := ?_)
    refine LWo.move (e_Llaws_Value t0) rfl (hn := ?_)
    refine LWo.move (e_int t4) rfl (hn := ?_)
    refine bk h fun x12 e12 h => ?_
    refine LWo.indexM (f := e_laws_Value) e12 u_Llaws_Value s_laws_Value rfl rfl (hn := ?_)
    refine LWo.loadN ((e_laws_Value x12)).cells g_laws_Value s_laws_Value rfl (Nat.le_of_ble_eq_true rfl) rfl (hn := ?_)
    refine bk h fun x13 e13 h => ?_
    refine LWo.vcall rfl rfl (c_laws_toValue _ _ e13) (.same (.nil)) (hn := ?_)
    refine bk h fun x14 e14 h => ?_
    refine LWo.indexO e14 rfl u_Limpl_Value s_impl_Value rfl rfl rfl (hn := ?_)
    refine bk h fun x15 e15 h => ?_
    refine lk h fun y16 e16 h => ?_
    refine LWo.storeO y16 e15 s_impl_Value rfl rfl rfl rfl rfl rfl rfl (by rw [e16]; rfl) (hn := ?_)
    refine LWo.nil (hN11 _ ?_)
    refine LWP.region (l := [_,_,_]) ?_
    refine LWo.move (e_int t4) rfl (hn := ?_)
    refine bk h fun x17 e17 h => ?_
    refine LWo.int _ rfl rfl (add_ck e17) (hn := ?_)
    refine LWo.assign (e_int x17) rfl (hn := ?_)
    refine LWo.nil (hN6 (t0, x17, (o1007.set (t4).toNat y16)) _ ⟨rfl, (congrArg (LV.own 1007 0) List.length_set.symm), rfl, trivial⟩ ⟨rfl, trivial⟩ h)
   ·have h := bF h10 h
    refine LWP.exit (hN4 o1007 _ ⟨rfl, trivial⟩ ⟨rfl, trivial⟩ h)

def m_laws_toValueSS_j1 (o1007 : (List (List S_impl_Value))) : Option (List (List S_impl_Value)) :=
  some o1007
def m_laws_toValueSS_l1 : Nat → (List (List S_laws_Value)) → Int → (List (List S_impl_Value)) → Option (List (List S_impl_Value))
  | 0, _, _, _ => none
  | n1 + 1, t0, t4, o1007 =>
    bif decide (t4 < (t0.length : Int)) then ((at? t0 t4).bind fun x12 =>
    (m_laws_toValueS x12).bind fun x13 =>
    (at? o1007 t4).bind fun x14 =>
    (at? o1007 t4).bind fun x15 =>
    lt (x13) fun y16 =>
    (ckI (t4 + (1 : Int))).bind fun x17 =>
    (m_laws_toValueSS_l1  n1) t0 x17 (o1007.set (t4).toNat y16))
    else (m_laws_toValueSS_j1  o1007)
def m_laws_toValueSS (a0 : (List (List S_laws_Value))) : Option (List (List S_impl_Value)) :=
  (mk2? (a0.length : Int) (a0.length : Int) ([] : (List S_impl_Value))).bind fun x3 =>
  m_laws_toValueSS_l1  (((a0.length : Int) - (0 : Int)).toNat + 1) a0 (0 : Int) x3
theorem c_laws_toValueSS (a0 : (List (List S_laws_Value))) (r : (List (List S_impl_Value))) (h : m_laws_toValueSS a0 = some r) : Ret Try.prog f_laws_toValueSS [e_LLlaws_Value a0] (.nw 1 (r.map e_Limpl_Value) false) := by
  refine Does.goG [] F_laws_toValueSS rfl e_laws_toValueSS n_laws_toValueSS rfl (rvs := [.tmp 2]) rfl rfl ?_
  intro w0 ok0 lent ρ0
  refine LWP.seq_k fun N1 hN1 => ?_
  refine LWP.region (l := [_]) ?_
  refine LWo.assign _ rfl (hn := ?_)
  refine LWo.ownNil 2 1002 1 rfl rfl rfl ?_
  refine LWo.known 2 (.own 1002 0 ([] : (List (List S_impl_Value))).length) rfl ?_
  refine LWo.nil (hN1 _ ?_)
  refine LWP.seq_k fun N2 hN2 => ?_
  refine LWP.region (l := [_,_,_,_]) ?_
  refine LWo.move (e_LLlaws_Value a0) rfl (hn := ?_)
  refine LWo.lenM (f := e_Llaws_Value) (l := a0) u_LLlaws_Value rfl (hn := ?_)
  refine bk h fun x3 e3 h => ?_
  refine LWo.make_Limpl_Value 1007 e3 u_LLimpl_Value i_Limpl_Value rfl rfl rfl (hn := ?_)
  refine LWo.assign (.own 1007 0 (x3).length) rfl (hn := ?_)
  refine LWo.nil (hN2 _ ?_)
  refine LWP.join (α := (List (List S_impl_Value))) (fun z : (List (List S_impl_Value)) => [(3, (.own 1007 0 (z).length))]) (fun z : (List (List S_impl_Value)) => [(1007, (lob 1 e_Limpl_Value z))]) (fun z : (List (List S_impl_Value)) => m_laws_toValueSS_j1  z) r (fun _ => by simp [hkeys]) ?_ ?_
  ·rintro o1007 h
   replace h : m_laws_toValueSS_j1  o1007 = some _ := h
   refine LWP.seq_k fun N18 hN18 => ?_
   refine LWP.region (l := [_,_]) ?_
   refine LWo.move (.own 1007 0 (o1007).length) rfl (hn := ?_)
   refine LWo.assign (.own 1007 0 (o1007).length) rfl (hn := ?_)
   refine LWo.nil (hN18 _ ?_)
   obtain rfl := Option.some.inj h
   refine LWP.ret (QG.mk (.inr rfl) (.cons (.tmp (x := (.own 1007 0 (o1007).length)) rfl) (.nil)) (RetOK.one0 (.nwM rfl rfl) (by decide)) rfl rfl)
  ·intro N4 hN4
   refine LWP.seq_k fun N5 hN5 => ?_
   refine LWP.region (l := [_]) ?_
   refine LWo.assign (e_int (0 : Int)) rfl (hn := ?_)
   refine LWo.nil (hN5 _ ?_)
   refine LWP.block ?_
   refine LWP.loopM (α := (List (List S_laws_Value)) × Int × (List (List S_impl_Value))) (fun z : (List (List S_laws_Value)) × Int × (List (List S_impl_Value)) => [(0, (e_LLlaws_Value z.1)), (3, (.own 1007 0 (z.2.2).length)), (4, (e_int z.2.1))]) (fun z : (List (List S_laws_Value)) × Int × (List (List S_impl_Value)) => [(1007, (lob 1 e_Limpl_Value z.2.2))]) (fun n1 (z : (List (List S_laws_Value)) × Int × (List (List S_impl_Value))) => m_laws_toValueSS_l1  n1 z.1 z.2.1 z.2.2) r _ (a0, (0 : Int), x3) h (fun _ => rfl) (fun _ => by simp [hkeys]) ⟨rfl, rfl, rfl, trivial⟩ ⟨rfl, trivial⟩ ?_
   rintro n1 ⟨t0, t4, o1007⟩ h N6 hN6
   replace h : m_laws_toValueSS_l1  (n1 + 1) t0 t4 o1007 = some _ := h
   refine LWP.seq_k fun N8 hN8 => ?_
   refine LWP.seq_k fun N9 hN9 => ?_
   refine LWP.region (l := [_,_,_,_]) ?_
   refine LWo.move (e_int t4) rfl (hn := ?_)
   refine LWo.move (e_LLlaws_Value t0) rfl (hn := ?_)
   refine LWo.lenM (f := e_Llaws_Value) (l := t0) u_LLlaws_Value rfl (hn := ?_)
   refine LWo.int _ rfl rfl rfl (hn := ?_)
   refine LWo.nil (hN9 _ ?_)
   refine LWP.cond_split rfl (fun h10 => ?_) (fun h10 => ?_)
   ·have h := bT h10 h
    refine LWP.skip (hN8 _ ?_)
    refine LWP.seq_k fun N11 hN11 => ?_
    refine LWP.block ?_
    refine LWP.region (l := [_,_,_,_,_,_,_,_,_]) ?_
    refine LWo.move (.own 1007 0 (o1007).length) rfl (hn := ?_)
    refine LWo.move (e_int t4) rfl (hn := ?_)
    refine LWo.move (e_LLlaws_Value t0) rfl (hn := ?_)
    refine LWo.move (e_int t4) rfl (hn := ?_)
    refine bk h fun x12 e12 h => ?_
    refine LWo.indexM (f := e_Llaws_Value) e12 u_LLlaws_Value s_Llaws_Value rfl rfl (hn := ?_)
    refine LWo.load1 (c := (e_Llaws_Value x12)) g_Llaws_Value rfl (hn := ?_)
    refine bk h fun x13 e13 h => ?_
    refine LWo.vcall rfl rfl (c_laws_toValueS _ _ e13) (.same (.nil)) (hn := ?_)
    refine bk h fun x14 e14 h => ?_
    refine LWo.indexO e14 rfl u_LLimpl_Value s_Limpl_Value rfl rfl rfl (hn := ?_)
    refine bk h fun x15 e15 h => ?_
    refine lk h fun y16 e16 h => ?_
    refine LWo.storeO y16 e15 s_Limpl_Value rfl rfl rfl rfl rfl rfl rfl (by rw [e16]; rfl) (hn := ?_)
    refine LWo.nil (hN11 _ ?_)
    refine LWP.region (l := [_,_,_]) ?_
    refine LWo.move (e_int t4) rfl (hn := ?_)
    refine bk h fun x17 e17 h => ?_
    refine LWo.int _ rfl rfl (add_ck e17) (hn := ?_)
    refine LWo.assign (e_int x17) rfl (hn := ?_)
    refine LWo.nil (hN6 (t0, x17, (o1007.set (t4).toNat y16)) _ ⟨rfl, (congrArg (LV.own 1007 0) List.length_set.symm), rfl, trivial⟩ ⟨rfl, trivial⟩ h)
   ·have h := bF h10 h
    refine LWP.exit (hN4 o1007 _ ⟨rfl, trivial⟩ ⟨rfl, trivial⟩ h)

def m_laws_toTable (a0 : S_laws_Table) : Option S_impl_Table :=
  (m_laws_toColumnS a0.Columns).bind fun x4 =>
  lt ({ (⟨[], []⟩ : S_impl_Table) with Columns := x4 }) fun y5 =>
  (m_laws_toValueSS a0.Rows).bind fun x7 =>
  lt ({ y5 with Rows := x7 }) fun y8 =>
  lt (y8) fun y10 =>
  some y10
theorem c_laws_toTable (a0 : S_laws_Table) (r : S_impl_Table) (h : m_laws_toTable a0 = some r) : Ret Try.prog f_laws_toTable [e_laws_Table a0] (e_impl_Table r) := by
  refine Does.goG [] F_laws_toTable rfl e_laws_toTable n_laws_toTable rfl (rvs := [.cell 2 t_impl_Table]) rfl rfl ?_
  intro w0 ok0 lent ρ0
  refine LWP.seq_k fun N1 hN1 => ?_
  refine LWP.region (l := [_,_]) ?_
  refine LWo.boxF (e_laws_Table a0) rfl rfl rfl (hn := ?_)
  refine LWo.alloc_impl_Table 2 rfl (hn := ?_)
  refine LWo.nil (hN1 _ ?_)
  refine LWP.seq_k fun N2 hN2 => ?_
  refine LWP.region (l := [_]) ?_
  refine LWo.alloc_impl_Table 3 rfl (hn := ?_)
  refine LWo.nil (hN2 _ ?_)
  refine LWP.seq_k fun N3 hN3 => ?_
  refine LWP.region (l := [_,_,_,_,_]) ?_
  refine LWo.fieldAddr _ u_laws_Table rfl s_Llaws_Column rfl rfl (hn := ?_)
  refine LWo.load1 (c := (e_Llaws_Column a0.Columns)) g_Llaws_Column rfl (hn := ?_)
  refine bk h fun x4 e4 h => ?_
  refine LWo.vcall rfl rfl (c_laws_toColumnS _ _ e4) (.same (.nil)) (hn := ?_)
  refine LWo.fieldPtr u_impl_Table rfl s_Limpl_Column rfl rfl (hn := ?_)
  refine lk h fun y5 e5 h => ?_
  refine LWo.storeW (y := (⟨[], []⟩ : S_impl_Table)) y5 s_Limpl_Column rfl rfl rfl rfl rfl rfl (by rw [e5]; exact .refl) rfl (hn := ?_)
  refine LWo.nil (hN3 _ ?_)
  refine LWP.seq_k fun N6 hN6 => ?_
  refine LWP.region (l := [_,_,_,_,_]) ?_
  refine LWo.fieldAddr _ u_laws_Table rfl s_LLlaws_Value rfl rfl (hn := ?_)
  refine LWo.load1 (c := (e_LLlaws_Value a0.Rows)) g_LLlaws_Value rfl (hn := ?_)
  refine bk h fun x7 e7 h => ?_
  refine LWo.vcall rfl rfl (c_laws_toValueSS _ _ e7) (.same (.nil)) (hn := ?_)
  refine LWo.fieldPtr u_impl_Table rfl s_LLimpl_Value rfl rfl (hn := ?_)
  refine lk h fun y8 e8 h => ?_
  refine LWo.storeW (y := y5) y8 s_LLimpl_Value rfl rfl rfl rfl rfl rfl (by rw [e8]; exact .refl) rfl (hn := ?_)
  refine LWo.nil (hN6 _ ?_)
  refine LWP.seq_k fun N9 hN9 => ?_
  refine LWP.region (l := [_,_]) ?_
  refine LWo.loadVN ((e_impl_Table y8)).cells  g_impl_Table s_impl_Table rfl rfl rfl rfl (hn := ?_)
  refine lk h fun y10 e10 h => ?_
  refine LWo.storeW (y := (⟨[], []⟩ : S_impl_Table)) y10 s_impl_Table rfl rfl rfl rfl rfl rfl (by rw [e10]; exact .refl) rfl (hn := ?_)
  refine LWo.nil (hN9 _ ?_)
  obtain rfl := Option.some.inj h
  refine LWP.ret (QG.mk (.inr rfl) (.cons (.cellN (ys := (e_impl_Table y10).cells) g_impl_Table s_impl_Table rfl rfl rfl rfl rfl (fun _ _ => rfl)) (.nil)) (RetOK.one0 (.pure rfl) (by decide)) rfl rfl)

def m_laws_toTableS_j1 (o1007 : (List S_impl_Table)) : Option (List S_impl_Table) :=
  some o1007
def m_laws_toTableS_l1 : Nat → (List S_laws_Table) → Int → (List S_impl_Table) → Option (List S_impl_Table)
  | 0, _, _, _ => none
  | n1 + 1, t0, t4, o1007 =>
    bif decide (t4 < (t0.length : Int)) then ((at? t0 t4).bind fun x12 =>
    (m_laws_toTable x12).bind fun x13 =>
    (at? o1007 t4).bind fun x14 =>
    (at? o1007 t4).bind fun x15 =>
    lt (x13) fun y16 =>
    (ckI (t4 + (1 : Int))).bind fun x17 =>
    (m_laws_toTableS_l1  n1) t0 x17 (o1007.set (t4).toNat y16))
    else (m_laws_toTableS_j1  o1007)
def m_laws_toTableS (a0 : (List S_laws_Table)) : Option (List S_impl_Table) :=
  (mk2? (a0.length : Int) (a0.length : Int) ((⟨[], []⟩ : S_impl_Table) : S_impl_Table)).bind fun x3 =>
  m_laws_toTableS_l1  (((a0.length : Int) - (0 : Int)).toNat + 1) a0 (0 : Int) x3
theorem c_laws_toTableS (a0 : (List S_laws_Table)) (r : (List S_impl_Table)) (h : m_laws_toTableS a0 = some r) : Ret Try.prog f_laws_toTableS [e_Llaws_Table a0] (.nw 2 (r.map e_impl_Table) false) := by
  refine Does.goG [] F_laws_toTableS rfl e_laws_toTableS n_laws_toTableS rfl (rvs := [.tmp 2]) rfl rfl ?_
  intro w0 ok0 lent ρ0
  refine LWP.seq_k fun N1 hN1 => ?_
  refine LWP.region (l := [_]) ?_
  refine LWo.assign _ rfl (hn := ?_)
  refine LWo.ownNil 2 1002 2 rfl rfl rfl ?_
  refine LWo.known 2 (.own 1002 0 ([] : (List S_impl_Table)).length) rfl ?_
  refine LWo.nil (hN1 _ ?_)
  refine LWP.seq_k fun N2 hN2 => ?_
  refine LWP.region (l := [_,_,_,_]) ?_
  refine LWo.move (e_Llaws_Table a0) rfl (hn := ?_)
  refine LWo.lenM (f := e_laws_Table) (l := a0) u_Llaws_Table rfl (hn := ?_)
  refine bk h fun x3 e3 h => ?_
  refine LWo.make_impl_Table 1007 e3 u_Limpl_Table i_impl_Table rfl rfl rfl (hn := ?_)
  refine LWo.assign (.own 1007 0 (x3).length) rfl (hn := ?_)
  refine LWo.nil (hN2 _ ?_)
  refine LWP.join (α := (List S_impl_Table)) (fun z : (List S_impl_Table) => [(3, (.own 1007 0 (z).length))]) (fun z : (List S_impl_Table) => [(1007, (lob 2 e_impl_Table z))]) (fun z : (List S_impl_Table) => m_laws_toTableS_j1  z) r (fun _ => by simp [hkeys]) ?_ ?_
  ·rintro o1007 h
   replace h : m_laws_toTableS_j1  o1007 = some _ := h
   refine LWP.seq_k fun N18 hN18 => ?_
   refine LWP.region (l := [_,_]) ?_
   refine LWo.move (.own 1007 0 (o1007).length) rfl (hn := ?_)
   refine LWo.assign (.own 1007 0 (o1007).length) rfl (hn := ?_)
   refine LWo.nil (hN18 _ ?_)
   obtain rfl := Option.some.inj h
   refine LWP.ret (QG.mk (.inr rfl) (.cons (.tmp (x := (.own 1007 0 (o1007).length)) rfl) (.nil)) (RetOK.one0 (.nwM rfl rfl) (by decide)) rfl rfl)
  ·intro N4 hN4
   refine LWP.seq_k fun N5 hN5 => ?_
   refine LWP.region (l := [_]) ?_
   refine LWo.assign (e_int (0 : Int)) rfl (hn := ?_)
   refine LWo.nil (hN5 _ ?_)
   refine LWP.block ?_
   refine LWP.loopM (α := (List S_laws_Table) × Int × (List S_impl_Table)) (fun z : (List S_laws_Table) × Int × (List S_impl_Table) => [(0, (e_Llaws_Table z.1)), (3, (.own 1007 0 (z.2.2).length)), (4, (e_int z.2.1))]) (fun z : (List S_laws_Table) × Int × (List S_impl_Table) => [(1007, (lob 2 e_impl_Table z.2.2))]) (fun n1 (z : (List S_laws_Table) × Int × (List S_impl_Table)) => m_laws_toTableS_l1  n1 z.1 z.2.1 z.2.2) r _ (a0, (0 : Int), x3) h (fun _ => rfl) (fun _ => by simp [hkeys]) ⟨rfl, rfl, rfl, trivial⟩ ⟨rfl, trivial⟩ ?_
   rintro n1 ⟨t0, t4, o1007⟩ h N6 hN6
   replace h : m_laws_toTableS_l1  (n1 + 1) t0 t4 o1007 = some _ := h
   refine LWP.seq_k fun N8 hN8 => ?_
   refine LWP.seq_k fun N9 hN9 => ?_
   refine LWP.region (l := [_,_,_,_]) ?_
   refine LWo.move (e_int t4) rfl (hn := ?_)
   refine LWo.move (e_Llaws_Table t0) rfl (hn := ?_)
   refine LWo.lenM (f := e_laws_Table) (l := t0) u_Llaws_Table rfl (hn := ?_)
   refine LWo.int _ rfl rfl rfl (hn := ?_)
   refine LWo.nil (hN9 _ ?_)
   refine LWP.cond_split rfl (fun h10 => ?_) (fun h10 => ?_)
   ·have h := bT h10 h
    refine LWP.skip (hN8 _ ?_)
    refine LWP.seq_k fun N11 hN11 => ?_
    refine LWP.block ?_
    refine LWP.region (l := [_,_,_,_,_,_,_,_,_]) ?_
    refine LWo.move (.own 1007 0 (o1007).length) rfl (hn := ?_)
    refine LWo.move (e_int t4) rfl (hn := ?_)
    refine LWo.move (e_Llaws_Table t0) rfl (hn := ?_)
    refine LWo.move (e_int t4) rfl (hn := ?_)
    refine bk h fun x12 e12 h => ?_
    refine LWo.indexM (f := e_laws_Table) e12 u_Llaws_Table s_laws_Table rfl rfl (hn := ?_)
    refine LWo.loadN ((e_laws_Table x12)).cells g_laws_Table s_laws_Table rfl (Nat.le_of_ble_eq_true rfl) rfl (hn := ?_)
    refine bk h fun x13 e13 h => ?_
    refine LWo.vcall rfl rfl (c_laws_toTable _ _ e13) (.same (.nil)) (hn := ?_)
    refine bk h fun x14 e14 h => ?_
    refine LWo.indexO e14 rfl u_Limpl_Table s_impl_Table rfl rfl rfl (hn := ?_)
    refine bk h fun x15 e15 h => ?_
    refine lk h fun y16 e16 h => ?_
    refine LWo.storeO y16 e15 s_impl_Table rfl rfl rfl rfl rfl rfl rfl (by rw [e16]; rfl) (hn := ?_)
    refine LWo.nil (hN11 _ ?_)
    refine LWP.region (l := [_,_,_]) ?_
    refine LWo.move (e_int t4) rfl (hn := ?_)
    refine bk h fun x17 e17 h => ?_
    refine LWo.int _ rfl rfl (add_ck e17) (hn := ?_)
    refine LWo.assign (e_int x17) rfl (hn := ?_)
    refine LWo.nil (hN6 (t0, x17, (o1007.set (t4).toNat y16)) _ ⟨rfl, (congrArg (LV.own 1007 0) List.length_set.symm), rfl, trivial⟩ ⟨rfl, trivial⟩ h)
   ·have h := bF h10 h
    refine LWP.exit (hN4 o1007 _ ⟨rfl, trivial⟩ ⟨rfl, trivial⟩ h)

def m_laws_toIntS_j1 (o1007 : (List Int)) : Option (List Int) :=
  some o1007
def m_laws_toIntS_l1 : Nat → (List Int) → Int → (List Int) → Option (List Int)
  | 0, _, _, _ => none
  | n1 + 1, t0, t4, o1007 =>
    bif decide (t4 < (t0.length : Int)) then ((at? t0 t4).bind fun x12 =>
    (at? o1007 t4).bind fun x13 =>
    (at? o1007 t4).bind fun x14 =>
    lt (x12) fun y15 =>
    (ckI (t4 + (1 : Int))).bind fun x16 =>
    (m_laws_toIntS_l1  n1) t0 x16 (o1007.set (t4).toNat y15))
    else (m_laws_toIntS_j1  o1007)
def m_laws_toIntS (a0 : (List Int)) : Option (List Int) :=
  (mk2? (a0.length : Int) (a0.length : Int) ((0 : Int) : Int)).bind fun x3 =>
  m_laws_toIntS_l1  (((a0.length : Int) - (0 : Int)).toNat + 1) a0 (0 : Int) x3
theorem c_laws_toIntS (a0 : (List Int)) (r : (List Int)) (h : m_laws_toIntS a0 = some r) : Ret Try.prog f_laws_toIntS [e_Lint a0] (.nw 1 (r.map e_int) false) := by
  refine Does.goG [] F_laws_toIntS rfl e_laws_toIntS n_laws_toIntS rfl (rvs := [.tmp 2]) rfl rfl ?_
  intro w0 ok0 lent ρ0
  refine LWP.seq_k fun N1 hN1 => ?_
  refine LWP.region (l := [_]) ?_
  refine LWo.assign _ rfl (hn := ?_)
  refine LWo.ownNil 2 1002 1 rfl rfl rfl ?_
  refine LWo.known 2 (.own 1002 0 ([] : (List Int)).length) rfl ?_
  refine LWo.nil (hN1 _ ?_)
  refine LWP.seq_k fun N2 hN2 => ?_
  refine LWP.region (l := [_,_,_,_]) ?_
  refine LWo.move (e_Lint a0) rfl (hn := ?_)
  refine LWo.lenM (f := e_int) (l := a0) u_Lint rfl (hn := ?_)
  refine bk h fun x3 e3 h => ?_
  refine LWo.make_int 1007 e3 u_Lint i_int rfl rfl rfl (hn := ?_)
  refine LWo.assign (.own 1007 0 (x3).length) rfl (hn := ?_)
  refine LWo.nil (hN2 _ ?_)
  refine LWP.join (α := (List Int)) (fun z : (List Int) => [(3, (.own 1007 0 (z).length))]) (fun z : (List Int) => [(1007, (lob 1 e_int z))]) (fun z : (List Int) => m_laws_toIntS_j1  z) r (fun _ => by simp [hkeys]) ?_ ?_
  ·rintro o1007 h
   replace h : m_laws_toIntS_j1  o1007 = some _ := h
   refine LWP.seq_k fun N17 hN17 => ?_
   refine LWP.region (l := [_,_]) ?_
   refine LWo.move (.own 1007 0 (o1007).length) rfl (hn := ?_)
   refine LWo.assign (.own 1007 0 (o1007).length) rfl (hn := ?_)
   refine LWo.nil (hN17 _ ?_)
   obtain rfl := Option.some.inj h
   refine LWP.ret (QG.mk (.inr rfl) (.cons (.tmp (x := (.own 1007 0 (o1007).length)) rfl) (.nil)) (RetOK.one0 (.nwM rfl rfl) (by decide)) rfl rfl)
  ·intro N4 hN4
   refine LWP.seq_k fun N5 hN5 => ?_
   refine LWP.region (l := [_]) ?_
   refine LWo.assign (e_int (0 : Int)) rfl (hn := ?_)
   refine LWo.nil (hN5 _ ?_)
   refine LWP.block ?_
   refine LWP.loopM (α := (List Int) × Int × (List Int)) (fun z : (List Int) × Int × (List Int) => [(0, (e_Lint z.1)), (3, (.own 1007 0 (z.2.2).length)), (4, (e_int z.2.1))]) (fun z : (List Int) × Int × (List Int) => [(1007, (lob 1 e_int z.2.2))]) (fun n1 (z : (List Int) × Int × (List Int)) => m_laws_toIntS_l1  n1 z.1 z.2.1 z.2.2) r _ (a0, (0 : Int), x3) h (fun _ => rfl) (fun _ => by simp [hkeys]) ⟨rfl, rfl, rfl, trivial⟩ ⟨rfl, trivial⟩ ?_
   rintro n1 ⟨t0, t4, o1007⟩ h N6 hN6
   replace h : m_laws_toIntS_l1  (n1 + 1) t0 t4 o1007 = some _ := h
   refine LWP.seq_k fun N8 hN8 => ?_
   refine LWP.seq_k fun N9 hN9 => ?_
   refine LWP.region (l := [_,_,_,_]) ?_
   refine LWo.move (e_int t4) rfl (hn := ?_)
   refine LWo.move (e_Lint t0) rfl (hn := ?_)
   refine LWo.lenM (f := e_int) (l := t0) u_Lint rfl (hn := ?_)
   refine LWo.int _ rfl rfl rfl (hn := ?_)
   refine LWo.nil (hN9 _ ?_)
   refine LWP.cond_split rfl (fun h10 => ?_) (fun h10 => ?_)
   ·have h := bT h10 h
    refine LWP.skip (hN8 _ ?_)
    refine LWP.seq_k fun N11 hN11 => ?_
    refine LWP.block ?_
    refine LWP.region (l := [_,_,_,_,_,_,_,_]) ?_
    refine LWo.move (.own 1007 0 (o1007).length) rfl (hn := ?_)
    refine LWo.move (e_int t4) rfl (hn := ?_)
    refine LWo.move (e_Lint t0) rfl (hn := ?_)
    refine LWo.move (e_int t4) rfl (hn := ?_)
    refine bk h fun x12 e12 h => ?_
    refine LWo.indexM (f := e_int) e12 u_Lint s_int rfl rfl (hn := ?_)
    refine LWo.load1 (c := (e_int x12)) g_int rfl (hn := ?_)
    refine bk h fun x13 e13 h => ?_
    refine LWo.indexO e13 rfl u_Lint s_int rfl rfl rfl (hn := ?_)
    refine bk h fun x14 e14 h => ?_
    refine lk h fun y15 e15 h => ?_
    refine LWo.storeO y15 e14 s_int rfl rfl rfl rfl rfl rfl rfl (by rw [e15]; rfl) (hn := ?_)
    refine LWo.nil (hN11 _ ?_)
    refine LWP.region (l := [_,_,_]) ?_
    refine LWo.move (e_int t4) rfl (hn := ?_)
    refine bk h fun x16 e16 h => ?_
    refine LWo.int _ rfl rfl (add_ck e16) (hn := ?_)
    refine LWo.assign (e_int x16) rfl (hn := ?_)
    refine LWo.nil (hN6 (t0, x16, (o1007.set (t4).toNat y15)) _ ⟨rfl, (congrArg (LV.own 1007 0) List.length_set.symm), rfl, trivial⟩ ⟨rfl, trivial⟩ h)
   ·have h := bF h10 h
    refine LWP.exit (hN4 o1007 _ ⟨rfl, trivial⟩ ⟨rfl, trivial⟩ h)

def m_laws_toPart (a0 : S_laws_Part) : Option S_impl_Part :=
  lt ({ (⟨(0 : Int), (0 : Int), (⟨(0 : Int), (0 : Int), (⟨#[]⟩ : ByteArray)⟩ : S_impl_Value)⟩ : S_impl_Part) with Kind := a0.Kind }) fun y4 =>
  lt ({ y4 with N := a0.N }) fun y6 =>
  (m_laws_toValue a0.V).bind fun x8 =>
  lt ({ y6 with V := x8 }) fun y9 =>
  lt (y9) fun y11 =>
  some y11
theorem c_laws_toPart (a0 : S_laws_Part) (r : S_impl_Part) (h : m_laws_toPart a0 = some r) : Ret Try.prog f_laws_toPart [e_laws_Part a0] (e_impl_Part r) := by
  refine Does.goG [] F_laws_toPart rfl e_laws_toPart n_laws_toPart rfl (rvs := [.cell 2 t_impl_Part]) rfl rfl ?_
  intro w0 ok0 lent ρ0
  refine LWP.seq_k fun N1 hN1 => ?_
  refine LWP.region (l := [_,_]) ?_
  refine LWo.boxF (e_laws_Part a0) rfl rfl rfl (hn := ?_)
  refine LWo.alloc_impl_Part 2 rfl (hn := ?_)
  refine LWo.nil (hN1 _ ?_)
  refine LWP.seq_k fun N2 hN2 => ?_
  refine LWP.region (l := [_]) ?_
  refine LWo.alloc_impl_Part 3 rfl (hn := ?_)
  refine LWo.nil (hN2 _ ?_)
  refine LWP.seq_k fun N3 hN3 => ?_
  refine LWP.region (l := [_,_,_,_]) ?_
  refine LWo.fieldAddr _ u_laws_Part rfl s_int rfl rfl (hn := ?_)
  refine LWo.load1 (c := (e_int a0.Kind)) g_int rfl (hn := ?_)
  refine LWo.fieldPtr u_impl_Part rfl s_int rfl rfl (hn := ?_)
  refine lk h fun y4 e4 h => ?_
  refine LWo.storeW (y := (⟨(0 : Int), (0 : Int), (⟨(0 : Int), (0 : Int), (⟨#[]⟩ : ByteArray)⟩ : S_impl_Value)⟩ : S_impl_Part)) y4 s_int rfl rfl rfl rfl rfl rfl (by rw [e4]; exact .refl) rfl (hn := ?_)
  refine LWo.nil (hN3 _ ?_)
  refine LWP.seq_k fun N5 hN5 => ?_
  refine LWP.region (l := [_,_,_,_]) ?_
  refine LWo.fieldAddr _ u_laws_Part rfl s_int rfl rfl (hn := ?_)
  refine LWo.load1 (c := (e_int a0.N)) g_int rfl (hn := ?_)
  refine LWo.fieldPtr u_impl_Part rfl s_int rfl rfl (hn := ?_)
  refine lk h fun y6 e6 h => ?_
  refine LWo.storeW (y := y4) y6 s_int rfl rfl rfl rfl rfl rfl (by rw [e6]; exact .refl) rfl (hn := ?_)
  refine LWo.nil (hN5 _ ?_)
  refine LWP.seq_k fun N7 hN7 => ?_
  refine LWP.region (l := [_,_,_,_,_]) ?_
  refine LWo.fieldAddr _ u_laws_Part rfl s_laws_Value rfl rfl (hn := ?_)
  refine LWo.loadN ((e_laws_Value a0.V)).cells g_laws_Value s_laws_Value rfl (Nat.le_of_ble_eq_true rfl) rfl (hn := ?_)
  refine bk h fun x8 e8 h => ?_
  refine LWo.vcall rfl rfl (c_laws_toValue _ _ e8) (.same (.nil)) (hn := ?_)
  refine LWo.fieldPtr u_impl_Part rfl s_impl_Value rfl rfl (hn := ?_)
  refine lk h fun y9 e9 h => ?_
  refine LWo.storeW (y := y6) y9 s_impl_Value rfl rfl rfl rfl rfl rfl (by rw [e9]; exact .refl) rfl (hn := ?_)
  refine LWo.nil (hN7 _ ?_)
  refine LWP.seq_k fun N10 hN10 => ?_
  refine LWP.region (l := [_,_]) ?_
  refine LWo.loadVN ((e_impl_Part y9)).cells  g_impl_Part s_impl_Part rfl rfl rfl rfl (hn := ?_)
  refine lk h fun y11 e11 h => ?_
  refine LWo.storeW (y := (⟨(0 : Int), (0 : Int), (⟨(0 : Int), (0 : Int), (⟨#[]⟩ : ByteArray)⟩ : S_impl_Value)⟩ : S_impl_Part)) y11 s_impl_Part rfl rfl rfl rfl rfl rfl (by rw [e11]; exact .refl) rfl (hn := ?_)
  refine LWo.nil (hN10 _ ?_)
  obtain rfl := Option.some.inj h
  refine LWP.ret (QG.mk (.inr rfl) (.cons (.cellN (ys := (e_impl_Part y11).cells) g_impl_Part s_impl_Part rfl rfl rfl rfl rfl (fun _ _ => rfl)) (.nil)) (RetOK.one0 (.pure rfl) (by decide)) rfl rfl)

def m_laws_toPartS_j1 (o1007 : (List S_impl_Part)) : Option (List S_impl_Part) :=
  some o1007
def m_laws_toPartS_l1 : Nat → (List S_laws_Part) → Int → (List S_impl_Part) → Option (List S_impl_Part)
  | 0, _, _, _ => none
  | n1 + 1, t0, t4, o1007 =>
    bif decide (t4 < (t0.length : Int)) then ((at? t0 t4).bind fun x12 =>
    (m_laws_toPart x12).bind fun x13 =>
    (at? o1007 t4).bind fun x14 =>
    (at? o1007 t4).bind fun x15 =>
    lt (x13) fun y16 =>
    (ckI (t4 + (1 : Int))).bind fun x17 =>
    (m_laws_toPartS_l1  n1) t0 x17 (o1007.set (t4).toNat y16))
    else (m_laws_toPartS_j1  o1007)
def m_laws_toPartS (a0 : (List S_laws_Part)) : Option (List S_impl_Part) :=
  (mk2? (a0.length : Int) (a0.length : Int) ((⟨(0 : Int), (0 : Int), (⟨(0 : Int), (0 : Int), (⟨#[]⟩ : ByteArray)⟩ : S_impl_Value)⟩ : S_impl_Part) : S_impl_Part)).bind fun x3 =>
  m_laws_toPartS_l1  (((a0.length : Int) - (0 : Int)).toNat + 1) a0 (0 : Int) x3
theorem c_laws_toPartS (a0 : (List S_laws_Part)) (r : (List S_impl_Part)) (h : m_laws_toPartS a0 = some r) : Ret Try.prog f_laws_toPartS [e_Llaws_Part a0] (.nw 5 (r.map e_impl_Part) false) := by
  refine Does.goG [] F_laws_toPartS rfl e_laws_toPartS n_laws_toPartS rfl (rvs := [.tmp 2]) rfl rfl ?_
  intro w0 ok0 lent ρ0
  refine LWP.seq_k fun N1 hN1 => ?_
  refine LWP.region (l := [_]) ?_
  refine LWo.assign _ rfl (hn := ?_)
  refine LWo.ownNil 2 1002 5 rfl rfl rfl ?_
  refine LWo.known 2 (.own 1002 0 ([] : (List S_impl_Part)).length) rfl ?_
  refine LWo.nil (hN1 _ ?_)
  refine LWP.seq_k fun N2 hN2 => ?_
  refine LWP.region (l := [_,_,_,_]) ?_
  refine LWo.move (e_Llaws_Part a0) rfl (hn := ?_)
  refine LWo.lenM (f := e_laws_Part) (l := a0) u_Llaws_Part rfl (hn := ?_)
  refine bk h fun x3 e3 h => ?_
  refine LWo.make_impl_Part 1007 e3 u_Limpl_Part i_impl_Part rfl rfl rfl (hn := ?_)
  refine LWo.assign (.own 1007 0 (x3).length) rfl (hn := ?_)
  refine LWo.nil (hN2 _ ?_)
  refine LWP.join (α := (List S_impl_Part)) (fun z : (List S_impl_Part) => [(3, (.own 1007 0 (z).length))]) (fun z : (List S_impl_Part) => [(1007, (lob 5 e_impl_Part z))]) (fun z : (List S_impl_Part) => m_laws_toPartS_j1  z) r (fun _ => by simp [hkeys]) ?_ ?_
  ·rintro o1007 h
   replace h : m_laws_toPartS_j1  o1007 = some _ := h
   refine LWP.seq_k fun N18 hN18 => ?_
   refine LWP.region (l := [_,_]) ?_
   refine LWo.move (.own 1007 0 (o1007).length) rfl (hn := ?_)
   refine LWo.assign (.own 1007 0 (o1007).length) rfl (hn := ?_)
   refine LWo.nil (hN18 _ ?_)
   obtain rfl := Option.some.inj h
   refine LWP.ret (QG.mk (.inr rfl) (.cons (.tmp (x := (.own 1007 0 (o1007).length)) rfl) (.nil)) (RetOK.one0 (.nwM rfl rfl) (by decide)) rfl rfl)
  ·intro N4 hN4
   refine LWP.seq_k fun N5 hN5 => ?_
   refine LWP.region (l := [_]) ?_
   refine LWo.assign (e_int (0 : Int)) rfl (hn := ?_)
   refine LWo.nil (hN5 _ ?_)
   refine LWP.block ?_
   refine LWP.loopM (α := (List S_laws_Part) × Int × (List S_impl_Part)) (fun z : (List S_laws_Part) × Int × (List S_impl_Part) => [(0, (e_Llaws_Part z.1)), (3, (.own 1007 0 (z.2.2).length)), (4, (e_int z.2.1))]) (fun z : (List S_laws_Part) × Int × (List S_impl_Part) => [(1007, (lob 5 e_impl_Part z.2.2))]) (fun n1 (z : (List S_laws_Part) × Int × (List S_impl_Part)) => m_laws_toPartS_l1  n1 z.1 z.2.1 z.2.2) r _ (a0, (0 : Int), x3) h (fun _ => rfl) (fun _ => by simp [hkeys]) ⟨rfl, rfl, rfl, trivial⟩ ⟨rfl, trivial⟩ ?_
   rintro n1 ⟨t0, t4, o1007⟩ h N6 hN6
   replace h : m_laws_toPartS_l1  (n1 + 1) t0 t4 o1007 = some _ := h
   refine LWP.seq_k fun N8 hN8 => ?_
   refine LWP.seq_k fun N9 hN9 => ?_
   refine LWP.region (l := [_,_,_,_]) ?_
   refine LWo.move (e_int t4) rfl (hn := ?_)
   refine LWo.move (e_Llaws_Part t0) rfl (hn := ?_)
   refine LWo.lenM (f := e_laws_Part) (l := t0) u_Llaws_Part rfl (hn := ?_)
   refine LWo.int _ rfl rfl rfl (hn := ?_)
   refine LWo.nil (hN9 _ ?_)
   refine LWP.cond_split rfl (fun h10 => ?_) (fun h10 => ?_)
   ·have h := bT h10 h
    refine LWP.skip (hN8 _ ?_)
    refine LWP.seq_k fun N11 hN11 => ?_
    refine LWP.block ?_
    refine LWP.region (l := [_,_,_,_,_,_,_,_,_]) ?_
    refine LWo.move (.own 1007 0 (o1007).length) rfl (hn := ?_)
    refine LWo.move (e_int t4) rfl (hn := ?_)
    refine LWo.move (e_Llaws_Part t0) rfl (hn := ?_)
    refine LWo.move (e_int t4) rfl (hn := ?_)
    refine bk h fun x12 e12 h => ?_
    refine LWo.indexM (f := e_laws_Part) e12 u_Llaws_Part s_laws_Part rfl rfl (hn := ?_)
    refine LWo.loadN ((e_laws_Part x12)).cells g_laws_Part s_laws_Part rfl (Nat.le_of_ble_eq_true rfl) rfl (hn := ?_)
    refine bk h fun x13 e13 h => ?_
    refine LWo.vcall rfl rfl (c_laws_toPart _ _ e13) (.same (.nil)) (hn := ?_)
    refine bk h fun x14 e14 h => ?_
    refine LWo.indexO e14 rfl u_Limpl_Part s_impl_Part rfl rfl rfl (hn := ?_)
    refine bk h fun x15 e15 h => ?_
    refine lk h fun y16 e16 h => ?_
    refine LWo.storeO y16 e15 s_impl_Part rfl rfl rfl rfl rfl rfl rfl (by rw [e16]; rfl) (hn := ?_)
    refine LWo.nil (hN11 _ ?_)
    refine LWP.region (l := [_,_,_]) ?_
    refine LWo.move (e_int t4) rfl (hn := ?_)
    refine bk h fun x17 e17 h => ?_
    refine LWo.int _ rfl rfl (add_ck e17) (hn := ?_)
    refine LWo.assign (e_int x17) rfl (hn := ?_)
    refine LWo.nil (hN6 (t0, x17, (o1007.set (t4).toNat y16)) _ ⟨rfl, (congrArg (LV.own 1007 0) List.length_set.symm), rfl, trivial⟩ ⟨rfl, trivial⟩ h)
   ·have h := bF h10 h
    refine LWP.exit (hN4 o1007 _ ⟨rfl, trivial⟩ ⟨rfl, trivial⟩ h)

def m_laws_toBond (a0 : S_laws_Bond) : Option S_impl_Bond :=
  lt ({ (⟨(0 : Int), (0 : Int), [], (0 : Int), [], false, []⟩ : S_impl_Bond) with Kind := a0.Kind }) fun y4 =>
  lt ({ y4 with In := a0.In }) fun y6 =>
  (m_laws_toIntS a0.f_List).bind fun x8 =>
  lt ({ y6 with f_List := x8 }) fun y9 =>
  lt ({ y9 with Of := a0.Of }) fun y11 =>
  (m_laws_toIntS a0.To).bind fun x13 =>
  lt ({ y11 with To := x13 }) fun y14 =>
  lt ({ y14 with Follow := a0.Follow }) fun y16 =>
  (m_laws_toPartS a0.E).bind fun x18 =>
  lt ({ y16 with E := x18 }) fun y19 =>
  lt (y19) fun y21 =>
  some y21
theorem c_laws_toBond (a0 : S_laws_Bond) (r : S_impl_Bond) (h : m_laws_toBond a0 = some r) : Ret Try.prog f_laws_toBond [e_laws_Bond a0] (e_impl_Bond r) := by
  refine Does.goG [] F_laws_toBond rfl e_laws_toBond n_laws_toBond rfl (rvs := [.cell 2 t_impl_Bond]) rfl rfl ?_
  intro w0 ok0 lent ρ0
  refine LWP.seq_k fun N1 hN1 => ?_
  refine LWP.region (l := [_,_]) ?_
  refine LWo.boxF (e_laws_Bond a0) rfl rfl rfl (hn := ?_)
  refine LWo.alloc_impl_Bond 2 rfl (hn := ?_)
  refine LWo.nil (hN1 _ ?_)
  refine LWP.seq_k fun N2 hN2 => ?_
  refine LWP.region (l := [_]) ?_
  refine LWo.alloc_impl_Bond 3 rfl (hn := ?_)
  refine LWo.nil (hN2 _ ?_)
  refine LWP.seq_k fun N3 hN3 => ?_
  refine LWP.region (l := [_,_,_,_]) ?_
  refine LWo.fieldAddr _ u_laws_Bond rfl s_int rfl rfl (hn := ?_)
  refine LWo.load1 (c := (e_int a0.Kind)) g_int rfl (hn := ?_)
  refine LWo.fieldPtr u_impl_Bond rfl s_int rfl rfl (hn := ?_)
  refine lk h fun y4 e4 h => ?_
  refine LWo.storeW (y := (⟨(0 : Int), (0 : Int), [], (0 : Int), [], false, []⟩ : S_impl_Bond)) y4 s_int rfl rfl rfl rfl rfl rfl (by rw [e4]; exact .refl) rfl (hn := ?_)
  refine LWo.nil (hN3 _ ?_)
  refine LWP.seq_k fun N5 hN5 => ?_
  refine LWP.region (l := [_,_,_,_]) ?_
  refine LWo.fieldAddr _ u_laws_Bond rfl s_int rfl rfl (hn := ?_)
  refine LWo.load1 (c := (e_int a0.In)) g_int rfl (hn := ?_)
  refine LWo.fieldPtr u_impl_Bond rfl s_int rfl rfl (hn := ?_)
  refine lk h fun y6 e6 h => ?_
  refine LWo.storeW (y := y4) y6 s_int rfl rfl rfl rfl rfl rfl (by rw [e6]; exact .refl) rfl (hn := ?_)
  refine LWo.nil (hN5 _ ?_)
  refine LWP.seq_k fun N7 hN7 => ?_
  refine LWP.region (l := [_,_,_,_,_]) ?_
  refine LWo.fieldAddr _ u_laws_Bond rfl s_Lint rfl rfl (hn := ?_)
  refine LWo.load1 (c := (e_Lint a0.f_List)) g_Lint rfl (hn := ?_)
  refine bk h fun x8 e8 h => ?_
  refine LWo.vcall rfl rfl (c_laws_toIntS _ _ e8) (.same (.nil)) (hn := ?_)
  refine LWo.fieldPtr u_impl_Bond rfl s_Lint rfl rfl (hn := ?_)
  refine lk h fun y9 e9 h => ?_
  refine LWo.storeW (y := y6) y9 s_Lint rfl rfl rfl rfl rfl rfl (by rw [e9]; exact .refl) rfl (hn := ?_)
  refine LWo.nil (hN7 _ ?_)
  refine LWP.seq_k fun N10 hN10 => ?_
  refine LWP.region (l := [_,_,_,_]) ?_
  refine LWo.fieldAddr _ u_laws_Bond rfl s_int rfl rfl (hn := ?_)
  refine LWo.load1 (c := (e_int a0.Of)) g_int rfl (hn := ?_)
  refine LWo.fieldPtr u_impl_Bond rfl s_int rfl rfl (hn := ?_)
  refine lk h fun y11 e11 h => ?_
  refine LWo.storeW (y := y9) y11 s_int rfl rfl rfl rfl rfl rfl (by rw [e11]; exact .refl) rfl (hn := ?_)
  refine LWo.nil (hN10 _ ?_)
  refine LWP.seq_k fun N12 hN12 => ?_
  refine LWP.region (l := [_,_,_,_,_]) ?_
  refine LWo.fieldAddr _ u_laws_Bond rfl s_Lint rfl rfl (hn := ?_)
  refine LWo.load1 (c := (e_Lint a0.To)) g_Lint rfl (hn := ?_)
  refine bk h fun x13 e13 h => ?_
  refine LWo.vcall rfl rfl (c_laws_toIntS _ _ e13) (.same (.nil)) (hn := ?_)
  refine LWo.fieldPtr u_impl_Bond rfl s_Lint rfl rfl (hn := ?_)
  refine lk h fun y14 e14 h => ?_
  refine LWo.storeW (y := y11) y14 s_Lint rfl rfl rfl rfl rfl rfl (by rw [e14]; exact .refl) rfl (hn := ?_)
  refine LWo.nil (hN12 _ ?_)
  refine LWP.seq_k fun N15 hN15 => ?_
  refine LWP.region (l := [_,_,_,_]) ?_
  refine LWo.fieldAddr _ u_laws_Bond rfl s_bool rfl rfl (hn := ?_)
  refine LWo.load1 (c := (e_bool a0.Follow)) g_bool rfl (hn := ?_)
  refine LWo.fieldPtr u_impl_Bond rfl s_bool rfl rfl (hn := ?_)
  refine lk h fun y16 e16 h => ?_
  refine LWo.storeW (y := y14) y16 s_bool rfl rfl rfl rfl rfl rfl (by rw [e16]; exact .refl) rfl (hn := ?_)
  refine LWo.nil (hN15 _ ?_)
  refine LWP.seq_k fun N17 hN17 => ?_
  refine LWP.region (l := [_,_,_,_,_]) ?_
  refine LWo.fieldAddr _ u_laws_Bond rfl s_Llaws_Part rfl rfl (hn := ?_)
  refine LWo.load1 (c := (e_Llaws_Part a0.E)) g_Llaws_Part rfl (hn := ?_)
  refine bk h fun x18 e18 h => ?_
  refine LWo.vcall rfl rfl (c_laws_toPartS _ _ e18) (.same (.nil)) (hn := ?_)
  refine LWo.fieldPtr u_impl_Bond rfl s_Limpl_Part rfl rfl (hn := ?_)
  refine lk h fun y19 e19 h => ?_
  refine LWo.storeW (y := y16) y19 s_Limpl_Part rfl rfl rfl rfl rfl rfl (by rw [e19]; exact .refl) rfl (hn := ?_)
  refine LWo.nil (hN17 _ ?_)
  refine LWP.seq_k fun N20 hN20 => ?_
  refine LWP.region (l := [_,_]) ?_
  refine LWo.loadVN ((e_impl_Bond y19)).cells  g_impl_Bond s_impl_Bond rfl rfl rfl rfl (hn := ?_)
  refine lk h fun y21 e21 h => ?_
  refine LWo.storeW (y := (⟨(0 : Int), (0 : Int), [], (0 : Int), [], false, []⟩ : S_impl_Bond)) y21 s_impl_Bond rfl rfl rfl rfl rfl rfl (by rw [e21]; exact .refl) rfl (hn := ?_)
  refine LWo.nil (hN20 _ ?_)
  obtain rfl := Option.some.inj h
  refine LWP.ret (QG.mk (.inr rfl) (.cons (.cellN (ys := (e_impl_Bond y21).cells) g_impl_Bond s_impl_Bond rfl rfl rfl rfl rfl (fun _ _ => rfl)) (.nil)) (RetOK.one0 (.pure rfl) (by decide)) rfl rfl)

def m_spec_l1In_j1 (t6 : Bool) : Option Bool :=
  some t6
def m_spec_l1In (a0 : Int) (a1 : Int) (a2 : Int) : Option Bool :=
  bif decide (a0 ≥ a1) then (m_spec_l1In_j1  (decide (a0 ≤ a2)))
  else (m_spec_l1In_j1  false)
theorem c_spec_l1In (a0 : Int) (a1 : Int) (a2 : Int) (r : Bool) (h : m_spec_l1In a0 a1 a2 = some r) : Ret Try.prog f_spec_l1In [e_int a0, e_int a1, e_int a2] (e_bool r) := by
  refine Does.goG [] F_spec_l1In rfl e_spec_l1In n_spec_l1In rfl (rvs := [.tmp 6]) rfl rfl ?_
  intro w0 ok0 lent ρ0
  refine LWP.seq_k fun N1 hN1 => ?_
  refine LWP.region (l := [_]) ?_
  refine LWo.assign (e_bool false) rfl (hn := ?_)
  refine LWo.nil (hN1 _ ?_)
  refine LWP.join (α := Bool) (fun z : Bool => [(6, (e_bool z))]) (fun z : Bool => []) (fun z : Bool => m_spec_l1In_j1  z) r (fun _ => by simp [hkeys]) ?_ ?_
  ·rintro t6 h
   replace h : m_spec_l1In_j1  t6 = some _ := h
   obtain rfl := Option.some.inj h
   refine LWP.ret (QG.mk (.inr rfl) (.cons (.tmp (x := (e_bool t6)) rfl) (.nil)) (RetOK.one0 (.pure rfl) (by decide)) rfl rfl)
  ·intro N2 hN2
   refine LWP.region (l := [_,_,_,_,_,_,_,_,_]) ?_
   refine LWo.move (e_int a0) rfl (hn := ?_)
   refine LWo.move (e_int a1) rfl (hn := ?_)
   refine LWo.int _ rfl rfl rfl (hn := ?_)
   refine LWo.move (e_bool (decide (a0 ≥ a1))) rfl (hn := ?_)
   refine LWo.byCases (t := 10) _ rfl (fun h3 => ?_) (fun h3 => ?_)
   ·have h := bT h3 h
    refine LWo.guardY (t := 10) rfl h3 rfl rfl ?_
    refine LWo.move (e_int a0) rfl (hn := ?_)
    refine LWo.guardY (t := 10) rfl h3 rfl rfl ?_
    refine LWo.move (e_int a2) rfl (hn := ?_)
    refine LWo.guardY (t := 10) rfl h3 rfl rfl ?_
    refine LWo.int _ rfl rfl rfl (hn := ?_)
    refine LWo.pickTM (e_bool (decide (a0 ≤ a2))) rfl h3 rfl (hn := ?_)
    refine LWo.assign (e_bool (decide (a0 ≤ a2))) rfl (hn := ?_)
    refine LWo.nil (hN2 (decide (a0 ≤ a2)) _ ⟨rfl, trivial⟩ trivial h)
   ·have h := bF h3 h
    refine LWo.guardNU (t := 10) rfl h3 rfl rfl rfl rfl rfl ?_
    refine LWo.guardNU (t := 10) rfl h3 rfl rfl rfl rfl rfl ?_
    refine LWo.guardNU (t := 10) rfl h3 rfl rfl rfl rfl rfl ?_
    refine LWo.pickFM (e_bool false) rfl h3 rfl (hn := ?_)
    refine LWo.assign (e_bool false) rfl (hn := ?_)
    refine LWo.nil (hN2 false _ ⟨rfl, trivial⟩ trivial h)

def m_spec_ColumnsOk_j1 (t0 : (List S_impl_Column)) : Option Bool :=
  some (decide ((t0.length : Int) ≤ (4 : Int)))
def m_spec_ColumnsOk_l1 : Nat → (List S_impl_Column) → Int → Option Bool
  | 0, _, _ => none
  | n1 + 1, t0, t3 =>
    bif decide (t3 < (t0.length : Int)) then ((at? t0 t3).bind fun x11 =>
    (m_spec_l1In x11.Kind (1 : Int) (3 : Int)).bind fun x12 =>
    bif (!x12) then (some false)
    else ((ckI (t3 + (1 : Int))).bind fun x15 =>
    (m_spec_ColumnsOk_l1  n1) t0 x15))
    else (m_spec_ColumnsOk_j1  t0)
def m_spec_ColumnsOk (a0 : (List S_impl_Column)) : Option Bool :=
  m_spec_ColumnsOk_l1  (((a0.length : Int) - (0 : Int)).toNat + 1) a0 (0 : Int)
theorem c_spec_ColumnsOk (a0 : (List S_impl_Column)) (r : Bool) (h : m_spec_ColumnsOk a0 = some r) : Ret Try.prog f_spec_ColumnsOk [e_Limpl_Column a0] (e_bool r) := by
  refine Does.goG [] F_spec_ColumnsOk rfl e_spec_ColumnsOk n_spec_ColumnsOk rfl (rvs := [.tmp 2]) rfl rfl ?_
  intro w0 ok0 lent ρ0
  refine LWP.seq_k fun N1 hN1 => ?_
  refine LWP.region (l := [_]) ?_
  refine LWo.assign (e_bool false) rfl (hn := ?_)
  refine LWo.nil (hN1 _ ?_)
  refine LWP.join (α := (List S_impl_Column)) (fun z : (List S_impl_Column) => [(0, (e_Limpl_Column z))]) (fun z : (List S_impl_Column) => []) (fun z : (List S_impl_Column) => m_spec_ColumnsOk_j1  z) r (fun _ => by simp [hkeys]) ?_ ?_
  ·rintro t0 h
   replace h : m_spec_ColumnsOk_j1  t0 = some _ := h
   refine LWP.seq_k fun N16 hN16 => ?_
   refine LWP.region (l := [_,_,_,_]) ?_
   refine LWo.move (e_Limpl_Column t0) rfl (hn := ?_)
   refine LWo.lenM (f := e_impl_Column) (l := t0) u_Limpl_Column rfl (hn := ?_)
   refine LWo.int _ rfl rfl rfl (hn := ?_)
   refine LWo.assign (e_bool (decide ((t0.length : Int) ≤ (4 : Int)))) rfl (hn := ?_)
   refine LWo.nil (hN16 _ ?_)
   obtain rfl := Option.some.inj h
   refine LWP.ret (QG.mk (.inr rfl) (.cons (.tmp (x := (e_bool (decide ((t0.length : Int) ≤ (4 : Int))))) rfl) (.nil)) (RetOK.one0 (.pure rfl) (by decide)) rfl rfl)
  ·intro N2 hN2
   refine LWP.seq_k fun N3 hN3 => ?_
   refine LWP.region (l := [_]) ?_
   refine LWo.assign (e_int (0 : Int)) rfl (hn := ?_)
   refine LWo.nil (hN3 _ ?_)
   refine LWP.block ?_
   refine LWP.loopM (α := (List S_impl_Column) × Int) (fun z : (List S_impl_Column) × Int => [(0, (e_Limpl_Column z.1)), (3, (e_int z.2))]) (fun z : (List S_impl_Column) × Int => []) (fun n1 (z : (List S_impl_Column) × Int) => m_spec_ColumnsOk_l1  n1 z.1 z.2) r _ (a0, (0 : Int)) h (fun _ => rfl) (fun _ => by simp [hkeys]) ⟨rfl, rfl, trivial⟩ trivial ?_
   rintro n1 ⟨t0, t3⟩ h N4 hN4
   replace h : m_spec_ColumnsOk_l1  (n1 + 1) t0 t3 = some _ := h
   refine LWP.seq_k fun N6 hN6 => ?_
   refine LWP.seq_k fun N7 hN7 => ?_
   refine LWP.region (l := [_,_,_,_]) ?_
   refine LWo.move (e_int t3) rfl (hn := ?_)
   refine LWo.move (e_Limpl_Column t0) rfl (hn := ?_)
   refine LWo.lenM (f := e_impl_Column) (l := t0) u_Limpl_Column rfl (hn := ?_)
   refine LWo.int _ rfl rfl rfl (hn := ?_)
   refine LWo.nil (hN7 _ ?_)
   refine LWP.cond_split rfl (fun h8 => ?_) (fun h8 => ?_)
   ·have h := bT h8 h
    refine LWP.skip (hN6 _ ?_)
    refine LWP.seq_k fun N9 hN9 => ?_
    refine LWP.block ?_
    refine LWP.seq_k fun N10 hN10 => ?_
    refine LWP.region (l := [_,_,_,_,_,_,_]) ?_
    refine LWo.move (e_Limpl_Column t0) rfl (hn := ?_)
    refine LWo.move (e_int t3) rfl (hn := ?_)
    refine bk h fun x11 e11 h => ?_
    refine LWo.indexM (f := e_impl_Column) e11 u_Limpl_Column s_impl_Column rfl rfl (hn := ?_)
    refine LWo.fieldAddr _ u_impl_Column rfl s_int rfl rfl (hn := ?_)
    refine LWo.load1 (c := (e_int x11.Kind)) g_int rfl (hn := ?_)
    refine bk h fun x12 e12 h => ?_
    refine LWo.vcall rfl rfl (c_spec_l1In _ _ _ _ e12) (.same (.same (.same (.nil)))) (hn := ?_)
    refine LWo.not rfl (hn := ?_)
    refine LWo.nil (hN10 _ ?_)
    refine LWP.cond_split rfl (fun h13 => ?_) (fun h13 => ?_)
    ·have h := bT h13 h
     refine LWP.seq_k fun N14 hN14 => ?_
     refine LWP.region (l := [_]) ?_
     refine LWo.assign (e_bool false) rfl (hn := ?_)
     refine LWo.nil (hN14 _ ?_)
     obtain rfl := Option.some.inj h
     refine LWP.ret (QG.mk (.inr rfl) (.cons (.tmp (x := (e_bool false)) rfl) (.nil)) (RetOK.one0 (.pure rfl) (by decide)) rfl rfl)
    ·have h := bF h13 h
     refine LWP.skip (hN9 _ ?_)
     refine LWP.region (l := [_,_,_]) ?_
     refine LWo.move (e_int t3) rfl (hn := ?_)
     refine bk h fun x15 e15 h => ?_
     refine LWo.int _ rfl rfl (add_ck e15) (hn := ?_)
     refine LWo.assign (e_int x15) rfl (hn := ?_)
     refine LWo.nil (hN4 (t0, x15) _ ⟨rfl, rfl, trivial⟩ trivial h)
   ·have h := bF h8 h
    refine LWP.exit (hN2 t0 _ ⟨rfl, trivial⟩ trivial h)

def m_spec_l1Text_j2 (t0 : ByteArray) : Option Bool :=
  some (decide ((t0.size : Int) ≤ (6 : Int)))
def m_spec_l1Text_j1 (k1 : ByteArray → Int → Option Bool) (t0 : ByteArray) (t3 : Int) (t19 : Bool) : Option Bool :=
  bif t19 then (some false)
  else ((ckI (t3 + (1 : Int))).bind fun x16 =>
  k1 t0 x16)
def m_spec_l1Text_l1 : Nat → ByteArray → Int → Option Bool
  | 0, _, _ => none
  | n1 + 1, t0, t3 =>
    bif decide (t3 < (t0.size : Int)) then ((sAt? t0 t3).bind fun x11 =>
    bif decide ((x11.toNat : Int) < ((97 : UInt8).toNat : Int)) then (m_spec_l1Text_j1  (m_spec_l1Text_l1  n1) t0 t3 true)
    else ((sAt? t0 t3).bind fun x13 =>
      m_spec_l1Text_j1  (m_spec_l1Text_l1  n1) t0 t3 (decide ((x13.toNat : Int) > ((122 : UInt8).toNat : Int)))))
    else (m_spec_l1Text_j2  t0)
def m_spec_l1Text (a0 : ByteArray) : Option Bool :=
  m_spec_l1Text_l1  (((a0.size : Int) - (0 : Int)).toNat + 1) a0 (0 : Int)
theorem c_spec_l1Text (a0 : ByteArray) (r : Bool) (h : m_spec_l1Text a0 = some r) : Ret Try.prog f_spec_l1Text [e_string a0] (e_bool r) := by
  refine Does.goG [] F_spec_l1Text rfl e_spec_l1Text n_spec_l1Text rfl (rvs := [.tmp 2]) rfl rfl ?_
  intro w0 ok0 lent ρ0
  refine LWP.seq_k fun N1 hN1 => ?_
  refine LWP.region (l := [_]) ?_
  refine LWo.assign (e_bool false) rfl (hn := ?_)
  refine LWo.nil (hN1 _ ?_)
  refine LWP.join (α := ByteArray) (fun z : ByteArray => [(0, (e_string z))]) (fun z : ByteArray => []) (fun z : ByteArray => m_spec_l1Text_j2  z) r (fun _ => by simp [hkeys]) ?_ ?_
  ·rintro t0 h
   replace h : m_spec_l1Text_j2  t0 = some _ := h
   refine LWP.seq_k fun N17 hN17 => ?_
   refine LWP.region (l := [_,_,_,_]) ?_
   refine LWo.move (e_string t0) rfl (hn := ?_)
   refine LWo.lenS u_string rfl (hn := ?_)
   refine LWo.int _ rfl rfl rfl (hn := ?_)
   refine LWo.assign (e_bool (decide ((t0.size : Int) ≤ (6 : Int)))) rfl (hn := ?_)
   refine LWo.nil (hN17 _ ?_)
   obtain rfl := Option.some.inj h
   refine LWP.ret (QG.mk (.inr rfl) (.cons (.tmp (x := (e_bool (decide ((t0.size : Int) ≤ (6 : Int))))) rfl) (.nil)) (RetOK.one0 (.pure rfl) (by decide)) rfl rfl)
  ·intro N2 hN2
   refine LWP.seq_k fun N3 hN3 => ?_
   refine LWP.region (l := [_]) ?_
   refine LWo.assign (e_int (0 : Int)) rfl (hn := ?_)
   refine LWo.nil (hN3 _ ?_)
   refine LWP.block ?_
   refine LWP.loopM (α := ByteArray × Int) (fun z : ByteArray × Int => [(0, (e_string z.1)), (3, (e_int z.2))]) (fun z : ByteArray × Int => []) (fun n1 (z : ByteArray × Int) => m_spec_l1Text_l1  n1 z.1 z.2) r _ (a0, (0 : Int)) h (fun _ => rfl) (fun _ => by simp [hkeys]) ⟨rfl, rfl, trivial⟩ trivial ?_
   rintro n1 ⟨t0, t3⟩ h N4 hN4
   replace h : m_spec_l1Text_l1  (n1 + 1) t0 t3 = some _ := h
   refine LWP.seq_k fun N6 hN6 => ?_
   refine LWP.seq_k fun N7 hN7 => ?_
   refine LWP.region (l := [_,_,_,_]) ?_
   refine LWo.move (e_int t3) rfl (hn := ?_)
   refine LWo.move (e_string t0) rfl (hn := ?_)
   refine LWo.lenS u_string rfl (hn := ?_)
   refine LWo.int _ rfl rfl rfl (hn := ?_)
   refine LWo.nil (hN7 _ ?_)
   refine LWP.cond_split rfl (fun h8 => ?_) (fun h8 => ?_)
   ·have h := bT h8 h
    refine LWP.skip (hN6 _ ?_)
    refine LWP.seq_k fun N9 hN9 => ?_
    refine LWP.block ?_
    refine LWP.join (α := ByteArray × Int × Bool) (fun z : ByteArray × Int × Bool => [(0, (e_string z.1)), (3, (e_int z.2.1)), (19, (e_bool z.2.2))]) (fun z : ByteArray × Int × Bool => []) (fun z : ByteArray × Int × Bool => m_spec_l1Text_j1  (m_spec_l1Text_l1  n1) z.1 z.2.1 z.2.2) r (fun _ => by simp [hkeys]) ?_ ?_
    ·rintro ⟨t0, t3, t19⟩ h
     replace h : m_spec_l1Text_j1  (m_spec_l1Text_l1  n1) t0 t3 t19 = some _ := h
     refine LWP.cond_split rfl (fun h14 => ?_) (fun h14 => ?_)
     ·have h := bT h14 h
      refine LWP.seq_k fun N15 hN15 => ?_
      refine LWP.region (l := [_]) ?_
      refine LWo.assign (e_bool false) rfl (hn := ?_)
      refine LWo.nil (hN15 _ ?_)
      obtain rfl := Option.some.inj h
      refine LWP.ret (QG.mk (.inr rfl) (.cons (.tmp (x := (e_bool false)) rfl) (.nil)) (RetOK.one0 (.pure rfl) (by decide)) rfl rfl)
     ·have h := bF h14 h
      refine LWP.skip (hN9 _ ?_)
      refine LWP.region (l := [_,_,_]) ?_
      refine LWo.move (e_int t3) rfl (hn := ?_)
      refine bk h fun x16 e16 h => ?_
      refine LWo.int _ rfl rfl (add_ck e16) (hn := ?_)
      refine LWo.assign (e_int x16) rfl (hn := ?_)
      refine LWo.nil (hN4 (t0, x16) _ ⟨rfl, rfl, trivial⟩ trivial h)
    ·intro N10 hN10
     refine LWP.region (l := [_,_,_,_,_,_,_,_,_,_]) ?_
     refine LWo.move (e_string t0) rfl (hn := ?_)
     refine LWo.move (e_int t3) rfl (hn := ?_)
     refine bk h fun x11 e11 h => ?_
     refine LWo.indexStr u_string rfl rfl (sAt_0 e11) (sAt_g e11) (hn := ?_)
     refine LWo.int _ rfl rfl rfl (hn := ?_)
     refine LWo.move (e_bool (decide ((x11.toNat : Int) < ((97 : UInt8).toNat : Int)))) rfl (hn := ?_)
     refine LWo.byCases (t := 14) _ rfl (fun h12 => ?_) (fun h12 => ?_)
     ·have h := bT h12 h
      refine LWo.guardNU (t := 14) rfl h12 rfl rfl rfl rfl rfl ?_
      refine LWo.guardNU (t := 14) rfl h12 rfl rfl rfl rfl rfl ?_
      refine LWo.guardNU (t := 14) rfl h12 rfl rfl rfl rfl rfl ?_
      refine LWo.guardNU (t := 14) rfl h12 rfl rfl rfl rfl rfl ?_
      refine LWo.pickTM (e_bool true) rfl h12 rfl (hn := ?_)
      refine LWo.nil (hN10 (t0, t3, true) _ ⟨rfl, rfl, rfl, trivial⟩ trivial h)
     ·have h := bF h12 h
      refine LWo.guardY (t := 14) rfl h12 rfl rfl ?_
      refine LWo.move (e_string t0) rfl (hn := ?_)
      refine LWo.guardY (t := 14) rfl h12 rfl rfl ?_
      refine LWo.move (e_int t3) rfl (hn := ?_)
      refine bk h fun x13 e13 h => ?_
      refine LWo.guardY (t := 14) rfl h12 rfl rfl ?_
      refine LWo.indexStr u_string rfl rfl (sAt_0 e13) (sAt_g e13) (hn := ?_)
      refine LWo.guardY (t := 14) rfl h12 rfl rfl ?_
      refine LWo.int _ rfl rfl rfl (hn := ?_)
      refine LWo.pickFM (e_bool (decide ((x13.toNat : Int) > ((122 : UInt8).toNat : Int)))) rfl h12 rfl (hn := ?_)
      refine LWo.nil (hN10 (t0, t3, decide ((x13.toNat : Int) > ((122 : UInt8).toNat : Int))) _ ⟨rfl, rfl, rfl, trivial⟩ trivial h)
   ·have h := bF h8 h
    refine LWP.exit (hN2 t0 _ ⟨rfl, trivial⟩ trivial h)

def m_spec_ValueOk_j1 (t2 : Bool) : Option Bool :=
  some t2
def m_spec_ValueOk_j2 (t2 : Bool) : Option Bool :=
  some t2
def m_spec_ValueOk_j3 (t2 : Bool) : Option Bool :=
  some t2
def m_spec_ValueOk_j4 (t2 : Bool) : Option Bool :=
  some t2
def m_spec_ValueOk (a0 : S_impl_Value) : Option Bool :=
  bif (a0.Kind == (0 : Int)) then (bif (a0.N == (0 : Int)) then (m_spec_ValueOk_j1  (sEq a0.S (⟨#[]⟩ : ByteArray)))
    else (m_spec_ValueOk_j1  false))
  else (bif (a0.Kind == (1 : Int)) then ((m_spec_l1In a0.N (-9999 : Int) (9999 : Int)).bind fun x11 =>
      bif x11 then (m_spec_ValueOk_j2  (sEq a0.S (⟨#[]⟩ : ByteArray)))
      else (m_spec_ValueOk_j2  false))
    else (bif (a0.Kind == (2 : Int)) then (bif (a0.N == (0 : Int)) then ((m_spec_l1Text a0.S).bind fun x17 =>
          m_spec_ValueOk_j3  x17)
        else (m_spec_ValueOk_j3  false))
      else (bif (a0.Kind == (3 : Int)) then ((m_spec_l1In a0.N (0 : Int) (1 : Int)).bind fun x21 =>
          bif x21 then (m_spec_ValueOk_j4  (sEq a0.S (⟨#[]⟩ : ByteArray)))
          else (m_spec_ValueOk_j4  false))
        else (some false))))
theorem c_spec_ValueOk (a0 : S_impl_Value) (r : Bool) (h : m_spec_ValueOk a0 = some r) : Ret Try.prog f_spec_ValueOk [e_impl_Value a0] (e_bool r) := by
  refine Does.goG [] F_spec_ValueOk rfl e_spec_ValueOk n_spec_ValueOk rfl (rvs := [.tmp 2]) rfl rfl ?_
  intro w0 ok0 lent ρ0
  refine LWP.seq_k fun N1 hN1 => ?_
  refine LWP.region (l := [_,_]) ?_
  refine LWo.boxF (e_impl_Value a0) rfl rfl rfl (hn := ?_)
  refine LWo.assign (e_bool false) rfl (hn := ?_)
  refine LWo.nil (hN1 _ ?_)
  refine LWP.seq_k fun N2 hN2 => ?_
  refine LWP.seq_k fun N3 hN3 => ?_
  refine LWP.region (l := [_,_]) ?_
  refine LWo.fieldAddr _ u_impl_Value rfl s_int rfl rfl (hn := ?_)
  refine LWo.load1 (c := (e_int a0.Kind)) g_int rfl (hn := ?_)
  refine LWo.nil (hN3 _ ?_)
  refine LWP.block ?_
  refine LWP.seq_k fun N4 hN4 => ?_
  refine LWP.region (l := [_,_]) ?_
  refine LWo.int _ rfl rfl rfl (hn := ?_)
  refine LWo.assign (e_bool (a0.Kind == (0 : Int))) rfl (hn := ?_)
  refine LWo.nil (hN4 _ ?_)
  refine LWP.cond_split rfl (fun h5 => ?_) (fun h5 => ?_)
  ·have h := bT h5 h
   refine LWP.join (α := Bool) (fun z : Bool => [(2, (e_bool z))]) (fun z : Bool => []) (fun z : Bool => m_spec_ValueOk_j1  z) r (fun _ => by simp [hkeys]) ?_ ?_
   ·rintro t2 h
    replace h : m_spec_ValueOk_j1  t2 = some _ := h
    obtain rfl := Option.some.inj h
    refine LWP.ret (QG.mk (.inr rfl) (.cons (.tmp (x := (e_bool t2)) rfl) (.nil)) (RetOK.one0 (.pure rfl) (by decide)) rfl rfl)
   ·intro N6 hN6
    refine LWP.region (l := [_,_,_,_,_,_,_,_,_]) ?_
    refine LWo.fieldAddr _ u_impl_Value rfl s_int rfl rfl (hn := ?_)
    refine LWo.load1 (c := (e_int a0.N)) g_int rfl (hn := ?_)
    refine LWo.int _ rfl rfl rfl (hn := ?_)
    refine LWo.move (e_bool (a0.N == (0 : Int))) rfl (hn := ?_)
    refine LWo.byCases (t := 10) _ rfl (fun h7 => ?_) (fun h7 => ?_)
    ·have h := bT h7 h
     refine LWo.guardY (t := 10) rfl h7 rfl rfl ?_
     refine LWo.fieldAddr _ u_impl_Value rfl s_string rfl rfl (hn := ?_)
     refine LWo.guardY (t := 10) rfl h7 rfl rfl ?_
     refine LWo.load1 (c := (e_string a0.S)) g_string rfl (hn := ?_)
     refine LWo.guardY (t := 10) rfl h7 rfl rfl ?_
     refine LWo.str _ rfl rfl rfl (hn := ?_)
     refine LWo.pickTM (e_bool (sEq a0.S (⟨#[]⟩ : ByteArray))) rfl h7 rfl (hn := ?_)
     refine LWo.assign (e_bool (sEq a0.S (⟨#[]⟩ : ByteArray))) rfl (hn := ?_)
     refine LWo.nil (hN6 (sEq a0.S (⟨#[]⟩ : ByteArray)) _ ⟨rfl, trivial⟩ trivial h)
    ·have h := bF h7 h
     refine LWo.guardNU (t := 10) rfl h7 rfl rfl rfl rfl rfl ?_
     refine LWo.guardNU (t := 10) rfl h7 rfl rfl rfl rfl rfl ?_
     refine LWo.guardNU (t := 10) rfl h7 rfl rfl rfl rfl rfl ?_
     refine LWo.pickFM (e_bool false) rfl h7 rfl (hn := ?_)
     refine LWo.assign (e_bool false) rfl (hn := ?_)
     refine LWo.nil (hN6 false _ ⟨rfl, trivial⟩ trivial h)
  ·have h := bF h5 h
   refine LWP.seq_k fun N8 hN8 => ?_
   refine LWP.region (l := [_,_]) ?_
   refine LWo.int _ rfl rfl rfl (hn := ?_)
   refine LWo.assign (e_bool (a0.Kind == (1 : Int))) rfl (hn := ?_)
   refine LWo.nil (hN8 _ ?_)
   refine LWP.cond_split rfl (fun h9 => ?_) (fun h9 => ?_)
   ·have h := bT h9 h
    refine LWP.join (α := Bool) (fun z : Bool => [(2, (e_bool z))]) (fun z : Bool => []) (fun z : Bool => m_spec_ValueOk_j2  z) r (fun _ => by simp [hkeys]) ?_ ?_
    ·rintro t2 h
     replace h : m_spec_ValueOk_j2  t2 = some _ := h
     obtain rfl := Option.some.inj h
     refine LWP.ret (QG.mk (.inr rfl) (.cons (.tmp (x := (e_bool t2)) rfl) (.nil)) (RetOK.one0 (.pure rfl) (by decide)) rfl rfl)
    ·intro N10 hN10
     refine LWP.region (l := [_,_,_,_,_,_,_,_,_]) ?_
     refine LWo.fieldAddr _ u_impl_Value rfl s_int rfl rfl (hn := ?_)
     refine LWo.load1 (c := (e_int a0.N)) g_int rfl (hn := ?_)
     refine bk h fun x11 e11 h => ?_
     refine LWo.vcall rfl rfl (c_spec_l1In _ _ _ _ e11) (.same (.same (.same (.nil)))) (hn := ?_)
     refine LWo.move (e_bool x11) rfl (hn := ?_)
     refine LWo.byCases (t := 20) _ rfl (fun h12 => ?_) (fun h12 => ?_)
     ·have h := bT h12 h
      refine LWo.guardY (t := 20) rfl h12 rfl rfl ?_
      refine LWo.fieldAddr _ u_impl_Value rfl s_string rfl rfl (hn := ?_)
      refine LWo.guardY (t := 20) rfl h12 rfl rfl ?_
      refine LWo.load1 (c := (e_string a0.S)) g_string rfl (hn := ?_)
      refine LWo.guardY (t := 20) rfl h12 rfl rfl ?_
      refine LWo.str _ rfl rfl rfl (hn := ?_)
      refine LWo.pickTM (e_bool (sEq a0.S (⟨#[]⟩ : ByteArray))) rfl h12 rfl (hn := ?_)
      refine LWo.assign (e_bool (sEq a0.S (⟨#[]⟩ : ByteArray))) rfl (hn := ?_)
      refine LWo.nil (hN10 (sEq a0.S (⟨#[]⟩ : ByteArray)) _ ⟨rfl, trivial⟩ trivial h)
     ·have h := bF h12 h
      refine LWo.guardNU (t := 20) rfl h12 rfl rfl rfl rfl rfl ?_
      refine LWo.guardNU (t := 20) rfl h12 rfl rfl rfl rfl rfl ?_
      refine LWo.guardNU (t := 20) rfl h12 rfl rfl rfl rfl rfl ?_
      refine LWo.pickFM (e_bool false) rfl h12 rfl (hn := ?_)
      refine LWo.assign (e_bool false) rfl (hn := ?_)
      refine LWo.nil (hN10 false _ ⟨rfl, trivial⟩ trivial h)
   ·have h := bF h9 h
    refine LWP.seq_k fun N13 hN13 => ?_
    refine LWP.region (l := [_,_]) ?_
    refine LWo.int _ rfl rfl rfl (hn := ?_)
    refine LWo.assign (e_bool (a0.Kind == (2 : Int))) rfl (hn := ?_)
    refine LWo.nil (hN13 _ ?_)
    refine LWP.cond_split rfl (fun h14 => ?_) (fun h14 => ?_)
    ·have h := bT h14 h
     refine LWP.join (α := Bool) (fun z : Bool => [(2, (e_bool z))]) (fun z : Bool => []) (fun z : Bool => m_spec_ValueOk_j3  z) r (fun _ => by simp [hkeys]) ?_ ?_
     ·rintro t2 h
      replace h : m_spec_ValueOk_j3  t2 = some _ := h
      obtain rfl := Option.some.inj h
      refine LWP.ret (QG.mk (.inr rfl) (.cons (.tmp (x := (e_bool t2)) rfl) (.nil)) (RetOK.one0 (.pure rfl) (by decide)) rfl rfl)
     ·intro N15 hN15
      refine LWP.region (l := [_,_,_,_,_,_,_,_,_]) ?_
      refine LWo.fieldAddr _ u_impl_Value rfl s_int rfl rfl (hn := ?_)
      refine LWo.load1 (c := (e_int a0.N)) g_int rfl (hn := ?_)
      refine LWo.int _ rfl rfl rfl (hn := ?_)
      refine LWo.move (e_bool (a0.N == (0 : Int))) rfl (hn := ?_)
      refine LWo.byCases (t := 30) _ rfl (fun h16 => ?_) (fun h16 => ?_)
      ·have h := bT h16 h
       refine LWo.guardY (t := 30) rfl h16 rfl rfl ?_
       refine LWo.fieldAddr _ u_impl_Value rfl s_string rfl rfl (hn := ?_)
       refine LWo.guardY (t := 30) rfl h16 rfl rfl ?_
       refine LWo.load1 (c := (e_string a0.S)) g_string rfl (hn := ?_)
       refine bk h fun x17 e17 h => ?_
       refine LWo.guardY (t := 30) rfl h16 rfl rfl ?_
       refine LWo.vcall rfl rfl (c_spec_l1Text _ _ e17) (.same (.nil)) (hn := ?_)
       refine LWo.pickTM (e_bool x17) rfl h16 rfl (hn := ?_)
       refine LWo.assign (e_bool x17) rfl (hn := ?_)
       refine LWo.nil (hN15 x17 _ ⟨rfl, trivial⟩ trivial h)
      ·have h := bF h16 h
       refine LWo.guardNU (t := 30) rfl h16 rfl rfl rfl rfl rfl ?_
       refine LWo.guardNU (t := 30) rfl h16 rfl rfl rfl rfl rfl ?_
       refine LWo.guardNU (t := 30) rfl h16 rfl rfl rfl rfl rfl ?_
       refine LWo.pickFM (e_bool false) rfl h16 rfl (hn := ?_)
       refine LWo.assign (e_bool false) rfl (hn := ?_)
       refine LWo.nil (hN15 false _ ⟨rfl, trivial⟩ trivial h)
    ·have h := bF h14 h
     refine LWP.seq_k fun N18 hN18 => ?_
     refine LWP.region (l := [_,_]) ?_
     refine LWo.int _ rfl rfl rfl (hn := ?_)
     refine LWo.assign (e_bool (a0.Kind == (3 : Int))) rfl (hn := ?_)
     refine LWo.nil (hN18 _ ?_)
     refine LWP.cond_split rfl (fun h19 => ?_) (fun h19 => ?_)
     ·have h := bT h19 h
      refine LWP.join (α := Bool) (fun z : Bool => [(2, (e_bool z))]) (fun z : Bool => []) (fun z : Bool => m_spec_ValueOk_j4  z) r (fun _ => by simp [hkeys]) ?_ ?_
      ·rintro t2 h
       replace h : m_spec_ValueOk_j4  t2 = some _ := h
       obtain rfl := Option.some.inj h
       refine LWP.ret (QG.mk (.inr rfl) (.cons (.tmp (x := (e_bool t2)) rfl) (.nil)) (RetOK.one0 (.pure rfl) (by decide)) rfl rfl)
      ·intro N20 hN20
       refine LWP.region (l := [_,_,_,_,_,_,_,_,_]) ?_
       refine LWo.fieldAddr _ u_impl_Value rfl s_int rfl rfl (hn := ?_)
       refine LWo.load1 (c := (e_int a0.N)) g_int rfl (hn := ?_)
       refine bk h fun x21 e21 h => ?_
       refine LWo.vcall rfl rfl (c_spec_l1In _ _ _ _ e21) (.same (.same (.same (.nil)))) (hn := ?_)
       refine LWo.move (e_bool x21) rfl (hn := ?_)
       refine LWo.byCases (t := 40) _ rfl (fun h22 => ?_) (fun h22 => ?_)
       ·have h := bT h22 h
        refine LWo.guardY (t := 40) rfl h22 rfl rfl ?_
        refine LWo.fieldAddr _ u_impl_Value rfl s_string rfl rfl (hn := ?_)
        refine LWo.guardY (t := 40) rfl h22 rfl rfl ?_
        refine LWo.load1 (c := (e_string a0.S)) g_string rfl (hn := ?_)
        refine LWo.guardY (t := 40) rfl h22 rfl rfl ?_
        refine LWo.str _ rfl rfl rfl (hn := ?_)
        refine LWo.pickTM (e_bool (sEq a0.S (⟨#[]⟩ : ByteArray))) rfl h22 rfl (hn := ?_)
        refine LWo.assign (e_bool (sEq a0.S (⟨#[]⟩ : ByteArray))) rfl (hn := ?_)
        refine LWo.nil (hN20 (sEq a0.S (⟨#[]⟩ : ByteArray)) _ ⟨rfl, trivial⟩ trivial h)
       ·have h := bF h22 h
        refine LWo.guardNU (t := 40) rfl h22 rfl rfl rfl rfl rfl ?_
        refine LWo.guardNU (t := 40) rfl h22 rfl rfl rfl rfl rfl ?_
        refine LWo.guardNU (t := 40) rfl h22 rfl rfl rfl rfl rfl ?_
        refine LWo.pickFM (e_bool false) rfl h22 rfl (hn := ?_)
        refine LWo.assign (e_bool false) rfl (hn := ?_)
        refine LWo.nil (hN20 false _ ⟨rfl, trivial⟩ trivial h)
     ·have h := bF h19 h
      refine LWP.skip (hN2 _ ?_)
      refine LWP.seq_k fun N23 hN23 => ?_
      refine LWP.region (l := [_]) ?_
      refine LWo.assign (e_bool false) rfl (hn := ?_)
      refine LWo.nil (hN23 _ ?_)
      obtain rfl := Option.some.inj h
      refine LWP.ret (QG.mk (.inr rfl) (.cons (.tmp (x := (e_bool false)) rfl) (.nil)) (RetOK.one0 (.pure rfl) (by decide)) rfl rfl)

def m_spec_RowOk_j1 (t0 : (List S_impl_Value)) : Option Bool :=
  some (decide ((t0.length : Int) ≤ (4 : Int)))
def m_spec_RowOk_l1 : Nat → (List S_impl_Value) → Int → Option Bool
  | 0, _, _ => none
  | n1 + 1, t0, t3 =>
    bif decide (t3 < (t0.length : Int)) then ((at? t0 t3).bind fun x11 =>
    (m_spec_ValueOk x11).bind fun x12 =>
    bif (!x12) then (some false)
    else ((ckI (t3 + (1 : Int))).bind fun x15 =>
    (m_spec_RowOk_l1  n1) t0 x15))
    else (m_spec_RowOk_j1  t0)
def m_spec_RowOk (a0 : (List S_impl_Value)) : Option Bool :=
  m_spec_RowOk_l1  (((a0.length : Int) - (0 : Int)).toNat + 1) a0 (0 : Int)
theorem c_spec_RowOk (a0 : (List S_impl_Value)) (r : Bool) (h : m_spec_RowOk a0 = some r) : Ret Try.prog f_spec_RowOk [e_Limpl_Value a0] (e_bool r) := by
  refine Does.goG [] F_spec_RowOk rfl e_spec_RowOk n_spec_RowOk rfl (rvs := [.tmp 2]) rfl rfl ?_
  intro w0 ok0 lent ρ0
  refine LWP.seq_k fun N1 hN1 => ?_
  refine LWP.region (l := [_]) ?_
  refine LWo.assign (e_bool false) rfl (hn := ?_)
  refine LWo.nil (hN1 _ ?_)
  refine LWP.join (α := (List S_impl_Value)) (fun z : (List S_impl_Value) => [(0, (e_Limpl_Value z))]) (fun z : (List S_impl_Value) => []) (fun z : (List S_impl_Value) => m_spec_RowOk_j1  z) r (fun _ => by simp [hkeys]) ?_ ?_
  ·rintro t0 h
   replace h : m_spec_RowOk_j1  t0 = some _ := h
   refine LWP.seq_k fun N16 hN16 => ?_
   refine LWP.region (l := [_,_,_,_]) ?_
   refine LWo.move (e_Limpl_Value t0) rfl (hn := ?_)
   refine LWo.lenM (f := e_impl_Value) (l := t0) u_Limpl_Value rfl (hn := ?_)
   refine LWo.int _ rfl rfl rfl (hn := ?_)
   refine LWo.assign (e_bool (decide ((t0.length : Int) ≤ (4 : Int)))) rfl (hn := ?_)
   refine LWo.nil (hN16 _ ?_)
   obtain rfl := Option.some.inj h
   refine LWP.ret (QG.mk (.inr rfl) (.cons (.tmp (x := (e_bool (decide ((t0.length : Int) ≤ (4 : Int))))) rfl) (.nil)) (RetOK.one0 (.pure rfl) (by decide)) rfl rfl)
  ·intro N2 hN2
   refine LWP.seq_k fun N3 hN3 => ?_
   refine LWP.region (l := [_]) ?_
   refine LWo.assign (e_int (0 : Int)) rfl (hn := ?_)
   refine LWo.nil (hN3 _ ?_)
   refine LWP.block ?_
   refine LWP.loopM (α := (List S_impl_Value) × Int) (fun z : (List S_impl_Value) × Int => [(0, (e_Limpl_Value z.1)), (3, (e_int z.2))]) (fun z : (List S_impl_Value) × Int => []) (fun n1 (z : (List S_impl_Value) × Int) => m_spec_RowOk_l1  n1 z.1 z.2) r _ (a0, (0 : Int)) h (fun _ => rfl) (fun _ => by simp [hkeys]) ⟨rfl, rfl, trivial⟩ trivial ?_
   rintro n1 ⟨t0, t3⟩ h N4 hN4
   replace h : m_spec_RowOk_l1  (n1 + 1) t0 t3 = some _ := h
   refine LWP.seq_k fun N6 hN6 => ?_
   refine LWP.seq_k fun N7 hN7 => ?_
   refine LWP.region (l := [_,_,_,_]) ?_
   refine LWo.move (e_int t3) rfl (hn := ?_)
   refine LWo.move (e_Limpl_Value t0) rfl (hn := ?_)
   refine LWo.lenM (f := e_impl_Value) (l := t0) u_Limpl_Value rfl (hn := ?_)
   refine LWo.int _ rfl rfl rfl (hn := ?_)
   refine LWo.nil (hN7 _ ?_)
   refine LWP.cond_split rfl (fun h8 => ?_) (fun h8 => ?_)
   ·have h := bT h8 h
    refine LWP.skip (hN6 _ ?_)
    refine LWP.seq_k fun N9 hN9 => ?_
    refine LWP.block ?_
    refine LWP.seq_k fun N10 hN10 => ?_
    refine LWP.region (l := [_,_,_,_,_,_]) ?_
    refine LWo.move (e_Limpl_Value t0) rfl (hn := ?_)
    refine LWo.move (e_int t3) rfl (hn := ?_)
    refine bk h fun x11 e11 h => ?_
    refine LWo.indexM (f := e_impl_Value) e11 u_Limpl_Value s_impl_Value rfl rfl (hn := ?_)
    refine LWo.loadN ((e_impl_Value x11)).cells g_impl_Value s_impl_Value rfl (Nat.le_of_ble_eq_true rfl) rfl (hn := ?_)
    refine bk h fun x12 e12 h => ?_
    refine LWo.vcall rfl rfl (c_spec_ValueOk _ _ e12) (.same (.nil)) (hn := ?_)
    refine LWo.not rfl (hn := ?_)
    refine LWo.nil (hN10 _ ?_)
    refine LWP.cond_split rfl (fun h13 => ?_) (fun h13 => ?_)
    ·have h := bT h13 h
     refine LWP.seq_k fun N14 hN14 => ?_
     refine LWP.region (l := [_]) ?_
     refine LWo.assign (e_bool false) rfl (hn := ?_)
     refine LWo.nil (hN14 _ ?_)
     obtain rfl := Option.some.inj h
     refine LWP.ret (QG.mk (.inr rfl) (.cons (.tmp (x := (e_bool false)) rfl) (.nil)) (RetOK.one0 (.pure rfl) (by decide)) rfl rfl)
    ·have h := bF h13 h
     refine LWP.skip (hN9 _ ?_)
     refine LWP.region (l := [_,_,_]) ?_
     refine LWo.move (e_int t3) rfl (hn := ?_)
     refine bk h fun x15 e15 h => ?_
     refine LWo.int _ rfl rfl (add_ck e15) (hn := ?_)
     refine LWo.assign (e_int x15) rfl (hn := ?_)
     refine LWo.nil (hN4 (t0, x15) _ ⟨rfl, rfl, trivial⟩ trivial h)
   ·have h := bF h8 h
    refine LWP.exit (hN2 t0 _ ⟨rfl, trivial⟩ trivial h)

def m_spec_RowFits_j3  : Option Bool :=
  some true
def m_spec_RowFits_j2 (k1 : (List S_impl_Column) → (List S_impl_Value) → Int → Option Bool) (t0 : (List S_impl_Column)) (t1 : (List S_impl_Value)) (t5 : Int) (t53 : Bool) : Option Bool :=
  bif t53 then (some false)
  else ((ckI (t5 + (1 : Int))).bind fun x27 =>
  k1 t0 t1 x27)
def m_spec_RowFits_l1 : Nat → (List S_impl_Column) → (List S_impl_Value) → Int → Option Bool
  | 0, _, _, _ => none
  | n1 + 1, t0, t1, t5 =>
    bif decide (t5 < (t1.length : Int)) then ((at? t1 t5).bind fun x19 =>
    (at? t0 t5).bind fun x20 =>
    bif (x19.Kind != x20.Kind) then ((at? t1 t5).bind fun x22 =>
      bif (x22.Kind != (0 : Int)) then (m_spec_RowFits_j2  (m_spec_RowFits_l1  n1) t0 t1 t5 true)
      else ((at? t0 t5).bind fun x24 =>
        m_spec_RowFits_j2  (m_spec_RowFits_l1  n1) t0 t1 t5 (!x24.Empty)))
    else (m_spec_RowFits_j2  (m_spec_RowFits_l1  n1) t0 t1 t5 false))
    else (m_spec_RowFits_j3  )
def m_spec_RowFits_j1 (t0 : (List S_impl_Column)) (t1 : (List S_impl_Value)) (t20 : Bool) : Option Bool :=
  bif t20 then (some false)
  else (m_spec_RowFits_l1  (((t1.length : Int) - (0 : Int)).toNat + 1) t0 t1 (0 : Int))
def m_spec_RowFits (a0 : (List S_impl_Column)) (a1 : (List S_impl_Value)) : Option Bool :=
  (m_spec_ColumnsOk a0).bind fun x4 =>
  bif (!x4) then (m_spec_RowFits_j1  a0 a1 true)
  else ((m_spec_RowOk a1).bind fun x6 =>
    bif (!x6) then (m_spec_RowFits_j1  a0 a1 true)
    else (m_spec_RowFits_j1  a0 a1 ((a1.length : Int) != (a0.length : Int))))
theorem c_spec_RowFits (a0 : (List S_impl_Column)) (a1 : (List S_impl_Value)) (r : Bool) (h : m_spec_RowFits a0 a1 = some r) : Ret Try.prog f_spec_RowFits [e_Limpl_Column a0, e_Limpl_Value a1] (e_bool r) := by
  refine Does.goG [] F_spec_RowFits rfl e_spec_RowFits n_spec_RowFits rfl (rvs := [.tmp 4]) rfl rfl ?_
  intro w0 ok0 lent ρ0
  refine LWP.seq_k fun N1 hN1 => ?_
  refine LWP.region (l := [_]) ?_
  refine LWo.assign (e_bool false) rfl (hn := ?_)
  refine LWo.nil (hN1 _ ?_)
  refine LWP.seq_k fun N2 hN2 => ?_
  refine LWP.join (α := (List S_impl_Column) × (List S_impl_Value) × Bool) (fun z : (List S_impl_Column) × (List S_impl_Value) × Bool => [(0, (e_Limpl_Column z.1)), (1, (e_Limpl_Value z.2.1)), (20, (e_bool z.2.2))]) (fun z : (List S_impl_Column) × (List S_impl_Value) × Bool => []) (fun z : (List S_impl_Column) × (List S_impl_Value) × Bool => m_spec_RowFits_j1  z.1 z.2.1 z.2.2) r (fun _ => by simp [hkeys]) ?_ ?_
  ·rintro ⟨t0, t1, t20⟩ h
   replace h : m_spec_RowFits_j1  t0 t1 t20 = some _ := h
   refine LWP.cond_split rfl (fun h8 => ?_) (fun h8 => ?_)
   ·have h := bT h8 h
    refine LWP.seq_k fun N9 hN9 => ?_
    refine LWP.region (l := [_]) ?_
    refine LWo.assign (e_bool false) rfl (hn := ?_)
    refine LWo.nil (hN9 _ ?_)
    obtain rfl := Option.some.inj h
    refine LWP.ret (QG.mk (.inr rfl) (.cons (.tmp (x := (e_bool false)) rfl) (.nil)) (RetOK.one0 (.pure rfl) (by decide)) rfl rfl)
   ·have h := bF h8 h
    refine LWP.skip (hN2 _ ?_)
    refine LWP.join (α := Unit) (fun z : Unit => []) (fun z : Unit => []) (fun z : Unit => m_spec_RowFits_j3  ) r (fun _ => by simp [hkeys]) ?_ ?_
    ·rintro _ h
     replace h : m_spec_RowFits_j3   = some _ := h
     refine LWP.seq_k fun N28 hN28 => ?_
     refine LWP.region (l := [_]) ?_
     refine LWo.assign (e_bool true) rfl (hn := ?_)
     refine LWo.nil (hN28 _ ?_)
     obtain rfl := Option.some.inj h
     refine LWP.ret (QG.mk (.inr rfl) (.cons (.tmp (x := (e_bool true)) rfl) (.nil)) (RetOK.one0 (.pure rfl) (by decide)) rfl rfl)
    ·intro N10 hN10
     refine LWP.seq_k fun N11 hN11 => ?_
     refine LWP.region (l := [_]) ?_
     refine LWo.assign (e_int (0 : Int)) rfl (hn := ?_)
     refine LWo.nil (hN11 _ ?_)
     refine LWP.block ?_
     refine LWP.loopM (α := (List S_impl_Column) × (List S_impl_Value) × Int) (fun z : (List S_impl_Column) × (List S_impl_Value) × Int => [(0, (e_Limpl_Column z.1)), (1, (e_Limpl_Value z.2.1)), (5, (e_int z.2.2))]) (fun z : (List S_impl_Column) × (List S_impl_Value) × Int => []) (fun n1 (z : (List S_impl_Column) × (List S_impl_Value) × Int) => m_spec_RowFits_l1  n1 z.1 z.2.1 z.2.2) r _ (t0, t1, (0 : Int)) h (fun _ => rfl) (fun _ => by simp [hkeys]) ⟨rfl, rfl, rfl, trivial⟩ trivial ?_
     rintro n1 ⟨t0, t1, t5⟩ h N12 hN12
     replace h : m_spec_RowFits_l1  (n1 + 1) t0 t1 t5 = some _ := h
     refine LWP.seq_k fun N14 hN14 => ?_
     refine LWP.seq_k fun N15 hN15 => ?_
     refine LWP.region (l := [_,_,_,_]) ?_
     refine LWo.move (e_int t5) rfl (hn := ?_)
     refine LWo.move (e_Limpl_Value t1) rfl (hn := ?_)
     refine LWo.lenM (f := e_impl_Value) (l := t1) u_Limpl_Value rfl (hn := ?_)
     refine LWo.int _ rfl rfl rfl (hn := ?_)
     refine LWo.nil (hN15 _ ?_)
     refine LWP.cond_split rfl (fun h16 => ?_) (fun h16 => ?_)
     ·have h := bT h16 h
      refine LWP.skip (hN14 _ ?_)
      refine LWP.seq_k fun N17 hN17 => ?_
      refine LWP.block ?_
      refine LWP.join (α := (List S_impl_Column) × (List S_impl_Value) × Int × Bool) (fun z : (List S_impl_Column) × (List S_impl_Value) × Int × Bool => [(0, (e_Limpl_Column z.1)), (1, (e_Limpl_Value z.2.1)), (5, (e_int z.2.2.1)), (53, (e_bool z.2.2.2))]) (fun z : (List S_impl_Column) × (List S_impl_Value) × Int × Bool => []) (fun z : (List S_impl_Column) × (List S_impl_Value) × Int × Bool => m_spec_RowFits_j2  (m_spec_RowFits_l1  n1) z.1 z.2.1 z.2.2.1 z.2.2.2) r (fun _ => by simp [hkeys]) ?_ ?_
      ·rintro ⟨t0, t1, t5, t53⟩ h
       replace h : m_spec_RowFits_j2  (m_spec_RowFits_l1  n1) t0 t1 t5 t53 = some _ := h
       refine LWP.cond_split rfl (fun h25 => ?_) (fun h25 => ?_)
       ·have h := bT h25 h
        refine LWP.seq_k fun N26 hN26 => ?_
        refine LWP.region (l := [_]) ?_
        refine LWo.assign (e_bool false) rfl (hn := ?_)
        refine LWo.nil (hN26 _ ?_)
        obtain rfl := Option.some.inj h
        refine LWP.ret (QG.mk (.inr rfl) (.cons (.tmp (x := (e_bool false)) rfl) (.nil)) (RetOK.one0 (.pure rfl) (by decide)) rfl rfl)
       ·have h := bF h25 h
        refine LWP.skip (hN17 _ ?_)
        refine LWP.region (l := [_,_,_]) ?_
        refine LWo.move (e_int t5) rfl (hn := ?_)
        refine bk h fun x27 e27 h => ?_
        refine LWo.int _ rfl rfl (add_ck e27) (hn := ?_)
        refine LWo.assign (e_int x27) rfl (hn := ?_)
        refine LWo.nil (hN12 (t0, t1, x27) _ ⟨rfl, rfl, rfl, trivial⟩ trivial h)
      ·intro N18 hN18
       refine bk h fun x19 e19 h => ?_
       refine bk h fun x20 e20 h => ?_
       refine bS ((x19.Kind != x20.Kind)) (fun h21 => ?_) (fun h21 => ?_)
       ·have h := bT h21 h
        refine bk h fun x22 e22 h => ?_
        refine bS ((x22.Kind != (0 : Int))) (fun h23 => ?_) (fun h23 => ?_)
        ·have h := bT h23 h
         refine LWP.drawF (l := [_,_,_,_,_,_,_,_,_,_,_,_,_,_,_,_,_,_,_,_,_,_,_,_,_,_,_]) [] [0, 1, 5] [([1], []), ([5], []), ([27, 28], []), ([29], []), ([30], []), ([0], []), ([5], []), ([32, 33], []), ([34], []), ([35], []), ([31, 36], []), ([37], []), ([1, 38], []), ([5, 38], []), ([38, 39, 40], []), ([38, 41], []), ([38, 42], []), ([38, 43], []), ([38, 44], []), ([0, 45], []), ([5, 45], []), ([45, 46, 47], []), ([45, 48], []), ([45, 49], []), ([45, 50], []), ([38, 45, 51], []), ([38, 52], [])] [0, 1, 5, 53] [] mixed (by kernel_rfl) rfl (by decide) ?_
         refine dq 27 rfl (fun _ g u h => LWo.move (e_Limpl_Value t1) u.1 (hn := .nil (zn g))) ?_
         refine dq 28 rfl (fun _ g u h => LWo.move (e_int t5) u.1 (hn := .nil (zn g))) ?_
         refine dq 29 rfl (fun _ g u h => LWo.indexM (f := e_impl_Value) e19 u_Limpl_Value s_impl_Value u.1 u.2.1 (hn := .nil (zn g))) ?_
         refine dq 30 rfl (fun _ g u h => LWo.fieldAddr _ u_impl_Value rfl s_int u.1 rfl (hn := .nil (zn g))) ?_
         refine dq 31 rfl (fun _ g u h => LWo.load1 (c := (e_int x19.Kind)) g_int u.1 (hn := .nil (zn g))) ?_
         refine dq 32 rfl (fun _ g u h => LWo.move (e_Limpl_Column t0) u.1 (hn := .nil (zn g))) ?_
         refine dq 33 rfl (fun _ g u h => LWo.move (e_int t5) u.1 (hn := .nil (zn g))) ?_
         refine dq 34 rfl (fun _ g u h => LWo.indexM (f := e_impl_Column) e20 u_Limpl_Column s_impl_Column u.1 u.2.1 (hn := .nil (zn g))) ?_
         refine dq 35 rfl (fun _ g u h => LWo.fieldAddr _ u_impl_Column rfl s_int u.1 rfl (hn := .nil (zn g))) ?_
         refine dq 36 rfl (fun _ g u h => LWo.load1 (c := (e_int x20.Kind)) g_int u.1 (hn := .nil (zn g))) ?_
         refine dq 37 rfl (fun _ g u h => LWo.int _ u.1 u.2.1 rfl (hn := .nil (zn g))) ?_
         refine dq 38 rfl (fun _ g u h => LWo.move (e_bool (x19.Kind != x20.Kind)) u.1 (hn := .nil (zn g))) ?_
         refine dq 39 rfl (fun _ g u h => LWo.guardY (t := 38) u.2.1 h21 rfl rfl (LWo.move (e_Limpl_Value t1) u.1 (hn := .nil (zn g)))) ?_
         refine dq 40 rfl (fun _ g u h => LWo.guardY (t := 38) u.2.1 h21 rfl rfl (LWo.move (e_int t5) u.1 (hn := .nil (zn g)))) ?_
         refine dq 41 rfl (fun _ g u h => LWo.guardY (t := 38) u.1 h21 rfl rfl (LWo.indexM (f := e_impl_Value) e22 u_Limpl_Value s_impl_Value u.2.1 u.2.2.1 (hn := .nil (zn g)))) ?_
         refine dq 42 rfl (fun _ g u h => LWo.guardY (t := 38) u.1 h21 rfl rfl (LWo.fieldAddr _ u_impl_Value rfl s_int u.2.1 rfl (hn := .nil (zn g)))) ?_
         refine dq 43 rfl (fun _ g u h => LWo.guardY (t := 38) u.1 h21 rfl rfl (LWo.load1 (c := (e_int x22.Kind)) g_int u.2.1 (hn := .nil (zn g)))) ?_
         refine dq 44 rfl (fun _ g u h => LWo.guardY (t := 38) u.1 h21 rfl rfl (LWo.int _ u.2.1 rfl rfl (hn := .nil (zn g)))) ?_
         refine dq 45 rfl (fun _ g u h => LWo.guardY (t := 38) u.1 h21 rfl rfl (LWo.move (e_bool (x22.Kind != (0 : Int))) u.2.1 (hn := .nil (zn g)))) ?_
         refine dq 46 rfl (fun _ g u h => LWo.guardNU (t := 45) u.2.1 h23 rfl rfl rfl rfl rfl (.nil (zn g))) ?_
         refine dq 47 rfl (fun _ g u h => LWo.guardNU (t := 45) u.2.1 h23 rfl rfl rfl rfl rfl (.nil (zn g))) ?_
         refine dq 48 rfl (fun _ g u h => LWo.guardNU (t := 45) u.1 h23 rfl rfl rfl rfl rfl (.nil (zn g))) ?_
         refine dq 49 rfl (fun _ g u h => LWo.guardNU (t := 45) u.1 h23 rfl rfl rfl rfl rfl (.nil (zn g))) ?_
         refine dq 50 rfl (fun _ g u h => LWo.guardNU (t := 45) u.1 h23 rfl rfl rfl rfl rfl (.nil (zn g))) ?_
         refine dq 51 rfl (fun _ g u h => LWo.guardNU (t := 45) u.1 h23 rfl rfl rfl rfl rfl (.nil (zn g))) ?_
         refine dq 52 rfl (fun _ g u h => LWo.guardY (t := 38) u.1 h21 rfl rfl (LWo.pickTM (e_bool true) u.2.1 h23 rfl (hn := .nil (zn g)))) ?_
         refine dq 53 rfl (fun _ g u h => LWo.pickTM (e_bool true) u.1 h21 u.2.1 (hn := .nil (zn g))) ?_
         refine ⟨rfl, by kernel_rfl, hN18 (t0, t1, t5, true) _ ⟨rfl, rfl, rfl, rfl, trivial⟩ trivial h⟩
        ·have h := bF h23 h
         refine bk h fun x24 e24 h => ?_
         refine LWP.drawF (l := [_,_,_,_,_,_,_,_,_,_,_,_,_,_,_,_,_,_,_,_,_,_,_,_,_,_,_]) [] [0, 1, 5] [([1], []), ([5], []), ([27, 28], []), ([29], []), ([30], []), ([0], []), ([5], []), ([32, 33], []), ([34], []), ([35], []), ([31, 36], []), ([37], []), ([1, 38], []), ([5, 38], []), ([38, 39, 40], []), ([38, 41], []), ([38, 42], []), ([38, 43], []), ([38, 44], []), ([0, 45], []), ([5, 45], []), ([45, 46, 47], []), ([45, 48], []), ([45, 49], []), ([45, 50], []), ([38, 45, 51], []), ([38, 52], [])] [0, 1, 5, 53] [] mixed (by kernel_rfl) rfl (by decide) ?_
         refine dq 27 rfl (fun _ g u h => LWo.move (e_Limpl_Value t1) u.1 (hn := .nil (zn g))) ?_
         refine dq 28 rfl (fun _ g u h => LWo.move (e_int t5) u.1 (hn := .nil (zn g))) ?_
         refine dq 29 rfl (fun _ g u h => LWo.indexM (f := e_impl_Value) e19 u_Limpl_Value s_impl_Value u.1 u.2.1 (hn := .nil (zn g))) ?_
         refine dq 30 rfl (fun _ g u h => LWo.fieldAddr _ u_impl_Value rfl s_int u.1 rfl (hn := .nil (zn g))) ?_
         refine dq 31 rfl (fun _ g u h => LWo.load1 (c := (e_int x19.Kind)) g_int u.1 (hn := .nil (zn g))) ?_
         refine dq 32 rfl (fun _ g u h => LWo.move (e_Limpl_Column t0) u.1 (hn := .nil (zn g))) ?_
         refine dq 33 rfl (fun _ g u h => LWo.move (e_int t5) u.1 (hn := .nil (zn g))) ?_
         refine dq 34 rfl (fun _ g u h => LWo.indexM (f := e_impl_Column) e20 u_Limpl_Column s_impl_Column u.1 u.2.1 (hn := .nil (zn g))) ?_
         refine dq 35 rfl (fun _ g u h => LWo.fieldAddr _ u_impl_Column rfl s_int u.1 rfl (hn := .nil (zn g))) ?_
         refine dq 36 rfl (fun _ g u h => LWo.load1 (c := (e_int x20.Kind)) g_int u.1 (hn := .nil (zn g))) ?_
         refine dq 37 rfl (fun _ g u h => LWo.int _ u.1 u.2.1 rfl (hn := .nil (zn g))) ?_
         refine dq 38 rfl (fun _ g u h => LWo.move (e_bool (x19.Kind != x20.Kind)) u.1 (hn := .nil (zn g))) ?_
         refine dq 39 rfl (fun _ g u h => LWo.guardY (t := 38) u.2.1 h21 rfl rfl (LWo.move (e_Limpl_Value t1) u.1 (hn := .nil (zn g)))) ?_
         refine dq 40 rfl (fun _ g u h => LWo.guardY (t := 38) u.2.1 h21 rfl rfl (LWo.move (e_int t5) u.1 (hn := .nil (zn g)))) ?_
         refine dq 41 rfl (fun _ g u h => LWo.guardY (t := 38) u.1 h21 rfl rfl (LWo.indexM (f := e_impl_Value) e22 u_Limpl_Value s_impl_Value u.2.1 u.2.2.1 (hn := .nil (zn g)))) ?_
         refine dq 42 rfl (fun _ g u h => LWo.guardY (t := 38) u.1 h21 rfl rfl (LWo.fieldAddr _ u_impl_Value rfl s_int u.2.1 rfl (hn := .nil (zn g)))) ?_
         refine dq 43 rfl (fun _ g u h => LWo.guardY (t := 38) u.1 h21 rfl rfl (LWo.load1 (c := (e_int x22.Kind)) g_int u.2.1 (hn := .nil (zn g)))) ?_
         refine dq 44 rfl (fun _ g u h => LWo.guardY (t := 38) u.1 h21 rfl rfl (LWo.int _ u.2.1 rfl rfl (hn := .nil (zn g)))) ?_
         refine dq 45 rfl (fun _ g u h => LWo.guardY (t := 38) u.1 h21 rfl rfl (LWo.move (e_bool (x22.Kind != (0 : Int))) u.2.1 (hn := .nil (zn g)))) ?_
         refine dq 46 rfl (fun _ g u h => LWo.guardY (t := 45) u.2.1 h23 rfl rfl (LWo.move (e_Limpl_Column t0) u.1 (hn := .nil (zn g)))) ?_
         refine dq 47 rfl (fun _ g u h => LWo.guardY (t := 45) u.2.1 h23 rfl rfl (LWo.move (e_int t5) u.1 (hn := .nil (zn g)))) ?_
         refine dq 48 rfl (fun _ g u h => LWo.guardY (t := 45) u.1 h23 rfl rfl (LWo.indexM (f := e_impl_Column) e24 u_Limpl_Column s_impl_Column u.2.1 u.2.2.1 (hn := .nil (zn g)))) ?_
         refine dq 49 rfl (fun _ g u h => LWo.guardY (t := 45) u.1 h23 rfl rfl (LWo.fieldAddr _ u_impl_Column rfl s_bool u.2.1 rfl (hn := .nil (zn g)))) ?_
         refine dq 50 rfl (fun _ g u h => LWo.guardY (t := 45) u.1 h23 rfl rfl (LWo.load1 (c := (e_bool x24.Empty)) g_bool u.2.1 (hn := .nil (zn g)))) ?_
         refine dq 51 rfl (fun _ g u h => LWo.guardY (t := 45) u.1 h23 rfl rfl (LWo.not u.2.1 (hn := .nil (zn g)))) ?_
         refine dq 52 rfl (fun _ g u h => LWo.guardY (t := 38) u.1 h21 rfl rfl (LWo.pickFM (e_bool (!x24.Empty)) u.2.1 h23 u.2.2.1 (hn := .nil (zn g)))) ?_
         refine dq 53 rfl (fun _ g u h => LWo.pickTM (e_bool (!x24.Empty)) u.1 h21 u.2.1 (hn := .nil (zn g))) ?_
         refine ⟨rfl, by kernel_rfl, hN18 (t0, t1, t5, (!x24.Empty)) _ ⟨rfl, rfl, rfl, rfl, trivial⟩ trivial h⟩
       ·have h := bF h21 h
        refine LWP.drawF (l := [_,_,_,_,_,_,_,_,_,_,_,_,_,_,_,_,_,_,_,_,_,_,_,_,_,_,_]) [] [0, 1, 5] [([1], []), ([5], []), ([27, 28], []), ([29], []), ([30], []), ([0], []), ([5], []), ([32, 33], []), ([34], []), ([35], []), ([31, 36], []), ([37], []), ([1, 38], []), ([5, 38], []), ([38, 39, 40], []), ([38, 41], []), ([38, 42], []), ([38, 43], []), ([38, 44], []), ([0, 45], []), ([5, 45], []), ([45, 46, 47], []), ([45, 48], []), ([45, 49], []), ([45, 50], []), ([38, 45, 51], []), ([38, 52], [])] [0, 1, 5, 53] [] mixed (by kernel_rfl) rfl (by decide) ?_
        refine dq 27 rfl (fun _ g u h => LWo.move (e_Limpl_Value t1) u.1 (hn := .nil (zn g))) ?_
        refine dq 28 rfl (fun _ g u h => LWo.move (e_int t5) u.1 (hn := .nil (zn g))) ?_
        refine dq 29 rfl (fun _ g u h => LWo.indexM (f := e_impl_Value) e19 u_Limpl_Value s_impl_Value u.1 u.2.1 (hn := .nil (zn g))) ?_
        refine dq 30 rfl (fun _ g u h => LWo.fieldAddr _ u_impl_Value rfl s_int u.1 rfl (hn := .nil (zn g))) ?_
        refine dq 31 rfl (fun _ g u h => LWo.load1 (c := (e_int x19.Kind)) g_int u.1 (hn := .nil (zn g))) ?_
        refine dq 32 rfl (fun _ g u h => LWo.move (e_Limpl_Column t0) u.1 (hn := .nil (zn g))) ?_
        refine dq 33 rfl (fun _ g u h => LWo.move (e_int t5) u.1 (hn := .nil (zn g))) ?_
        refine dq 34 rfl (fun _ g u h => LWo.indexM (f := e_impl_Column) e20 u_Limpl_Column s_impl_Column u.1 u.2.1 (hn := .nil (zn g))) ?_
        refine dq 35 rfl (fun _ g u h => LWo.fieldAddr _ u_impl_Column rfl s_int u.1 rfl (hn := .nil (zn g))) ?_
        refine dq 36 rfl (fun _ g u h => LWo.load1 (c := (e_int x20.Kind)) g_int u.1 (hn := .nil (zn g))) ?_
        refine dq 37 rfl (fun _ g u h => LWo.int _ u.1 u.2.1 rfl (hn := .nil (zn g))) ?_
        refine dq 38 rfl (fun _ g u h => LWo.move (e_bool (x19.Kind != x20.Kind)) u.1 (hn := .nil (zn g))) ?_
        refine dq 39 rfl (fun _ g u h => LWo.guardNU (t := 38) u.2.1 h21 rfl rfl rfl rfl rfl (.nil (zn g))) ?_
        refine dq 40 rfl (fun _ g u h => LWo.guardNU (t := 38) u.2.1 h21 rfl rfl rfl rfl rfl (.nil (zn g))) ?_
        refine dq 41 rfl (fun _ g u h => LWo.guardNU (t := 38) u.1 h21 rfl rfl rfl rfl rfl (.nil (zn g))) ?_
        refine dq 42 rfl (fun _ g u h => LWo.guardNU (t := 38) u.1 h21 rfl rfl rfl rfl rfl (.nil (zn g))) ?_
        refine dq 43 rfl (fun _ g u h => LWo.guardNU (t := 38) u.1 h21 rfl rfl rfl rfl rfl (.nil (zn g))) ?_
        refine dq 44 rfl (fun _ g u h => LWo.guardNU (t := 38) u.1 h21 rfl rfl rfl rfl rfl (.nil (zn g))) ?_
        refine dq 45 rfl (fun _ g u h => LWo.guardNU (t := 38) u.1 h21 rfl rfl rfl rfl rfl (.nil (zn g))) ?_
        refine dq 46 rfl (fun _ g u h => LWo.guardU (t := 45) u.2.1 rfl rfl rfl rfl (.nil (zn g))) ?_
        refine dq 47 rfl (fun _ g u h => LWo.guardU (t := 45) u.2.1 rfl rfl rfl rfl (.nil (zn g))) ?_
        refine dq 48 rfl (fun _ g u h => LWo.guardU (t := 45) u.1 rfl rfl rfl rfl (.nil (zn g))) ?_
        refine dq 49 rfl (fun _ g u h => LWo.guardU (t := 45) u.1 rfl rfl rfl rfl (.nil (zn g))) ?_
        refine dq 50 rfl (fun _ g u h => LWo.guardU (t := 45) u.1 rfl rfl rfl rfl (.nil (zn g))) ?_
        refine dq 51 rfl (fun _ g u h => LWo.guardU (t := 45) u.1 rfl rfl rfl rfl (.nil (zn g))) ?_
        refine dq 52 rfl (fun _ g u h => LWo.guardNU (t := 38) u.1 h21 rfl rfl rfl rfl rfl (.nil (zn g))) ?_
        refine dq 53 rfl (fun _ g u h => LWo.pickFM (e_bool false) u.1 h21 rfl (hn := .nil (zn g))) ?_
        refine ⟨rfl, by kernel_rfl, hN18 (t0, t1, t5, false) _ ⟨rfl, rfl, rfl, rfl, trivial⟩ trivial h⟩
     ·have h := bF h16 h
      refine LWP.exit (hN10 () _ trivial trivial h)
  ·intro N3 hN3
   refine LWP.region (l := [_,_,_,_,_,_,_,_,_,_,_,_,_,_,_]) ?_
   refine LWo.move (e_Limpl_Column a0) rfl (hn := ?_)
   refine bk h fun x4 e4 h => ?_
   refine LWo.vcall rfl rfl (c_spec_ColumnsOk _ _ e4) (.same (.nil)) (hn := ?_)
   refine LWo.not rfl (hn := ?_)
   refine LWo.move (e_bool (!x4)) rfl (hn := ?_)
   refine LWo.byCases (t := 9) _ rfl (fun h5 => ?_) (fun h5 => ?_)
   ·have h := bT h5 h
    refine LWo.guardNU (t := 9) rfl h5 rfl rfl rfl rfl rfl ?_
    refine LWo.guardNU (t := 9) rfl h5 rfl rfl rfl rfl rfl ?_
    refine LWo.guardNU (t := 9) rfl h5 rfl rfl rfl rfl rfl ?_
    refine LWo.pickTM (e_bool true) rfl h5 rfl (hn := ?_)
    refine LWo.move (e_bool true) rfl (hn := ?_)
    refine LWo.guardNU (t := 14) rfl rfl rfl rfl rfl rfl rfl ?_
    refine LWo.guardNU (t := 14) rfl rfl rfl rfl rfl rfl rfl ?_
    refine LWo.guardNU (t := 14) rfl rfl rfl rfl rfl rfl rfl ?_
    refine LWo.guardNU (t := 14) rfl rfl rfl rfl rfl rfl rfl ?_
    refine LWo.guardNU (t := 14) rfl rfl rfl rfl rfl rfl rfl ?_
    refine LWo.pickTM (e_bool true) rfl rfl rfl (hn := ?_)
    refine LWo.nil (hN3 (a0, a1, true) _ ⟨rfl, rfl, rfl, trivial⟩ trivial h)
   ·have h := bF h5 h
    refine LWo.guardY (t := 9) rfl h5 rfl rfl ?_
    refine LWo.move (e_Limpl_Value a1) rfl (hn := ?_)
    refine bk h fun x6 e6 h => ?_
    refine LWo.guardY (t := 9) rfl h5 rfl rfl ?_
    refine LWo.vcall rfl rfl (c_spec_RowOk _ _ e6) (.same (.nil)) (hn := ?_)
    refine LWo.guardY (t := 9) rfl h5 rfl rfl ?_
    refine LWo.not rfl (hn := ?_)
    refine LWo.pickFM (e_bool (!x6)) rfl h5 rfl (hn := ?_)
    refine LWo.move (e_bool (!x6)) rfl (hn := ?_)
    refine LWo.byCases (t := 14) _ rfl (fun h7 => ?_) (fun h7 => ?_)
    ·have h := bT h7 h
     refine LWo.guardNU (t := 14) rfl h7 rfl rfl rfl rfl rfl ?_
     refine LWo.guardNU (t := 14) rfl h7 rfl rfl rfl rfl rfl ?_
     refine LWo.guardNU (t := 14) rfl h7 rfl rfl rfl rfl rfl ?_
     refine LWo.guardNU (t := 14) rfl h7 rfl rfl rfl rfl rfl ?_
     refine LWo.guardNU (t := 14) rfl h7 rfl rfl rfl rfl rfl ?_
     refine LWo.pickTM (e_bool true) rfl h7 rfl (hn := ?_)
     refine LWo.nil (hN3 (a0, a1, true) _ ⟨rfl, rfl, rfl, trivial⟩ trivial h)
    ·have h := bF h7 h
     refine LWo.guardY (t := 14) rfl h7 rfl rfl ?_
     refine LWo.move (e_Limpl_Value a1) rfl (hn := ?_)
     refine LWo.guardY (t := 14) rfl h7 rfl rfl ?_
     refine LWo.lenM (f := e_impl_Value) (l := a1) u_Limpl_Value rfl (hn := ?_)
     refine LWo.guardY (t := 14) rfl h7 rfl rfl ?_
     refine LWo.move (e_Limpl_Column a0) rfl (hn := ?_)
     refine LWo.guardY (t := 14) rfl h7 rfl rfl ?_
     refine LWo.lenM (f := e_impl_Column) (l := a0) u_Limpl_Column rfl (hn := ?_)
     refine LWo.guardY (t := 14) rfl h7 rfl rfl ?_
     refine LWo.int _ rfl rfl rfl (hn := ?_)
     refine LWo.pickFM (e_bool ((a1.length : Int) != (a0.length : Int))) rfl h7 rfl (hn := ?_)
     refine LWo.nil (hN3 (a0, a1, ((a1.length : Int) != (a0.length : Int))) _ ⟨rfl, rfl, rfl, trivial⟩ trivial h)
end Go.Proofs.Ytgepipglchpabaa
