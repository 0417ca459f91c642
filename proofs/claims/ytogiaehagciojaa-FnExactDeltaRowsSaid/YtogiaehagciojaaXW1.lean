/- Mirrors of functions, and that the functions return what the mirrors say. -/
import Derived.Test.YtogiaehagciojaaXTy
set_option linter.unusedVariables false
set_option linter.unusedSimpArgs false
set_option linter.unnecessarySimpa false
namespace Go.Proofs.Ytogiaehagciojaa
open Go.Proofs Go.Lift Go.RowKit
def m_laws_szValue (a0 : S_laws_Value) (a1 : Int) : Option Int :=
  (ckI (a1 - (a0.S.size : Int))).bind fun x3 =>
  bif decide (x3 < (0 : Int)) then (some (-1 : Int))
  else (some x3)
theorem c_laws_szValue (a0 : S_laws_Value) (a1 : Int) (r : Int) (h : m_laws_szValue a0 a1 = some r) : Ret Try.prog f_laws_szValue [e_laws_Value a0, e_int a1] (e_int r) := by
  refine Does.goG [] F_laws_szValue rfl e_laws_szValue n_laws_szValue rfl (rvs := [.tmp 4]) rfl rfl ?_
  intro w0 ok0 lent ρ0
  refine LWP.seq_k fun N1 hN1 => ?_
  refine LWP.region (l := [_,_]) ?_
  refine LWo.boxF (e_laws_Value a0) rfl rfl rfl (hn := ?_)
  refine LWo.assign (e_int (0 : Int)) rfl (hn := ?_)
  refine LWo.nil (hN1 _ ?_)
  refine LWP.seq_k fun N2 hN2 => ?_
  refine LWP.region (l := [_,_,_,_,_,_]) ?_
  refine LWo.move (e_int a1) rfl (hn := ?_)
  refine LWo.fieldAddr _ u_laws_Value rfl s_string rfl rfl (hn := ?_)
  refine LWo.load1 (c := (e_string a0.S)) g_string rfl (hn := ?_)
  refine LWo.lenS u_string rfl (hn := ?_)
  refine bk h fun x3 e3 h => ?_
  refine LWo.int _ rfl rfl (sub_ck e3) (hn := ?_)
  refine LWo.assign (e_int x3) rfl (hn := ?_)
  refine LWo.nil (hN2 _ ?_)
  refine LWP.seq_k fun N4 hN4 => ?_
  refine LWP.seq_k fun N5 hN5 => ?_
  refine LWP.region (l := [_,_]) ?_
  refine LWo.move (e_int x3) rfl (hn := ?_)
  refine LWo.int _ rfl rfl rfl (hn := ?_)
  refine LWo.nil (hN5 _ ?_)
  refine LWP.cond_split rfl (fun h6 => ?_) (fun h6 => ?_)
  ·have h := bT h6 h
   refine LWP.seq_k fun N7 hN7 => ?_
   refine LWP.region (l := [_]) ?_
   refine LWo.assign (e_int (-1 : Int)) rfl (hn := ?_)
   refine LWo.nil (hN7 _ ?_)
   obtain rfl := Option.some.inj h
   refine LWP.ret (QG.mk (.inr rfl) (.cons (.tmp (x := (e_int (-1 : Int))) rfl) (.nil)) (RetOK.one0 (.pure rfl) (by decide)) rfl rfl)
  ·have h := bF h6 h
   refine LWP.skip (hN4 _ ?_)
   refine LWP.seq_k fun N8 hN8 => ?_
   refine LWP.region (l := [_,_]) ?_
   refine LWo.move (e_int x3) rfl (hn := ?_)
   refine LWo.assign (e_int x3) rfl (hn := ?_)
   refine LWo.nil (hN8 _ ?_)
   obtain rfl := Option.some.inj h
   refine LWP.ret (QG.mk (.inr rfl) (.cons (.tmp (x := (e_int x3)) rfl) (.nil)) (RetOK.one0 (.pure rfl) (by decide)) rfl rfl)

def m_laws_szValueS_j1 (t1 : Int) : Option Int :=
  some t1
def m_laws_szValueS_l1 : Nat → (List S_laws_Value) → Int → Int → Option Int
  | 0, _, _, _ => none
  | n1 + 1, t0, t1, t5 =>
    bif decide (t5 < (t0.length : Int)) then ((at? t0 t5).bind fun x17 =>
    (m_laws_szValue x17 t1).bind fun x18 =>
    bif decide (x18 < (0 : Int)) then (some (-1 : Int))
    else ((ckI (t5 + (1 : Int))).bind fun x22 =>
    (m_laws_szValueS_l1  n1) t0 x18 x22))
    else (m_laws_szValueS_j1  t1)
def m_laws_szValueS (a0 : (List S_laws_Value)) (a1 : Int) : Option Int :=
  (ckI (a1 - (a0.length : Int))).bind fun x3 =>
  bif decide (x3 < (0 : Int)) then (some (-1 : Int))
  else (m_laws_szValueS_l1  (((a0.length : Int) - (0 : Int)).toNat + 1) a0 x3 (0 : Int))
theorem c_laws_szValueS (a0 : (List S_laws_Value)) (a1 : Int) (r : Int) (h : m_laws_szValueS a0 a1 = some r) : Ret Try.prog f_laws_szValueS [e_Llaws_Value a0, e_int a1] (e_int r) := by
  refine Does.goG [] F_laws_szValueS rfl e_laws_szValueS n_laws_szValueS rfl (rvs := [.tmp 4]) rfl rfl ?_
  intro w0 ok0 lent ρ0
  refine LWP.seq_k fun N1 hN1 => ?_
  refine LWP.region (l := [_]) ?_
  refine LWo.assign (e_int (0 : Int)) rfl (hn := ?_)
  refine LWo.nil (hN1 _ ?_)
  refine LWP.seq_k fun N2 hN2 => ?_
  refine LWP.region (l := [_,_,_,_,_]) ?_
  refine LWo.move (e_int a1) rfl (hn := ?_)
  refine LWo.move (e_Llaws_Value a0) rfl (hn := ?_)
  refine LWo.lenM (f := e_laws_Value) (l := a0) u_Llaws_Value rfl (hn := ?_)
  refine bk h fun x3 e3 h => ?_
  refine LWo.int _ rfl rfl (sub_ck e3) (hn := ?_)
  refine LWo.assign (e_int x3) rfl (hn := ?_)
  refine LWo.nil (hN2 _ ?_)
  refine LWP.seq_k fun N4 hN4 => ?_
  refine LWP.seq_k fun N5 hN5 => ?_
  refine LWP.region (l := [_,_]) ?_
  refine LWo.move (e_int x3) rfl (hn := ?_)
  refine LWo.int _ rfl rfl rfl (hn := ?_)
  refine LWo.nil (hN5 _ ?_)
  refine LWP.cond_split rfl (fun h6 => ?_) (fun h6 => ?_)
  ·have h := bT h6 h
   refine LWP.seq_k fun N7 hN7 => ?_
   refine LWP.region (l := [_]) ?_
   refine LWo.assign (e_int (-1 : Int)) rfl (hn := ?_)
   refine LWo.nil (hN7 _ ?_)
   obtain rfl := Option.some.inj h
   refine LWP.ret (QG.mk (.inr rfl) (.cons (.tmp (x := (e_int (-1 : Int))) rfl) (.nil)) (RetOK.one0 (.pure rfl) (by decide)) rfl rfl)
  ·have h := bF h6 h
   refine LWP.skip (hN4 _ ?_)
   refine LWP.join (α := Int) (fun z : Int => [(1, (e_int z))]) (fun z : Int => []) (fun z : Int => m_laws_szValueS_j1  z) r (fun _ => by simp [hkeys]) ?_ ?_
   ·rintro t1 h
    replace h : m_laws_szValueS_j1  t1 = some _ := h
    refine LWP.seq_k fun N23 hN23 => ?_
    refine LWP.region (l := [_,_]) ?_
    refine LWo.move (e_int t1) rfl (hn := ?_)
    refine LWo.assign (e_int t1) rfl (hn := ?_)
    refine LWo.nil (hN23 _ ?_)
    obtain rfl := Option.some.inj h
    refine LWP.ret (QG.mk (.inr rfl) (.cons (.tmp (x := (e_int t1)) rfl) (.nil)) (RetOK.one0 (.pure rfl) (by decide)) rfl rfl)
   ·intro N8 hN8
    refine LWP.seq_k fun N9 hN9 => ?_
    refine LWP.region (l := [_]) ?_
    refine LWo.assign (e_int (0 : Int)) rfl (hn := ?_)
    refine LWo.nil (hN9 _ ?_)
    refine LWP.block ?_
    refine LWP.loopM (α := (List S_laws_Value) × Int × Int) (fun z : (List S_laws_Value) × Int × Int => [(0, (e_Llaws_Value z.1)), (1, (e_int z.2.1)), (5, (e_int z.2.2))]) (fun z : (List S_laws_Value) × Int × Int => []) (fun n1 (z : (List S_laws_Value) × Int × Int) => m_laws_szValueS_l1  n1 z.1 z.2.1 z.2.2) r _ (a0, x3, (0 : Int)) h (fun _ => rfl) (fun _ => by simp [hkeys]) ⟨rfl, rfl, rfl, trivial⟩ trivial ?_
    rintro n1 ⟨t0, t1, t5⟩ h N10 hN10
    replace h : m_laws_szValueS_l1  (n1 + 1) t0 t1 t5 = some _ := h
    refine LWP.seq_k fun N12 hN12 => ?_
    refine LWP.seq_k fun N13 hN13 => ?_
    refine LWP.region (l := [_,_,_,_]) ?_
    refine LWo.move (e_int t5) rfl (hn := ?_)
    refine LWo.move (e_Llaws_Value t0) rfl (hn := ?_)
    refine LWo.lenM (f := e_laws_Value) (l := t0) u_Llaws_Value rfl (hn := ?_)
    refine LWo.int _ rfl rfl rfl (hn := ?_)
    refine LWo.nil (hN13 _ ?_)
    refine LWP.cond_split rfl (fun h14 => ?_) (fun h14 => ?_)
    ·have h := bT h14 h
     refine LWP.skip (hN12 _ ?_)
     refine LWP.seq_k fun N15 hN15 => ?_
     refine LWP.block ?_
     refine LWP.seq_k fun N16 hN16 => ?_
     refine LWP.region (l := [_,_,_,_,_,_,_]) ?_
     refine LWo.move (e_Llaws_Value t0) rfl (hn := ?_)
     refine LWo.move (e_int t5) rfl (hn := ?_)
     refine bk h fun x17 e17 h => ?_
     refine LWo.indexM (f := e_laws_Value) e17 u_Llaws_Value s_laws_Value rfl rfl (hn := ?_)
     refine LWo.loadN ((e_laws_Value x17)).cells g_laws_Value s_laws_Value rfl (Nat.le_of_ble_eq_true rfl) rfl (hn := ?_)
     refine LWo.move (e_int t1) rfl (hn := ?_)
     refine bk h fun x18 e18 h => ?_
     refine LWo.vcall rfl rfl (c_laws_szValue _ _ _ e18) (.same (.same (.nil))) (hn := ?_)
     refine LWo.assign (e_int x18) rfl (hn := ?_)
     refine LWo.nil (hN16 _ ?_)
     refine LWP.seq_k fun N19 hN19 => ?_
     refine LWP.region (l := [_,_]) ?_
     refine LWo.move (e_int x18) rfl (hn := ?_)
     refine LWo.int _ rfl rfl rfl (hn := ?_)
     refine LWo.nil (hN19 _ ?_)
     refine LWP.cond_split rfl (fun h20 => ?_) (fun h20 => ?_)
     ·have h := bT h20 h
      refine LWP.seq_k fun N21 hN21 => ?_
      refine LWP.region (l := [_]) ?_
      refine LWo.assign (e_int (-1 : Int)) rfl (hn := ?_)
      refine LWo.nil (hN21 _ ?_)
      obtain rfl := Option.some.inj h
      refine LWP.ret (QG.mk (.inr rfl) (.cons (.tmp (x := (e_int (-1 : Int))) rfl) (.nil)) (RetOK.one0 (.pure rfl) (by decide)) rfl rfl)
     ·have h := bF h20 h
      refine LWP.skip (hN15 _ ?_)
      refine LWP.region (l := [_,_,_]) ?_
      refine LWo.move (e_int t5) rfl (hn := ?_)
      refine bk h fun x22 e22 h => ?_
      refine LWo.int _ rfl rfl (add_ck e22) (hn := ?_)
      refine LWo.assign (e_int x22) rfl (hn := ?_)
      refine LWo.nil (hN10 (t0, x18, x22) _ ⟨rfl, rfl, rfl, trivial⟩ trivial h)
    ·have h := bF h14 h
     refine LWP.exit (hN8 t1 _ ⟨rfl, trivial⟩ trivial h)

def m_laws_szValueSS_j1 (t1 : Int) : Option Int :=
  some t1
def m_laws_szValueSS_l1 : Nat → (List (List S_laws_Value)) → Int → Int → Option Int
  | 0, _, _, _ => none
  | n1 + 1, t0, t1, t5 =>
    bif decide (t5 < (t0.length : Int)) then ((at? t0 t5).bind fun x17 =>
    (m_laws_szValueS x17 t1).bind fun x18 =>
    bif decide (x18 < (0 : Int)) then (some (-1 : Int))
    else ((ckI (t5 + (1 : Int))).bind fun x22 =>
    (m_laws_szValueSS_l1  n1) t0 x18 x22))
    else (m_laws_szValueSS_j1  t1)
def m_laws_szValueSS (a0 : (List (List S_laws_Value))) (a1 : Int) : Option Int :=
  (ckI (a1 - (a0.length : Int))).bind fun x3 =>
  bif decide (x3 < (0 : Int)) then (some (-1 : Int))
  else (m_laws_szValueSS_l1  (((a0.length : Int) - (0 : Int)).toNat + 1) a0 x3 (0 : Int))
theorem c_laws_szValueSS (a0 : (List (List S_laws_Value))) (a1 : Int) (r : Int) (h : m_laws_szValueSS a0 a1 = some r) : Ret Try.prog f_laws_szValueSS [e_LLlaws_Value a0, e_int a1] (e_int r) := by
  refine Does.goG [] F_laws_szValueSS rfl e_laws_szValueSS n_laws_szValueSS rfl (rvs := [.tmp 4]) rfl rfl ?_
  intro w0 ok0 lent ρ0
  refine LWP.seq_k fun N1 hN1 => ?_
  refine LWP.region (l := [_]) ?_
  refine LWo.assign (e_int (0 : Int)) rfl (hn := ?_)
  refine LWo.nil (hN1 _ ?_)
  refine LWP.seq_k fun N2 hN2 => ?_
  refine LWP.region (l := [_,_,_,_,_]) ?_
  refine LWo.move (e_int a1) rfl (hn := ?_)
  refine LWo.move (e_LLlaws_Value a0) rfl (hn := ?_)
  refine LWo.lenM (f := e_Llaws_Value) (l := a0) u_LLlaws_Value rfl (hn := ?_)
  refine bk h fun x3 e3 h => ?_
  refine LWo.int _ rfl rfl (sub_ck e3) (hn := ?_)
  refine LWo.assign (e_int x3) rfl (hn := ?_)
  refine LWo.nil (hN2 _ ?_)
  refine LWP.seq_k fun N4 hN4 => ?_
  refine LWP.seq_k fun N5 hN5 => ?_
  refine LWP.region (l := [_,_]) ?_
  refine LWo.move (e_int x3) rfl (hn := ?_)
  refine LWo.int _ rfl rfl rfl (hn := ?_)
  refine LWo.nil (hN5 _ ?_)
  refine LWP.cond_split rfl (fun h6 => ?_) (fun h6 => ?_)
  ·have h := bT h6 h
   refine LWP.seq_k fun N7 hN7 => ?_
   refine LWP.region (l := [_]) ?_
   refine LWo.assign (e_int (-1 : Int)) rfl (hn := ?_)
   refine LWo.nil (hN7 _ ?_)
   obtain rfl := Option.some.inj h
   refine LWP.ret (QG.mk (.inr rfl) (.cons (.tmp (x := (e_int (-1 : Int))) rfl) (.nil)) (RetOK.one0 (.pure rfl) (by decide)) rfl rfl)
  ·have h := bF h6 h
   refine LWP.skip (hN4 _ ?_)
   refine LWP.join (α := Int) (fun z : Int => [(1, (e_int z))]) (fun z : Int => []) (fun z : Int => m_laws_szValueSS_j1  z) r (fun _ => by simp [hkeys]) ?_ ?_
   ·rintro t1 h
    replace h : m_laws_szValueSS_j1  t1 = some _ := h
    refine LWP.seq_k fun N23 hN23 => ?_
    refine LWP.region (l := [_,_]) ?_
    refine LWo.move (e_int t1) rfl (hn := ?_)
    refine LWo.assign (e_int t1) rfl (hn := ?_)
    refine LWo.nil (hN23 _ ?_)
    obtain rfl := Option.some.inj h
    refine LWP.ret (QG.mk (.inr rfl) (.cons (.tmp (x := (e_int t1)) rfl) (.nil)) (RetOK.one0 (.pure rfl) (by decide)) rfl rfl)
   ·intro N8 hN8
    refine LWP.seq_k fun N9 hN9 => ?_
    refine LWP.region (l := [_]) ?_
    refine LWo.assign (e_int (0 : Int)) rfl (hn := ?_)
    refine LWo.nil (hN9 _ ?_)
    refine LWP.block ?_
    refine LWP.loopM (α := (List (List S_laws_Value)) × Int × Int) (fun z : (List (List S_laws_Value)) × Int × Int => [(0, (e_LLlaws_Value z.1)), (1, (e_int z.2.1)), (5, (e_int z.2.2))]) (fun z : (List (List S_laws_Value)) × Int × Int => []) (fun n1 (z : (List (List S_laws_Value)) × Int × Int) => m_laws_szValueSS_l1  n1 z.1 z.2.1 z.2.2) r _ (a0, x3, (0 : Int)) h (fun _ => rfl) (fun _ => by simp [hkeys]) ⟨rfl, rfl, rfl, trivial⟩ trivial ?_
    rintro n1 ⟨t0, t1, t5⟩ h N10 hN10
    replace h : m_laws_szValueSS_l1  (n1 + 1) t0 t1 t5 = some _ := h
    refine LWP.seq_k fun N12 hN12 => ?_
    refine LWP.seq_k fun N13 hN13 => ?_
    refine LWP.region (l := [_,_,_,_]) ?_
    refine LWo.move (e_int t5) rfl (hn := ?_)
    refine LWo.move (e_LLlaws_Value t0) rfl (hn := ?_)
    refine LWo.lenM (f := e_Llaws_Value) (l := t0) u_LLlaws_Value rfl (hn := ?_)
    refine LWo.int _ rfl rfl rfl (hn := ?_)
    refine LWo.nil (hN13 _ ?_)
    refine LWP.cond_split rfl (fun h14 => ?_) (fun h14 => ?_)
    ·have h := bT h14 h
     refine LWP.skip (hN12 _ ?_)
     refine LWP.seq_k fun N15 hN15 => ?_
     refine LWP.block ?_
     refine LWP.seq_k fun N16 hN16 => ?_
     refine LWP.region (l := [_,_,_,_,_,_,_]) ?_
     refine LWo.move (e_LLlaws_Value t0) rfl (hn := ?_)
     refine LWo.move (e_int t5) rfl (hn := ?_)
     refine bk h fun x17 e17 h => ?_
     refine LWo.indexM (f := e_Llaws_Value) e17 u_LLlaws_Value s_Llaws_Value rfl rfl (hn := ?_)
     refine LWo.load1 (c := (e_Llaws_Value x17)) g_Llaws_Value rfl (hn := ?_)
     refine LWo.move (e_int t1) rfl (hn := ?_)
     refine bk h fun x18 e18 h => ?_
     refine LWo.vcall rfl rfl (c_laws_szValueS _ _ _ e18) (.same (.same (.nil))) (hn := ?_)
     refine LWo.assign (e_int x18) rfl (hn := ?_)
     refine LWo.nil (hN16 _ ?_)
     refine LWP.seq_k fun N19 hN19 => ?_
     refine LWP.region (l := [_,_]) ?_
     refine LWo.move (e_int x18) rfl (hn := ?_)
     refine LWo.int _ rfl rfl rfl (hn := ?_)
     refine LWo.nil (hN19 _ ?_)
     refine LWP.cond_split rfl (fun h20 => ?_) (fun h20 => ?_)
     ·have h := bT h20 h
      refine LWP.seq_k fun N21 hN21 => ?_
      refine LWP.region (l := [_]) ?_
      refine LWo.assign (e_int (-1 : Int)) rfl (hn := ?_)
      refine LWo.nil (hN21 _ ?_)
      obtain rfl := Option.some.inj h
      refine LWP.ret (QG.mk (.inr rfl) (.cons (.tmp (x := (e_int (-1 : Int))) rfl) (.nil)) (RetOK.one0 (.pure rfl) (by decide)) rfl rfl)
     ·have h := bF h20 h
      refine LWP.skip (hN15 _ ?_)
      refine LWP.region (l := [_,_,_]) ?_
      refine LWo.move (e_int t5) rfl (hn := ?_)
      refine bk h fun x22 e22 h => ?_
      refine LWo.int _ rfl rfl (add_ck e22) (hn := ?_)
      refine LWo.assign (e_int x22) rfl (hn := ?_)
      refine LWo.nil (hN10 (t0, x18, x22) _ ⟨rfl, rfl, rfl, trivial⟩ trivial h)
    ·have h := bF h14 h
     refine LWP.exit (hN8 t1 _ ⟨rfl, trivial⟩ trivial h)

def m_laws_szDelta (a0 : S_laws_Delta) (a1 : Int) : Option Int :=
  (m_laws_szValueS a0.Row a1).bind fun x3 =>
  bif decide (x3 < (0 : Int)) then (some (-1 : Int))
  else (some x3)
theorem c_laws_szDelta (a0 : S_laws_Delta) (a1 : Int) (r : Int) (h : m_laws_szDelta a0 a1 = some r) : Ret Try.prog f_laws_szDelta [e_laws_Delta a0, e_int a1] (e_int r) := by
  refine Does.goG [] F_laws_szDelta rfl e_laws_szDelta n_laws_szDelta rfl (rvs := [.tmp 4]) rfl rfl ?_
  intro w0 ok0 lent ρ0
  refine LWP.seq_k fun N1 hN1 => ?_
  refine LWP.region (l := [_,_]) ?_
  refine LWo.boxF (e_laws_Delta a0) rfl rfl rfl (hn := ?_)
  refine LWo.assign (e_int (0 : Int)) rfl (hn := ?_)
  refine LWo.nil (hN1 _ ?_)
  refine LWP.seq_k fun N2 hN2 => ?_
  refine LWP.region (l := [_,_,_,_,_]) ?_
  refine LWo.fieldAddr _ u_laws_Delta rfl s_Llaws_Value rfl rfl (hn := ?_)
  refine LWo.load1 (c := (e_Llaws_Value a0.Row)) g_Llaws_Value rfl (hn := ?_)
  refine LWo.move (e_int a1) rfl (hn := ?_)
  refine bk h fun x3 e3 h => ?_
  refine LWo.vcall rfl rfl (c_laws_szValueS _ _ _ e3) (.same (.same (.nil))) (hn := ?_)
  refine LWo.assign (e_int x3) rfl (hn := ?_)
  refine LWo.nil (hN2 _ ?_)
  refine LWP.seq_k fun N4 hN4 => ?_
  refine LWP.seq_k fun N5 hN5 => ?_
  refine LWP.region (l := [_,_]) ?_
  refine LWo.move (e_int x3) rfl (hn := ?_)
  refine LWo.int _ rfl rfl rfl (hn := ?_)
  refine LWo.nil (hN5 _ ?_)
  refine LWP.cond_split rfl (fun h6 => ?_) (fun h6 => ?_)
  ·have h := bT h6 h
   refine LWP.seq_k fun N7 hN7 => ?_
   refine LWP.region (l := [_]) ?_
   refine LWo.assign (e_int (-1 : Int)) rfl (hn := ?_)
   refine LWo.nil (hN7 _ ?_)
   obtain rfl := Option.some.inj h
   refine LWP.ret (QG.mk (.inr rfl) (.cons (.tmp (x := (e_int (-1 : Int))) rfl) (.nil)) (RetOK.one0 (.pure rfl) (by decide)) rfl rfl)
  ·have h := bF h6 h
   refine LWP.skip (hN4 _ ?_)
   refine LWP.seq_k fun N8 hN8 => ?_
   refine LWP.region (l := [_,_]) ?_
   refine LWo.move (e_int x3) rfl (hn := ?_)
   refine LWo.assign (e_int x3) rfl (hn := ?_)
   refine LWo.nil (hN8 _ ?_)
   obtain rfl := Option.some.inj h
   refine LWP.ret (QG.mk (.inr rfl) (.cons (.tmp (x := (e_int x3)) rfl) (.nil)) (RetOK.one0 (.pure rfl) (by decide)) rfl rfl)

def m_laws_szDeltaS_j1 (t1 : Int) : Option Int :=
  some t1
def m_laws_szDeltaS_l1 : Nat → (List S_laws_Delta) → Int → Int → Option Int
  | 0, _, _, _ => none
  | n1 + 1, t0, t1, t5 =>
    bif decide (t5 < (t0.length : Int)) then ((at? t0 t5).bind fun x17 =>
    (m_laws_szDelta x17 t1).bind fun x18 =>
    bif decide (x18 < (0 : Int)) then (some (-1 : Int))
    else ((ckI (t5 + (1 : Int))).bind fun x22 =>
    (m_laws_szDeltaS_l1  n1) t0 x18 x22))
    else (m_laws_szDeltaS_j1  t1)
def m_laws_szDeltaS (a0 : (List S_laws_Delta)) (a1 : Int) : Option Int :=
  (ckI (a1 - (a0.length : Int))).bind fun x3 =>
  bif decide (x3 < (0 : Int)) then (some (-1 : Int))
  else (m_laws_szDeltaS_l1  (((a0.length : Int) - (0 : Int)).toNat + 1) a0 x3 (0 : Int))
theorem c_laws_szDeltaS (a0 : (List S_laws_Delta)) (a1 : Int) (r : Int) (h : m_laws_szDeltaS a0 a1 = some r) : Ret Try.prog f_laws_szDeltaS [e_Llaws_Delta a0, e_int a1] (e_int r) := by
  refine Does.goG [] F_laws_szDeltaS rfl e_laws_szDeltaS n_laws_szDeltaS rfl (rvs := [.tmp 4]) rfl rfl ?_
  intro w0 ok0 lent ρ0
  refine LWP.seq_k fun N1 hN1 => ?_
  refine LWP.region (l := [_]) ?_
  refine LWo.assign (e_int (0 : Int)) rfl (hn := ?_)
  refine LWo.nil (hN1 _ ?_)
  refine LWP.seq_k fun N2 hN2 => ?_
  refine LWP.region (l := [_,_,_,_,_]) ?_
  refine LWo.move (e_int a1) rfl (hn := ?_)
  refine LWo.move (e_Llaws_Delta a0) rfl (hn := ?_)
  refine LWo.lenM (f := e_laws_Delta) (l := a0) u_Llaws_Delta rfl (hn := ?_)
  refine bk h fun x3 e3 h => ?_
  refine LWo.int _ rfl rfl (sub_ck e3) (hn := ?_)
  refine LWo.assign (e_int x3) rfl (hn := ?_)
  refine LWo.nil (hN2 _ ?_)
  refine LWP.seq_k fun N4 hN4 => ?_
  refine LWP.seq_k fun N5 hN5 => ?_
  refine LWP.region (l := [_,_]) ?_
  refine LWo.move (e_int x3) rfl (hn := ?_)
  refine LWo.int _ rfl rfl rfl (hn := ?_)
  refine LWo.nil (hN5 _ ?_)
  refine LWP.cond_split rfl (fun h6 => ?_) (fun h6 => ?_)
  ·have h := bT h6 h
   refine LWP.seq_k fun N7 hN7 => ?_
   refine LWP.region (l := [_]) ?_
   refine LWo.assign (e_int (-1 : Int)) rfl (hn := ?_)
   refine LWo.nil (hN7 _ ?_)
   obtain rfl := Option.some.inj h
   refine LWP.ret (QG.mk (.inr rfl) (.cons (.tmp (x := (e_int (-1 : Int))) rfl) (.nil)) (RetOK.one0 (.pure rfl) (by decide)) rfl rfl)
  ·have h := bF h6 h
   refine LWP.skip (hN4 _ ?_)
   refine LWP.join (α := Int) (fun z : Int => [(1, (e_int z))]) (fun z : Int => []) (fun z : Int => m_laws_szDeltaS_j1  z) r (fun _ => by simp [hkeys]) ?_ ?_
   ·rintro t1 h
    replace h : m_laws_szDeltaS_j1  t1 = some _ := h
    refine LWP.seq_k fun N23 hN23 => ?_
    refine LWP.region (l := [_,_]) ?_
    refine LWo.move (e_int t1) rfl (hn := ?_)
    refine LWo.assign (e_int t1) rfl (hn := ?_)
    refine LWo.nil (hN23 _ ?_)
    obtain rfl := Option.some.inj h
    refine LWP.ret (QG.mk (.inr rfl) (.cons (.tmp (x := (e_int t1)) rfl) (.nil)) (RetOK.one0 (.pure rfl) (by decide)) rfl rfl)
   ·intro N8 hN8
    refine LWP.seq_k fun N9 hN9 => ?_
    refine LWP.region (l := [_]) ?_
    refine LWo.assign (e_int (0 : Int)) rfl (hn := ?_)
    refine LWo.nil (hN9 _ ?_)
    refine LWP.block ?_
    refine LWP.loopM (α := (List S_laws_Delta) × Int × Int) (fun z : (List S_laws_Delta) × Int × Int => [(0, (e_Llaws_Delta z.1)), (1, (e_int z.2.1)), (5, (e_int z.2.2))]) (fun z : (List S_laws_Delta) × Int × Int => []) (fun n1 (z : (List S_laws_Delta) × Int × Int) => m_laws_szDeltaS_l1  n1 z.1 z.2.1 z.2.2) r _ (a0, x3, (0 : Int)) h (fun _ => rfl) (fun _ => by simp [hkeys]) ⟨rfl, rfl, rfl, trivial⟩ trivial ?_
    rintro n1 ⟨t0, t1, t5⟩ h N10 hN10
    replace h : m_laws_szDeltaS_l1  (n1 + 1) t0 t1 t5 = some _ := h
    refine LWP.seq_k fun N12 hN12 => ?_
    refine LWP.seq_k fun N13 hN13 => ?_
    refine LWP.region (l := [_,_,_,_]) ?_
    refine LWo.move (e_int t5) rfl (hn := ?_)
    refine LWo.move (e_Llaws_Delta t0) rfl (hn := ?_)
    refine LWo.lenM (f := e_laws_Delta) (l := t0) u_Llaws_Delta rfl (hn := ?_)
    refine LWo.int _ rfl rfl rfl (hn := ?_)
    refine LWo.nil (hN13 _ ?_)
    refine LWP.cond_split rfl (fun h14 => ?_) (fun h14 => ?_)
    ·have h := bT h14 h
     refine LWP.skip (hN12 _ ?_)
     refine LWP.seq_k fun N15 hN15 => ?_
     refine LWP.block ?_
     refine LWP.seq_k fun N16 hN16 => ?_
     refine LWP.region (l := [_,_,_,_,_,_,_]) ?_
     refine LWo.move (e_Llaws_Delta t0) rfl (hn := ?_)
     refine LWo.move (e_int t5) rfl (hn := ?_)
     refine bk h fun x17 e17 h => ?_
     refine LWo.indexM (f := e_laws_Delta) e17 u_Llaws_Delta s_laws_Delta rfl rfl (hn := ?_)
     refine LWo.loadN ((e_laws_Delta x17)).cells g_laws_Delta s_laws_Delta rfl (Nat.le_of_ble_eq_true rfl) rfl (hn := ?_)
     refine LWo.move (e_int t1) rfl (hn := ?_)
     refine bk h fun x18 e18 h => ?_
     refine LWo.vcall rfl rfl (c_laws_szDelta _ _ _ e18) (.same (.same (.nil))) (hn := ?_)
     refine LWo.assign (e_int x18) rfl (hn := ?_)
     refine LWo.nil (hN16 _ ?_)
     refine LWP.seq_k fun N19 hN19 => ?_
     refine LWP.region (l := [_,_]) ?_
     refine LWo.move (e_int x18) rfl (hn := ?_)
     refine LWo.int _ rfl rfl rfl (hn := ?_)
     refine LWo.nil (hN19 _ ?_)
     refine LWP.cond_split rfl (fun h20 => ?_) (fun h20 => ?_)
     ·have h := bT h20 h
      refine LWP.seq_k fun N21 hN21 => ?_
      refine LWP.region (l := [_]) ?_
      refine LWo.assign (e_int (-1 : Int)) rfl (hn := ?_)
      refine LWo.nil (hN21 _ ?_)
      obtain rfl := Option.some.inj h
      refine LWP.ret (QG.mk (.inr rfl) (.cons (.tmp (x := (e_int (-1 : Int))) rfl) (.nil)) (RetOK.one0 (.pure rfl) (by decide)) rfl rfl)
     ·have h := bF h20 h
      refine LWP.skip (hN15 _ ?_)
      refine LWP.region (l := [_,_,_]) ?_
      refine LWo.move (e_int t5) rfl (hn := ?_)
      refine bk h fun x22 e22 h => ?_
      refine LWo.int _ rfl rfl (add_ck e22) (hn := ?_)
      refine LWo.assign (e_int x22) rfl (hn := ?_)
      refine LWo.nil (hN10 (t0, x18, x22) _ ⟨rfl, rfl, rfl, trivial⟩ trivial h)
    ·have h := bF h14 h
     refine LWP.exit (hN8 t1 _ ⟨rfl, trivial⟩ trivial h)

def m_laws_toValue (a0 : S_laws_Value) : Option S_impl_Value :=
  lt ({ (⟨(0 : Int), (0 : Int), (⟨#[]⟩ : ByteArray)⟩ : S_impl_Value) with Kind := a0.Kind }) fun y4 =>
  lt ({ y4 with N := a0.N }) fun y6 =>
  lt ({ y6 with S := a0.S }) fun y8 =>
  lt (y8) fun y10 =>
  some y10
theorem c_laws_toValue (a0 : S_laws_Value) (r : S_impl_Value) (h : m_laws_toValue a0 = some r) : Ret Try.prog f_laws_toValue [e_laws_Value a0] (e_impl_Value r) := by
  refine Does.goG [] F_laws_toValue rfl e_laws_toValue n_laws_toValue rfl (rvs := [.cell 2 t_impl_Value]) rfl rfl ?_
  intro w0 ok0 lent ρ0
  refine LWP.seq_k fun N1 hN1 => ?_
  refine LWP.region (l := [_,_]) ?_
  refine LWo.boxF (e_laws_Value a0) rfl rfl rfl (hn := ?_)
  refine LWo.alloc_impl_Value 2 rfl (hn := ?_)
  refine LWo.nil (hN1 _ ?_)
  refine LWP.seq_k fun N2 hN2 => ?_
  refine LWP.region (l := [_]) ?_
  refine LWo.alloc_impl_Value 3 rfl (hn := ?_)
  refine LWo.nil (hN2 _ ?_)
  refine LWP.seq_k fun N3 hN3 => ?_
  refine LWP.region (l := [_,_,_,_]) ?_
  refine LWo.fieldAddr _ u_laws_Value rfl s_int rfl rfl (hn := ?_)
  refine LWo.load1 (c := (e_int a0.Kind)) g_int rfl (hn := ?_)
  refine LWo.fieldPtr u_impl_Value rfl s_int rfl rfl (hn := ?_)
  refine lk h fun y4 e4 h => ?_
  refine LWo.storeW (y := (⟨(0 : Int), (0 : Int), (⟨#[]⟩ : ByteArray)⟩ : S_impl_Value)) y4 s_int rfl rfl rfl rfl rfl rfl (by rw [e4]; exact .refl) rfl (hn := ?_)
  refine LWo.nil (hN3 _ ?_)
  refine LWP.seq_k fun N5 hN5 => ?_
  refine LWP.region (l := [_,_,_,_]) ?_
  refine LWo.fieldAddr _ u_laws_Value rfl s_int rfl rfl (hn := ?_)
  refine LWo.load1 (c := (e_int a0.N)) g_int rfl (hn := ?_)
  refine LWo.fieldPtr u_impl_Value rfl s_int rfl rfl (hn := ?_)
  refine lk h fun y6 e6 h => ?_
  refine LWo.storeW (y := y4) y6 s_int rfl rfl rfl rfl rfl rfl (by rw [e6]; exact .refl) rfl (hn := ?_)
  refine LWo.nil (hN5 _ ?_)
  refine LWP.seq_k fun N7 hN7 => ?_
  refine LWP.region (l := [_,_,_,_]) ?_
  refine LWo.fieldAddr _ u_laws_Value rfl s_string rfl rfl (hn := ?_)
  refine LWo.load1 (c := (e_string a0.S)) g_string rfl (hn := ?_)
  refine LWo.fieldPtr u_impl_Value rfl s_string rfl rfl (hn := ?_)
  refine lk h fun y8 e8 h => ?_
  refine LWo.storeW (y := y6) y8 s_string rfl rfl rfl rfl rfl rfl (by rw [e8]; exact .refl) rfl (hn := ?_)
  refine LWo.nil (hN7 _ ?_)
  refine LWP.seq_k fun N9 hN9 => ?_
  refine LWP.region (l := [_,_]) ?_
  refine LWo.loadVN ((e_impl_Value y8)).cells  g_impl_Value s_impl_Value rfl rfl rfl rfl (hn := ?_)
  refine lk h fun y10 e10 h => ?_
  refine LWo.storeW (y := (⟨(0 : Int), (0 : Int), (⟨#[]⟩ : ByteArray)⟩ : S_impl_Value)) y10 s_impl_Value rfl rfl rfl rfl rfl rfl (by rw [e10]; exact .refl) rfl (hn := ?_)
  refine LWo.nil (hN9 _ ?_)
  obtain rfl := Option.some.inj h
  refine LWP.ret (QG.mk (.inr rfl) (.cons (.cellN (ys := (e_impl_Value y10).cells) g_impl_Value s_impl_Value rfl rfl rfl rfl rfl (fun _ _ => rfl)) (.nil)) (RetOK.one0 (.pure rfl) (by decide)) rfl rfl)

def m_laws_toValueS_j1 (o1007 : (List S_impl_Value)) : Option (List S_impl_Value) :=
  some o1007
def m_laws_toValueS_l1 : Nat → (List S_laws_Value) → Int → (List S_impl_Value) → Option (List S_impl_Value)
  | 0, _, _, _ => none
  | n1 + 1, t0, t4, o1007 =>
    bif decide (t4 < (t0.length : Int)) then ((at? t0 t4).bind fun x12 =>
    (m_laws_toValue x12).bind fun x13 =>
    (at? o1007 t4).bind fun x14 =>
    (at? o1007 t4).bind fun x15 =>
    lt (x13) fun y16 =>
    (ckI (t4 + (1 : Int))).bind fun x17 =>
    (m_laws_toValueS_l1  n1) t0 x17 (o1007.set (t4).toNat y16))
    else (m_laws_toValueS_j1  o1007)
def m_laws_toValueS (a0 : (List S_laws_Value)) : Option (List S_impl_Value) :=
  (mk2? (a0.length : Int) (a0.length : Int) ((⟨(0 : Int), (0 : Int), (⟨#[]⟩ : ByteArray)⟩ : S_impl_Value) : S_impl_Value)).bind fun x3 =>
  m_laws_toValueS_l1  (((a0.length : Int) - (0 : Int)).toNat + 1) a0 (0 : Int) x3
theorem c_laws_toValueS (a0 : (List S_laws_Value)) (r : (List S_impl_Value)) (h : m_laws_toValueS a0 = some r) : Ret Try.prog f_laws_toValueS [e_Llaws_Value a0] (.nw 3 (r.map e_impl_Value) false) := by
  refine Does.goG [] F_laws_toValueS rfl e_laws_toValueS n_laws_toValueS rfl (rvs := [.tmp 2]) rfl rfl ?_
  intro w0 ok0 lent ρ0
  refine LWP.seq_k fun N1 hN1 => ?_
  refine LWP.region (l := [_]) ?_
  refine LWo.assign _ rfl (hn := ?_)
  refine LWo.ownNil 2 1002 3 rfl rfl rfl ?_
  refine LWo.known 2 (.own 1002 0 ([] : (List S_impl_Value)).length) rfl ?_
  refine LWo.nil (hN1 _ ?_)
  refine LWP.seq_k fun N2 hN2 => ?_
  refine LWP.region (l := [_,_,_,_]) ?_
  refine LWo.move (e_Llaws_Value a0) rfl (hn := ?_)
  refine LWo.lenM (f := e_laws_Value) (l := a0) u_Llaws_Value rfl (hn := ?_)
  refine bk h fun x3 e3 h => ?_
  refine LWo.make_impl_Value 1007 e3 u_Limpl_Value i_impl_Value rfl rfl rfl (hn := ?_)
  refine LWo.assign (.own 1007 0 (x3).length) rfl (hn := ?_)
  refine LWo.nil (hN2 _ ?_)
  refine LWP.join (α := (List S_impl_Value)) (fun z : (List S_impl_Value) => [(3, (.own 1007 0 (z).length))]) (fun z : (List S_impl_Value) => [(1007, (lob 3 e_impl_Value z))]) (fun z : (List S_impl_Value) => m_laws_toValueS_j1  z) r (fun _ => by simp [hkeys]) ?_ ?_
  ·rintro o1007 h
   replace h : m_laws_toValueS_j1  o1007 = some _ := h
   refine LWP.seq_k fun N18 hN18 => ?_
   refine LWP.region (l := [_,_]) ?_
   refine LWo.move (.own 1007 0 (o1007).length) rfl (hn := ?_)
   refine LWo.assign (.own 1007 0 (o1007).length) rfl (hn := ?_)
   refine LWo.nil (hN18 _ ?_)
   obtain rfl := Option.some.inj h
   refine LWP.ret (QG.mk (.inr rfl) (.cons (.tmp (x := (.own 1007 0 (o1007).length)) rfl) (.nil)) (RetOK.one0 (.nwM rfl rfl) (by decide)) rfl rfl)
  ·intro N4 hN4
   refine LWP.seq_k fun N5 hN5 => ?_
   refine LWP.region (l := [_]) ?_
   refine LWo.assign (e_int (0 : Int)) rfl (hn := ?_)
   refine LWo.nil (hN5 _ ?_)
   refine LWP.block ?_
   refine LWP.loopM (α := (List S_laws_Value) × Int × (List S_impl_Value)) (fun z : (List S_laws_Value) × Int × (List S_impl_Value) => [(0, (e_Llaws_Value z.1)), (3, (.own 1007 0 (z.2.2).length)), (4, (e_int z.2.1))]) (fun z : (List S_laws_Value) × Int × (List S_impl_Value) => [(1007, (lob 3 e_impl_Value z.2.2))]) (fun n1 (z : (List S_laws_Value) × Int × (List S_impl_Value)) => m_laws_toValueS_l1  n1 z.1 z.2.1 z.2.2) r _ (a0, (0 : Int), x3) h (fun _ => rfl) (fun _ => by simp [hkeys]) ⟨rfl, rfl, rfl, trivial⟩ ⟨rfl, trivial⟩ ?_
   rintro n1 ⟨t0, t4, o1007⟩ h N6 hN6
   replace h : m_laws_toValueS_l1  (n1 + 1) t0 t4 o1007 = some _ := h
   refine LWP.seq_k fun N8 hN8 => ?_
   refine LWP.seq_k fun N9 hN9 => ?_
   refine LWP.region (l := [_,_,_,_]) ?_
   refine LWo.move (e_int t4) rfl (hn := ?_)
   refine LWo.move (e_Llaws_Value t0) rfl (hn := ?_)
   refine LWo.lenM (f := e_laws_Value) (l := t0) u_Llaws_Value rfl (hn := ?_)
   refine LWo.int _ rfl rfl rfl (hn := ?_)
   refine LWo.nil (hN9 _ ?_)
   refine LWP.cond_split rfl (fun h10 => ?_) (fun h10 => ?_)
   ·have h := bT h10 h
    refine LWP.skip (hN8 _ ?_)
    refine LWP.seq_k fun N11 hN11 => ?_
    refine LWP.block ?_
    refine LWP.region (l := [_,_,_,_,_,_,_,_,_]) ?_
    refine LWo.move (.own 1007 0 (o1007).length) rfl (hn := ?_)
    refine LWo.move (e_int t4) rfl (hn := ?_)
    refine LWo.move (e_Llaws_Value t0) rfl (hn := ?_)
    refine LWo.move (e_int t4) rfl (hn := ?_)
    refine bk h fun x12 e12 h => ?_
    refine LWo.indexM (f := e_laws_Value) e12 u_Llaws_Value s_laws_Value rfl rfl (hn := ?_)
    refine LWo.loadN ((e_laws_Value x12)).cells g_laws_Value s_laws_Value rfl (Nat.le_of_ble_eq_true rfl) rfl (hn := ?_)
    refine bk h fun x13 e13 h => ?_
    refine LWo.vcall rfl rfl (c_laws_toValue _ _ e13) (.same (.nil)) (hn := ?_)
    refine bk h fun x14 e14 h => ?_
    refine LWo.indexO e14 rfl u_Limpl_Value s_impl_Value rfl rfl rfl (hn := ?_)
    refine bk h fun x15 e15 h => ?_
    refine lk h fun y16 e16 h => ?_
    refine LWo.storeO y16 e15 s_impl_Value rfl rfl rfl rfl rfl rfl rfl (by rw [e16]; rfl) (hn := ?_)
    refine LWo.nil (hN11 _ ?_)
    refine LWP.region (l := [_,_,_]) ?_
    refine LWo.move (e_int t4) rfl (hn := ?_)
    refine bk h fun x17 e17 h => ?_
    refine LWo.int _ rfl rfl (add_ck e17) (hn := ?_)
    refine LWo.assign (e_int x17) rfl (hn := ?_)
    refine LWo.nil (hN6 (t0, x17, (o1007.set (t4).toNat y16)) _ ⟨rfl, (congrArg (LV.own 1007 0) List.length_set.symm), rfl, trivial⟩ ⟨rfl, trivial⟩ h)
   ·have h := bF h10 h
    refine LWP.exit (hN4 o1007 _ ⟨rfl, trivial⟩ ⟨rfl, trivial⟩ h)

def m_laws_toValueSS_j1 (o1007 : (List (List S_impl_Value))) : Option (List (List S_impl_Value)) :=
  some o1007
def m_laws_toValueSS_l1 : Nat → (List (List S_laws_Value)) → Int → (List (List S_impl_Value)) → Option (List (List S_impl_Value))
  | 0, _, _, _ => none
  | n1 + 1, t0, t4, o1007 =>
    bif decide (t4 < (t0.length : Int)) then ((at? t0 t4).bind fun x12 =>
    (m_laws_toValueS x12).bind fun x13 =>
    (at? o1007 t4).bind fun x14 =>
    (at? o1007 t4).bind fun x15 =>
    (ckI (t4 + (1 : Int))).bind fun x16 =>
    (m_laws_toValueSS_l1  n1) t0 x16 (o1007.set (t4).toNat x13))
    else (m_laws_toValueSS_j1  o1007)
def m_laws_toValueSS (a0 : (List (List S_laws_Value))) : Option (List (List S_impl_Value)) :=
  (mk2? (a0.length : Int) (a0.length : Int) ([] : (List S_impl_Value))).bind fun x3 =>
  m_laws_toValueSS_l1  (((a0.length : Int) - (0 : Int)).toNat + 1) a0 (0 : Int) x3
theorem c_laws_toValueSS (a0 : (List (List S_laws_Value))) (r : (List (List S_impl_Value))) (h : m_laws_toValueSS a0 = some r) : Ret Try.prog f_laws_toValueSS [e_LLlaws_Value a0] (.nw 1 (r.map e_Limpl_Value) true) := by
  refine Does.goG [] F_laws_toValueSS rfl e_laws_toValueSS n_laws_toValueSS rfl (rvs := [.tmp 2]) rfl rfl ?_
  intro w0 ok0 lent ρ0
  refine LWP.seq_k fun N1 hN1 => ?_
  refine LWP.region (l := [_]) ?_
  refine LWo.assign _ rfl (hn := ?_)
  refine LWo.ownNil 2 1002 1 rfl rfl rfl ?_
  refine LWo.deep0 (sz := 1) e_Limpl_Value 1002 rfl ?_
  refine LWo.known 2 (.own 1002 0 ([] : (List (List S_impl_Value))).length) rfl ?_
  refine LWo.nil (hN1 _ ?_)
  refine LWP.seq_k fun N2 hN2 => ?_
  refine LWP.region (l := [_,_,_,_]) ?_
  refine LWo.move (e_LLlaws_Value a0) rfl (hn := ?_)
  refine LWo.lenM (f := e_Llaws_Value) (l := a0) u_LLlaws_Value rfl (hn := ?_)
  refine bk h fun x3 e3 h => ?_
  refine LWo.makeD_Limpl_Value 1007 e3 u_LLimpl_Value i_Limpl_Value rfl rfl rfl (hn := ?_)
  refine LWo.assign (.own 1007 0 (x3).length) rfl (hn := ?_)
  refine LWo.nil (hN2 _ ?_)
  refine LWP.join (α := (List (List S_impl_Value))) (fun z : (List (List S_impl_Value)) => [(3, (.own 1007 0 (z).length))]) (fun z : (List (List S_impl_Value)) => [(1007, (dob 1 e_Limpl_Value z))]) (fun z : (List (List S_impl_Value)) => m_laws_toValueSS_j1  z) r (fun _ => by simp [hkeys]) ?_ ?_
  ·rintro o1007 h
   replace h : m_laws_toValueSS_j1  o1007 = some _ := h
   refine LWP.seq_k fun N17 hN17 => ?_
   refine LWP.region (l := [_,_]) ?_
   refine LWo.move (.own 1007 0 (o1007).length) rfl (hn := ?_)
   refine LWo.assign (.own 1007 0 (o1007).length) rfl (hn := ?_)
   refine LWo.nil (hN17 _ ?_)
   obtain rfl := Option.some.inj h
   refine LWP.ret (QG.mk (.inr rfl) (.cons (.tmp (x := (.own 1007 0 (o1007).length)) rfl) (.nil)) (RetOK.one0 (.nwD rfl rfl) (by decide)) rfl rfl)
  ·intro N4 hN4
   refine LWP.seq_k fun N5 hN5 => ?_
   refine LWP.region (l := [_]) ?_
   refine LWo.assign (e_int (0 : Int)) rfl (hn := ?_)
   refine LWo.nil (hN5 _ ?_)
   refine LWP.block ?_
   refine LWP.loopM (α := (List (List S_laws_Value)) × Int × (List (List S_impl_Value))) (fun z : (List (List S_laws_Value)) × Int × (List (List S_impl_Value)) => [(0, (e_LLlaws_Value z.1)), (3, (.own 1007 0 (z.2.2).length)), (4, (e_int z.2.1))]) (fun z : (List (List S_laws_Value)) × Int × (List (List S_impl_Value)) => [(1007, (dob 1 e_Limpl_Value z.2.2))]) (fun n1 (z : (List (List S_laws_Value)) × Int × (List (List S_impl_Value))) => m_laws_toValueSS_l1  n1 z.1 z.2.1 z.2.2) r _ (a0, (0 : Int), x3) h (fun _ => rfl) (fun _ => by simp [hkeys]) ⟨rfl, rfl, rfl, trivial⟩ ⟨rfl, trivial⟩ ?_
   rintro n1 ⟨t0, t4, o1007⟩ h N6 hN6
   replace h : m_laws_toValueSS_l1  (n1 + 1) t0 t4 o1007 = some _ := h
   refine LWP.seq_k fun N8 hN8 => ?_
   refine LWP.seq_k fun N9 hN9 => ?_
   refine LWP.region (l := [_,_,_,_]) ?_
   refine LWo.move (e_int t4) rfl (hn := ?_)
   refine LWo.move (e_LLlaws_Value t0) rfl (hn := ?_)
   refine LWo.lenM (f := e_Llaws_Value) (l := t0) u_LLlaws_Value rfl (hn := ?_)
   refine LWo.int _ rfl rfl rfl (hn := ?_)
   refine LWo.nil (hN9 _ ?_)
   refine LWP.cond_split rfl (fun h10 => ?_) (fun h10 => ?_)
   ·have h := bT h10 h
    refine LWP.skip (hN8 _ ?_)
    refine LWP.seq_k fun N11 hN11 => ?_
    refine LWP.block ?_
    refine LWP.region (l := [_,_,_,_,_,_,_,_,_]) ?_
    refine LWo.move (.own 1007 0 (o1007).length) rfl (hn := ?_)
    refine LWo.move (e_int t4) rfl (hn := ?_)
    refine LWo.move (e_LLlaws_Value t0) rfl (hn := ?_)
    refine LWo.move (e_int t4) rfl (hn := ?_)
    refine bk h fun x12 e12 h => ?_
    refine LWo.indexM (f := e_Llaws_Value) e12 u_LLlaws_Value s_Llaws_Value rfl rfl (hn := ?_)
    refine LWo.load1 (c := (e_Llaws_Value x12)) g_Llaws_Value rfl (hn := ?_)
    refine bk h fun x13 e13 h => ?_
    refine LWo.ncall (e := e_impl_Value) 1020 rfl rfl (c_laws_toValueS _ _ e13) (.same (.nil)) rfl (hn := ?_)
    refine bk h fun x14 e14 h => ?_
    refine LWo.indexD e14 rfl u_LLimpl_Value s_Limpl_Value rfl rfl rfl (hn := ?_)
    refine bk h fun x15 e15 h => ?_
    refine LWo.storeDM (ks := [1020]) (f := e_Limpl_Value) (x13 : (List S_impl_Value)) e15 s_Limpl_Value rfl rfl rfl rfl (.cons (.own (obj := (lob 3 e_impl_Value x13)) rfl rfl (.inl ⟨rfl, immL_map (e := e_impl_Value) (fun _ => rfl) _⟩) (List.length_map _).symm) .nil) (by decide) rfl rfl rfl (hn := ?_)
    refine LWo.nil (hN11 _ ?_)
    refine LWP.region (l := [_,_,_]) ?_
    refine LWo.move (e_int t4) rfl (hn := ?_)
    refine bk h fun x16 e16 h => ?_
    refine LWo.int _ rfl rfl (add_ck e16) (hn := ?_)
    refine LWo.assign (e_int x16) rfl (hn := ?_)
    refine LWo.nil (hN6 (t0, x16, (o1007.set (t4).toNat x13)) _ ⟨rfl, (congrArg (LV.own 1007 0) List.length_set.symm), rfl, trivial⟩ ⟨rfl, trivial⟩ h)
   ·have h := bF h10 h
    refine LWP.exit (hN4 o1007 _ ⟨rfl, trivial⟩ ⟨rfl, trivial⟩ h)

def m_laws_toDelta (a0 : S_laws_Delta) : Option S_impl_Delta :=
  (m_laws_toValueS a0.Row).bind fun x4 =>
  lt ({ (⟨[], (0 : Int)⟩ : S_impl_Delta) with Many := a0.Many }) fun y6 =>
  lt (y6) fun y8 =>
  some ({ y8 with Row := x4 } : S_impl_Delta)
theorem c_laws_toDelta (a0 : S_laws_Delta) (r : S_impl_Delta) (h : m_laws_toDelta a0 = some r) : Ret Try.prog f_laws_toDelta [e_laws_Delta a0] (.dv (e_impl_Delta r).cells) := by
  refine Does.goG [] F_laws_toDelta rfl e_laws_toDelta n_laws_toDelta rfl (rvs := [.cell 2 t_impl_Delta]) rfl rfl ?_
  intro w0 ok0 lent ρ0
  refine LWP.seq_k fun N1 hN1 => ?_
  refine LWP.region (l := [_,_]) ?_
  refine LWo.boxF (e_laws_Delta a0) rfl rfl rfl (hn := ?_)
  refine LWo.allocX_impl_Delta [(0, .imm (.slice none 0 0))] 2 rfl rfl (hn := ?_)
  refine LWo.nilX 2 100100 0 3 [(0, .own 100100 0 (([] : (List S_impl_Value))).length)] rfl rfl rfl rfl rfl rfl ?_
  refine LWo.nil (hN1 _ ?_)
  refine LWP.seq_k fun N2 hN2 => ?_
  refine LWP.region (l := [_]) ?_
  refine LWo.allocX_impl_Delta [(0, .imm (.slice none 0 0))] 3 rfl rfl (hn := ?_)
  refine LWo.nilX 3 100150 0 3 [(0, .own 100150 0 (([] : (List S_impl_Value))).length)] rfl rfl rfl rfl rfl rfl ?_
  refine LWo.nil (hN2 _ ?_)
  refine LWP.seq_k fun N3 hN3 => ?_
  refine LWP.region (l := [_,_,_,_,_]) ?_
  refine LWo.fieldAddr _ u_laws_Delta rfl s_Llaws_Value rfl rfl (hn := ?_)
  refine LWo.load1 (c := (e_Llaws_Value a0.Row)) g_Llaws_Value rfl (hn := ?_)
  refine bk h fun x4 e4 h => ?_
  refine LWo.junkX 3 0 [(0, .junk)] rfl rfl rfl ?_
  refine LWo.ncall (e := e_impl_Value) 100150 rfl rfl (c_laws_toValueS _ _ e4) (.same (.nil)) rfl (hn := ?_)
  refine LWo.fieldPtr u_impl_Delta rfl s_Limpl_Value rfl rfl (hn := ?_)
  refine LWo.storeX (f := e_impl_Delta) (y := (⟨[], (0 : Int)⟩ : S_impl_Delta)) (⟨[], (0 : Int)⟩ : S_impl_Delta) [(0, .own 100150 0 (x4).length)] s_Limpl_Value rfl rfl rfl rfl rfl rfl rfl (hn := ?_)
  refine LWo.nil (hN3 _ ?_)
  refine LWP.seq_k fun N5 hN5 => ?_
  refine LWP.region (l := [_,_,_,_]) ?_
  refine LWo.fieldAddr _ u_laws_Delta rfl s_int rfl rfl (hn := ?_)
  refine LWo.load1 (c := (e_int a0.Many)) g_int rfl (hn := ?_)
  refine LWo.fieldPtr u_impl_Delta rfl s_int rfl rfl (hn := ?_)
  refine lk h fun y6 e6 h => ?_
  refine LWo.storeX (f := e_impl_Delta) (y := (⟨[], (0 : Int)⟩ : S_impl_Delta)) y6 [(0, .own 100150 0 (x4).length)] s_int rfl rfl rfl rfl rfl rfl (by rw [e6]; rfl) (hn := ?_)
  refine LWo.nil (hN5 _ ?_)
  refine LWP.seq_k fun N7 hN7 => ?_
  refine LWP.region (l := [_,_]) ?_
  refine LWo.loadPtrN (ovr (e_impl_Delta y6).cells [(0, .own 100150 0 (x4).length)]) g_impl_Delta s_impl_Delta rfl rfl rfl rfl rfl (fun _ _ => rfl) (hn := ?_)
  refine LWo.junkX 3 0 [(0, .junk)] rfl rfl rfl ?_
  refine lk h fun y8 e8 h => ?_
  refine LWo.storeX (f := e_impl_Delta) (y := (⟨[], (0 : Int)⟩ : S_impl_Delta)) y8 [(0, .own 100150 0 (x4).length)] s_impl_Delta rfl rfl rfl rfl rfl rfl (by rw [e8]; rfl) (hn := ?_)
  refine LWo.nil (hN7 _ ?_)
  obtain rfl := Option.some.inj h
  refine LWP.ret (QG.mk (.inr rfl) (.cons (.cellN (ys := (ovr (e_impl_Delta y8).cells [(0, .own 100150 0 (x4).length)])) g_impl_Delta s_impl_Delta rfl rfl rfl rfl rfl (fun _ _ => rfl)) (.nil)) (RetOK.one0 (.dv (.cons (.own (obj := (lob 3 e_impl_Value x4)) rfl rfl (.inl ⟨rfl, immL_map (e := e_impl_Value) (fun _ => rfl) _⟩) (List.length_map _).symm) (.cons (.imm _) .nil))) (by decide)) rfl rfl)

def m_laws_toDeltaS_j1 (o1007 : (List S_impl_Delta)) : Option (List S_impl_Delta) :=
  some o1007
def m_laws_toDeltaS_l1 : Nat → (List S_laws_Delta) → Int → (List S_impl_Delta) → Option (List S_impl_Delta)
  | 0, _, _, _ => none
  | n1 + 1, t0, t4, o1007 =>
    bif decide (t4 < (t0.length : Int)) then ((at? t0 t4).bind fun x12 =>
    (m_laws_toDelta x12).bind fun x13 =>
    (at? o1007 t4).bind fun x14 =>
    (at? o1007 t4).bind fun x15 =>
    (ckI (t4 + (1 : Int))).bind fun x16 =>
    (m_laws_toDeltaS_l1  n1) t0 x16 (o1007.set (t4).toNat ({ x13 with Row := x13.Row })))
    else (m_laws_toDeltaS_j1  o1007)
def m_laws_toDeltaS (a0 : (List S_laws_Delta)) : Option (List S_impl_Delta) :=
  (mk2? (a0.length : Int) (a0.length : Int) ((⟨[], (0 : Int)⟩ : S_impl_Delta) : S_impl_Delta)).bind fun x3 =>
  m_laws_toDeltaS_l1  (((a0.length : Int) - (0 : Int)).toNat + 1) a0 (0 : Int) x3
theorem c_laws_toDeltaS (a0 : (List S_laws_Delta)) (r : (List S_impl_Delta)) (h : m_laws_toDeltaS a0 = some r) : Ret Try.prog f_laws_toDeltaS [e_Llaws_Delta a0] (.nw 2 (r.map e_impl_Delta) true) := by
  refine Does.goG [] F_laws_toDeltaS rfl e_laws_toDeltaS n_laws_toDeltaS rfl (rvs := [.tmp 2]) rfl rfl ?_
  intro w0 ok0 lent ρ0
  refine LWP.seq_k fun N1 hN1 => ?_
  refine LWP.region (l := [_]) ?_
  refine LWo.assign _ rfl (hn := ?_)
  refine LWo.ownNil 2 1002 2 rfl rfl rfl ?_
  refine LWo.deep0 (sz := 2) e_impl_Delta 1002 rfl ?_
  refine LWo.known 2 (.own 1002 0 ([] : (List S_impl_Delta)).length) rfl ?_
  refine LWo.nil (hN1 _ ?_)
  refine LWP.seq_k fun N2 hN2 => ?_
  refine LWP.region (l := [_,_,_,_]) ?_
  refine LWo.move (e_Llaws_Delta a0) rfl (hn := ?_)
  refine LWo.lenM (f := e_laws_Delta) (l := a0) u_Llaws_Delta rfl (hn := ?_)
  refine bk h fun x3 e3 h => ?_
  refine LWo.makeD_impl_Delta 1007 e3 u_Limpl_Delta i_impl_Delta rfl rfl rfl (hn := ?_)
  refine LWo.assign (.own 1007 0 (x3).length) rfl (hn := ?_)
  refine LWo.nil (hN2 _ ?_)
  refine LWP.join (α := (List S_impl_Delta)) (fun z : (List S_impl_Delta) => [(3, (.own 1007 0 (z).length))]) (fun z : (List S_impl_Delta) => [(1007, (dob 2 e_impl_Delta z))]) (fun z : (List S_impl_Delta) => m_laws_toDeltaS_j1  z) r (fun _ => by simp [hkeys]) ?_ ?_
  ·rintro o1007 h
   replace h : m_laws_toDeltaS_j1  o1007 = some _ := h
   refine LWP.seq_k fun N17 hN17 => ?_
   refine LWP.region (l := [_,_]) ?_
   refine LWo.move (.own 1007 0 (o1007).length) rfl (hn := ?_)
   refine LWo.assign (.own 1007 0 (o1007).length) rfl (hn := ?_)
   refine LWo.nil (hN17 _ ?_)
   obtain rfl := Option.some.inj h
   refine LWP.ret (QG.mk (.inr rfl) (.cons (.tmp (x := (.own 1007 0 (o1007).length)) rfl) (.nil)) (RetOK.one0 (.nwD rfl rfl) (by decide)) rfl rfl)
  ·intro N4 hN4
   refine LWP.seq_k fun N5 hN5 => ?_
   refine LWP.region (l := [_]) ?_
   refine LWo.assign (e_int (0 : Int)) rfl (hn := ?_)
   refine LWo.nil (hN5 _ ?_)
   refine LWP.block ?_
   refine LWP.loopM (α := (List S_laws_Delta) × Int × (List S_impl_Delta)) (fun z : (List S_laws_Delta) × Int × (List S_impl_Delta) => [(0, (e_Llaws_Delta z.1)), (3, (.own 1007 0 (z.2.2).length)), (4, (e_int z.2.1))]) (fun z : (List S_laws_Delta) × Int × (List S_impl_Delta) => [(1007, (dob 2 e_impl_Delta z.2.2))]) (fun n1 (z : (List S_laws_Delta) × Int × (List S_impl_Delta)) => m_laws_toDeltaS_l1  n1 z.1 z.2.1 z.2.2) r _ (a0, (0 : Int), x3) h (fun _ => rfl) (fun _ => by simp [hkeys]) ⟨rfl, rfl, rfl, trivial⟩ ⟨rfl, trivial⟩ ?_
   rintro n1 ⟨t0, t4, o1007⟩ h N6 hN6
   replace h : m_laws_toDeltaS_l1  (n1 + 1) t0 t4 o1007 = some _ := h
   refine LWP.seq_k fun N8 hN8 => ?_
   refine LWP.seq_k fun N9 hN9 => ?_
   refine LWP.region (l := [_,_,_,_]) ?_
   refine LWo.move (e_int t4) rfl (hn := ?_)
   refine LWo.move (e_Llaws_Delta t0) rfl (hn := ?_)
   refine LWo.lenM (f := e_laws_Delta) (l := t0) u_Llaws_Delta rfl (hn := ?_)
   refine LWo.int _ rfl rfl rfl (hn := ?_)
   refine LWo.nil (hN9 _ ?_)
   refine LWP.cond_split rfl (fun h10 => ?_) (fun h10 => ?_)
   ·have h := bT h10 h
    refine LWP.skip (hN8 _ ?_)
    refine LWP.seq_k fun N11 hN11 => ?_
    refine LWP.block ?_
    refine LWP.region (l := [_,_,_,_,_,_,_,_,_]) ?_
    refine LWo.move (.own 1007 0 (o1007).length) rfl (hn := ?_)
    refine LWo.move (e_int t4) rfl (hn := ?_)
    refine LWo.move (e_Llaws_Delta t0) rfl (hn := ?_)
    refine LWo.move (e_int t4) rfl (hn := ?_)
    refine bk h fun x12 e12 h => ?_
    refine LWo.indexM (f := e_laws_Delta) e12 u_Llaws_Delta s_laws_Delta rfl rfl (hn := ?_)
    refine LWo.loadN ((e_laws_Delta x12)).cells g_laws_Delta s_laws_Delta rfl (Nat.le_of_ble_eq_true rfl) rfl (hn := ?_)
    refine bk h fun x13 e13 h => ?_
    refine LWo.scall (e := e_impl_Delta) (e2 := e_impl_Value) (y := x13) (ys := x13.Row) 1020 0 .fro rfl rfl (c_laws_toDelta _ _ e13) (.same (.nil)) rfl rfl rfl (.inr ⟨rfl, immL_map (fun _ => rfl) _⟩) rfl (hn := ?_)
    refine bk h fun x14 e14 h => ?_
    refine LWo.indexD e14 rfl u_Limpl_Delta s_impl_Delta rfl rfl rfl (hn := ?_)
    refine bk h fun x15 e15 h => ?_
    refine LWo.storeDM (ks := [1020]) (f := e_impl_Delta) ({ x13 with Row := x13.Row } : S_impl_Delta) e15 s_impl_Delta rfl rfl rfl rfl (.cons (.own (obj := (lob 3 e_impl_Value x13.Row)) rfl rfl (.inl ⟨rfl, immL_map (e := e_impl_Value) (fun _ => rfl) _⟩) (List.length_map _).symm) (.cons (.imm _) .nil)) (by decide) rfl rfl rfl (hn := ?_)
    refine LWo.nil (hN11 _ ?_)
    refine LWP.region (l := [_,_,_]) ?_
    refine LWo.move (e_int t4) rfl (hn := ?_)
    refine bk h fun x16 e16 h => ?_
    refine LWo.int _ rfl rfl (add_ck e16) (hn := ?_)
    refine LWo.assign (e_int x16) rfl (hn := ?_)
    refine LWo.nil (hN6 (t0, x16, (o1007.set (t4).toNat ({ x13 with Row := x13.Row }))) _ ⟨rfl, (congrArg (LV.own 1007 0) List.length_set.symm), rfl, trivial⟩ ⟨rfl, trivial⟩ h)
   ·have h := bF h10 h
    refine LWP.exit (hN4 o1007 _ ⟨rfl, trivial⟩ ⟨rfl, trivial⟩ h)

def m_spec_l1In_j1 (t6 : Bool) : Option Bool :=
  some t6
def m_spec_l1In (a0 : Int) (a1 : Int) (a2 : Int) : Option Bool :=
  bif decide (a0 ≥ a1) then (m_spec_l1In_j1  (decide (a0 ≤ a2)))
  else (m_spec_l1In_j1  false)
theorem c_spec_l1In (a0 : Int) (a1 : Int) (a2 : Int) (r : Bool) (h : m_spec_l1In a0 a1 a2 = some r) : Ret Try.prog f_spec_l1In [e_int a0, e_int a1, e_int a2] (e_bool r) := by
  refine Does.goG [] F_spec_l1In rfl e_spec_l1In n_spec_l1In rfl (rvs := [.tmp 6]) rfl rfl ?_
  intro w0 ok0 lent ρ0
  refine LWP.seq_k fun N1 hN1 => ?_
  refine LWP.region (l := [_]) ?_
  refine LWo.assign (e_bool false) rfl (hn := ?_)
  refine LWo.nil (hN1 _ ?_)
  refine LWP.join (α := Bool) (fun z : Bool => [(6, (e_bool z))]) (fun z : Bool => []) (fun z : Bool => m_spec_l1In_j1  z) r (fun _ => by simp [hkeys]) ?_ ?_
  ·rintro t6 h
   replace h : m_spec_l1In_j1  t6 = some _ := h
   obtain rfl := Option.some.inj h
   refine LWP.ret (QG.mk (.inr rfl) (.cons (.tmp (x := (e_bool t6)) rfl) (.nil)) (RetOK.one0 (.pure rfl) (by decide)) rfl rfl)
  ·intro N2 hN2
   refine LWP.region (l := [_,_,_,_,_,_,_,_,_]) ?_
   refine LWo.move (e_int a0) rfl (hn := ?_)
   refine LWo.move (e_int a1) rfl (hn := ?_)
   refine LWo.int _ rfl rfl rfl (hn := ?_)
   refine LWo.move (e_bool (decide (a0 ≥ a1))) rfl (hn := ?_)
   refine LWo.byCases (t := 10) _ rfl (fun h3 => ?_) (fun h3 => ?_)
   ·have h := bT h3 h
    refine LWo.guardY (t := 10) rfl h3 rfl rfl ?_
    refine LWo.move (e_int a0) rfl (hn := ?_)
    refine LWo.guardY (t := 10) rfl h3 rfl rfl ?_
    refine LWo.move (e_int a2) rfl (hn := ?_)
    refine LWo.guardY (t := 10) rfl h3 rfl rfl ?_
    refine LWo.int _ rfl rfl rfl (hn := ?_)
    refine LWo.pickTM (e_bool (decide (a0 ≤ a2))) rfl h3 rfl (hn := ?_)
    refine LWo.assign (e_bool (decide (a0 ≤ a2))) rfl (hn := ?_)
    refine LWo.nil (hN2 (decide (a0 ≤ a2)) _ ⟨rfl, trivial⟩ trivial h)
   ·have h := bF h3 h
    refine LWo.guardNU (t := 10) rfl h3 rfl rfl rfl rfl rfl ?_
    refine LWo.guardNU (t := 10) rfl h3 rfl rfl rfl rfl rfl ?_
    refine LWo.guardNU (t := 10) rfl h3 rfl rfl rfl rfl rfl ?_
    refine LWo.pickFM (e_bool false) rfl h3 rfl (hn := ?_)
    refine LWo.assign (e_bool false) rfl (hn := ?_)
    refine LWo.nil (hN2 false _ ⟨rfl, trivial⟩ trivial h)

def m_spec_l1Text_j2 (t0 : ByteArray) : Option Bool :=
  some (decide ((t0.size : Int) ≤ (6 : Int)))
def m_spec_l1Text_j1 (k1 : ByteArray → Int → Option Bool) (t0 : ByteArray) (t3 : Int) (t19 : Bool) : Option Bool :=
  bif t19 then (some false)
  else ((ckI (t3 + (1 : Int))).bind fun x16 =>
  k1 t0 x16)
def m_spec_l1Text_l1 : Nat → ByteArray → Int → Option Bool
  | 0, _, _ => none
  | n1 + 1, t0, t3 =>
    bif decide (t3 < (t0.size : Int)) then ((sAt? t0 t3).bind fun x11 =>
    bif decide ((x11.toNat : Int) < ((97 : UInt8).toNat : Int)) then (m_spec_l1Text_j1  (m_spec_l1Text_l1  n1) t0 t3 true)
    else ((sAt? t0 t3).bind fun x13 =>
      m_spec_l1Text_j1  (m_spec_l1Text_l1  n1) t0 t3 (decide ((x13.toNat : Int) > ((122 : UInt8).toNat : Int)))))
    else (m_spec_l1Text_j2  t0)
def m_spec_l1Text (a0 : ByteArray) : Option Bool :=
  m_spec_l1Text_l1  (((a0.size : Int) - (0 : Int)).toNat + 1) a0 (0 : Int)
theorem c_spec_l1Text (a0 : ByteArray) (r : Bool) (h : m_spec_l1Text a0 = some r) : Ret Try.prog f_spec_l1Text [e_string a0] (e_bool r) := by
  refine Does.goG [] F_spec_l1Text rfl e_spec_l1Text n_spec_l1Text rfl (rvs := [.tmp 2]) rfl rfl ?_
  intro w0 ok0 lent ρ0
  refine LWP.seq_k fun N1 hN1 => ?_
  refine LWP.region (l := [_]) ?_
  refine LWo.assign (e_bool false) rfl (hn := ?_)
  refine LWo.nil (hN1 _ ?_)
  refine LWP.join (α := ByteArray) (fun z : ByteArray => [(0, (e_string z))]) (fun z : ByteArray => []) (fun z : ByteArray => m_spec_l1Text_j2  z) r (fun _ => by simp [hkeys]) ?_ ?_
  ·rintro t0 h
   replace h : m_spec_l1Text_j2  t0 = some _ := h
   refine LWP.seq_k fun N17 hN17 => ?_
   refine LWP.region (l := [_,_,_,_]) ?_
   refine LWo.move (e_string t0) rfl (hn := ?_)
   refine LWo.lenS u_string rfl (hn := ?_)
   refine LWo.int _ rfl rfl rfl (hn := ?_)
   refine LWo.assign (e_bool (decide ((t0.size : Int) ≤ (6 : Int)))) rfl (hn := ?_)
   refine LWo.nil (hN17 _ ?_)
   obtain rfl := Option.some.inj h
   refine LWP.ret (QG.mk (.inr rfl) (.cons (.tmp (x := (e_bool (decide ((t0.size : Int) ≤ (6 : Int))))) rfl) (.nil)) (RetOK.one0 (.pure rfl) (by decide)) rfl rfl)
  ·intro N2 hN2
   refine LWP.seq_k fun N3 hN3 => ?_
   refine LWP.region (l := [_]) ?_
   refine LWo.assign (e_int (0 : Int)) rfl (hn := ?_)
   refine LWo.nil (hN3 _ ?_)
   refine LWP.block ?_
   refine LWP.loopM (α := ByteArray × Int) (fun z : ByteArray × Int => [(0, (e_string z.1)), (3, (e_int z.2))]) (fun z : ByteArray × Int => []) (fun n1 (z : ByteArray × Int) => m_spec_l1Text_l1  n1 z.1 z.2) r _ (a0, (0 : Int)) h (fun _ => rfl) (fun _ => by simp [hkeys]) ⟨rfl, rfl, trivial⟩ trivial ?_
   rintro n1 ⟨t0, t3⟩ h N4 hN4
   replace h : m_spec_l1Text_l1  (n1 + 1) t0 t3 = some _ := h
   refine LWP.seq_k fun N6 hN6 => ?_
   refine LWP.seq_k fun N7 hN7 => ?_
   refine LWP.region (l := [_,_,_,_]) ?_
   refine LWo.move (e_int t3) rfl (hn := ?_)
   refine LWo.move (e_string t0) rfl (hn := ?_)
   refine LWo.lenS u_string rfl (hn := ?_)
   refine LWo.int _ rfl rfl rfl (hn := ?_)
   refine LWo.nil (hN7 _ ?_)
   refine LWP.cond_split rfl (fun h8 => ?_) (fun h8 => ?_)
   ·have h := bT h8 h
    refine LWP.skip (hN6 _ ?_)
    refine LWP.seq_k fun N9 hN9 => ?_
    refine LWP.block ?_
    refine LWP.join (α := ByteArray × Int × Bool) (fun z : ByteArray × Int × Bool => [(0, (e_string z.1)), (3, (e_int z.2.1)), (19, (e_bool z.2.2))]) (fun z : ByteArray × Int × Bool => []) (fun z : ByteArray × Int × Bool => m_spec_l1Text_j1  (m_spec_l1Text_l1  n1) z.1 z.2.1 z.2.2) r (fun _ => by simp [hkeys]) ?_ ?_
    ·rintro ⟨t0, t3, t19⟩ h
     replace h : m_spec_l1Text_j1  (m_spec_l1Text_l1  n1) t0 t3 t19 = some _ := h
     refine LWP.cond_split rfl (fun h14 => ?_) (fun h14 => ?_)
     ·have h := bT h14 h
      refine LWP.seq_k fun N15 hN15 => ?_
      refine LWP.region (l := [_]) ?_
      refine LWo.assign (e_bool false) rfl (hn := ?_)
      refine LWo.nil (hN15 _ ?_)
      obtain rfl := Option.some.inj h
      refine LWP.ret (QG.mk (.inr rfl) (.cons (.tmp (x := (e_bool false)) rfl) (.nil)) (RetOK.one0 (.pure rfl) (by decide)) rfl rfl)
     ·have h := bF h14 h
      refine LWP.skip (hN9 _ ?_)
      refine LWP.region (l := [_,_,_]) ?_
      refine LWo.move (e_int t3) rfl (hn := ?_)
      refine bk h fun x16 e16 h => ?_
      refine LWo.int _ rfl rfl (add_ck e16) (hn := ?_)
      refine LWo.assign (e_int x16) rfl (hn := ?_)
      refine LWo.nil (hN4 (t0, x16) _ ⟨rfl, rfl, trivial⟩ trivial h)
    ·intro N10 hN10
     refine LWP.region (l := [_,_,_,_,_,_,_,_,_,_]) ?_
     refine LWo.move (e_string t0) rfl (hn := ?_)
     refine LWo.move (e_int t3) rfl (hn := ?_)
     refine bk h fun x11 e11 h => ?_
     refine LWo.indexStr u_string rfl rfl (sAt_0 e11) (sAt_g e11) (hn := ?_)
     refine LWo.int _ rfl rfl rfl (hn := ?_)
     refine LWo.move (e_bool (decide ((x11.toNat : Int) < ((97 : UInt8).toNat : Int)))) rfl (hn := ?_)
     refine LWo.byCases (t := 14) _ rfl (fun h12 => ?_) (fun h12 => ?_)
     ·have h := bT h12 h
      refine LWo.guardNU (t := 14) rfl h12 rfl rfl rfl rfl rfl ?_
      refine LWo.guardNU (t := 14) rfl h12 rfl rfl rfl rfl rfl ?_
      refine LWo.guardNU (t := 14) rfl h12 rfl rfl rfl rfl rfl ?_
      refine LWo.guardNU (t := 14) rfl h12 rfl rfl rfl rfl rfl ?_
      refine LWo.pickTM (e_bool true) rfl h12 rfl (hn := ?_)
      refine LWo.nil (hN10 (t0, t3, true) _ ⟨rfl, rfl, rfl, trivial⟩ trivial h)
     ·have h := bF h12 h
      refine LWo.guardY (t := 14) rfl h12 rfl rfl ?_
      refine LWo.move (e_string t0) rfl (hn := ?_)
      refine LWo.guardY (t := 14) rfl h12 rfl rfl ?_
      refine LWo.move (e_int t3) rfl (hn := ?_)
      refine bk h fun x13 e13 h => ?_
      refine LWo.guardY (t := 14) rfl h12 rfl rfl ?_
      refine LWo.indexStr u_string rfl rfl (sAt_0 e13) (sAt_g e13) (hn := ?_)
      refine LWo.guardY (t := 14) rfl h12 rfl rfl ?_
      refine LWo.int _ rfl rfl rfl (hn := ?_)
      refine LWo.pickFM (e_bool (decide ((x13.toNat : Int) > ((122 : UInt8).toNat : Int)))) rfl h12 rfl (hn := ?_)
      refine LWo.nil (hN10 (t0, t3, decide ((x13.toNat : Int) > ((122 : UInt8).toNat : Int))) _ ⟨rfl, rfl, rfl, trivial⟩ trivial h)
   ·have h := bF h8 h
    refine LWP.exit (hN2 t0 _ ⟨rfl, trivial⟩ trivial h)

def m_spec_ValueOk_j1 (t2 : Bool) : Option Bool :=
  some t2
def m_spec_ValueOk_j2 (t2 : Bool) : Option Bool :=
  some t2
def m_spec_ValueOk_j3 (t2 : Bool) : Option Bool :=
  some t2
def m_spec_ValueOk_j4 (t2 : Bool) : Option Bool :=
  some t2
def m_spec_ValueOk (a0 : S_impl_Value) : Option Bool :=
  bif (a0.Kind == (0 : Int)) then (bif (a0.N == (0 : Int)) then (m_spec_ValueOk_j1  (sEq a0.S (⟨#[]⟩ : ByteArray)))
    else (m_spec_ValueOk_j1  false))
  else (bif (a0.Kind == (1 : Int)) then ((m_spec_l1In a0.N (-9999 : Int) (9999 : Int)).bind fun x11 =>
      bif x11 then (m_spec_ValueOk_j2  (sEq a0.S (⟨#[]⟩ : ByteArray)))
      else (m_spec_ValueOk_j2  false))
    else (bif (a0.Kind == (2 : Int)) then (bif (a0.N == (0 : Int)) then ((m_spec_l1Text a0.S).bind fun x17 =>
          m_spec_ValueOk_j3  x17)
        else (m_spec_ValueOk_j3  false))
      else (bif (a0.Kind == (3 : Int)) then ((m_spec_l1In a0.N (0 : Int) (1 : Int)).bind fun x21 =>
          bif x21 then (m_spec_ValueOk_j4  (sEq a0.S (⟨#[]⟩ : ByteArray)))
          else (m_spec_ValueOk_j4  false))
        else (some false))))
theorem c_spec_ValueOk (a0 : S_impl_Value) (r : Bool) (h : m_spec_ValueOk a0 = some r) : Ret Try.prog f_spec_ValueOk [e_impl_Value a0] (e_bool r) := by
  refine Does.goG [] F_spec_ValueOk rfl e_spec_ValueOk n_spec_ValueOk rfl (rvs := [.tmp 2]) rfl rfl ?_
  intro w0 ok0 lent ρ0
  refine LWP.seq_k fun N1 hN1 => ?_
  refine LWP.region (l := [_,_]) ?_
  refine LWo.boxF (e_impl_Value a0) rfl rfl rfl (hn := ?_)
  refine LWo.assign (e_bool false) rfl (hn := ?_)
  refine LWo.nil (hN1 _ ?_)
  refine LWP.seq_k fun N2 hN2 => ?_
  refine LWP.seq_k fun N3 hN3 => ?_
  refine LWP.region (l := [_,_]) ?_
  refine LWo.fieldAddr _ u_impl_Value rfl s_int rfl rfl (hn := ?_)
  refine LWo.load1 (c := (e_int a0.Kind)) g_int rfl (hn := ?_)
  refine LWo.nil (hN3 _ ?_)
  refine LWP.block ?_
  refine LWP.seq_k fun N4 hN4 => ?_
  refine LWP.region (l := [_,_]) ?_
  refine LWo.int _ rfl rfl rfl (hn := ?_)
  refine LWo.assign (e_bool (a0.Kind == (0 : Int))) rfl (hn := ?_)
  refine LWo.nil (hN4 _ ?_)
  refine LWP.cond_split rfl (fun h5 => ?_) (fun h5 => ?_)
  ·have h := bT h5 h
   refine LWP.join (α := Bool) (fun z : Bool => [(2, (e_bool z))]) (fun z : Bool => []) (fun z : Bool => m_spec_ValueOk_j1  z) r (fun _ => by simp [hkeys]) ?_ ?_
   ·rintro t2 h
    replace h : m_spec_ValueOk_j1  t2 = some _ := h
    obtain rfl := Option.some.inj h
    refine LWP.ret (QG.mk (.inr rfl) (.cons (.tmp (x := (e_bool t2)) rfl) (.nil)) (RetOK.one0 (.pure rfl) (by decide)) rfl rfl)
   ·intro N6 hN6
    refine LWP.region (l := [_,_,_,_,_,_,_,_,_]) ?_
    refine LWo.fieldAddr _ u_impl_Value rfl s_int rfl rfl (hn := ?_)
    refine LWo.load1 (c := (e_int a0.N)) g_int rfl (hn := ?_)
    refine LWo.int _ rfl rfl rfl (hn := ?_)
    refine LWo.move (e_bool (a0.N == (0 : Int))) rfl (hn := ?_)
    refine LWo.byCases (t := 10) _ rfl (fun h7 => ?_) (fun h7 => ?_)
    ·have h := bT h7 h
     refine LWo.guardY (t := 10) rfl h7 rfl rfl ?_
     refine LWo.fieldAddr _ u_impl_Value rfl s_string rfl rfl (hn := ?_)
     refine LWo.guardY (t := 10) rfl h7 rfl rfl ?_
     refine LWo.load1 (c := (e_string a0.S)) g_string rfl (hn := ?_)
     refine LWo.guardY (t := 10) rfl h7 rfl rfl ?_
     refine LWo.str _ rfl rfl rfl (hn := ?_)
     refine LWo.pickTM (e_bool (sEq a0.S (⟨#[]⟩ : ByteArray))) rfl h7 rfl (hn := ?_)
     refine LWo.assign (e_bool (sEq a0.S (⟨#[]⟩ : ByteArray))) rfl (hn := ?_)
     refine LWo.nil (hN6 (sEq a0.S (⟨#[]⟩ : ByteArray)) _ ⟨rfl, trivial⟩ trivial h)
    ·have h := bF h7 h
     refine LWo.guardNU (t := 10) rfl h7 rfl rfl rfl rfl rfl ?_
     refine LWo.guardNU (t := 10) rfl h7 rfl rfl rfl rfl rfl ?_
     refine LWo.guardNU (t := 10) rfl h7 rfl rfl rfl rfl rfl ?_
     refine LWo.pickFM (e_bool false) rfl h7 rfl (hn := ?_)
     refine LWo.assign (e_bool false) rfl (hn := ?_)
     refine LWo.nil (hN6 false _ ⟨rfl, trivial⟩ trivial h)
  ·have h := bF h5 h
   refine LWP.seq_k fun N8 hN8 => ?_
   refine LWP.region (l := [_,_]) ?_
   refine LWo.int _ rfl rfl rfl (hn := ?_)
   refine LWo.assign (e_bool (a0.Kind == (1 : Int))) rfl (hn := ?_)
   refine LWo.nil (hN8 _ ?_)
   refine LWP.cond_split rfl (fun h9 => ?_) (fun h9 => ?_)
   ·have h := bT h9 h
    refine LWP.join (α := Bool) (fun z : Bool => [(2, (e_bool z))]) (fun z : Bool => []) (fun z : Bool => m_spec_ValueOk_j2  z) r (fun _ => by simp [hkeys]) ?_ ?_
    ·rintro t2 h
     replace h : m_spec_ValueOk_j2  t2 = some _ := h
     obtain rfl := Option.some.inj h
     refine LWP.ret (QG.mk (.inr rfl) (.cons (.tmp (x := (e_bool t2)) rfl) (.nil)) (RetOK.one0 (.pure rfl) (by decide)) rfl rfl)
    ·intro N10 hN10
     refine LWP.region (l := [_,_,_,_,_,_,_,_,_]) ?_
     refine LWo.fieldAddr _ u_impl_Value rfl s_int rfl rfl (hn := ?_)
     refine LWo.load1 (c := (e_int a0.N)) g_int rfl (hn := ?_)
     refine bk h fun x11 e11 h => ?_
     refine LWo.vcall rfl rfl (c_spec_l1In _ _ _ _ e11) (.same (.same (.same (.nil)))) (hn := ?_)
     refine LWo.move (e_bool x11) rfl (hn := ?_)
     refine LWo.byCases (t := 20) _ rfl (fun h12 => ?_) (fun h12 => ?_)
     ·have h := bT h12 h
      refine LWo.guardY (t := 20) rfl h12 rfl rfl ?_
      refine LWo.fieldAddr _ u_impl_Value rfl s_string rfl rfl (hn := ?_)
      refine LWo.guardY (t := 20) rfl h12 rfl rfl ?_
      refine LWo.load1 (c := (e_string a0.S)) g_string rfl (hn := ?_)
      refine LWo.guardY (t := 20) rfl h12 rfl rfl ?_
      refine LWo.str _ rfl rfl rfl (hn := ?_)
      refine LWo.pickTM (e_bool (sEq a0.S (⟨#[]⟩ : ByteArray))) rfl h12 rfl (hn := ?_)
      refine LWo.assign (e_bool (sEq a0.S (⟨#[]⟩ : ByteArray))) rfl (hn := ?_)
      refine LWo.nil (hN10 (sEq a0.S (⟨#[]⟩ : ByteArray)) _ ⟨rfl, trivial⟩ trivial h)
     ·have h := bF h12 h
      refine LWo.guardNU (t := 20) rfl h12 rfl rfl rfl rfl rfl ?_
      refine LWo.guardNU (t := 20) rfl h12 rfl rfl rfl rfl rfl ?_
      refine LWo.guardNU (t := 20) rfl h12 rfl rfl rfl rfl rfl ?_
      refine LWo.pickFM (e_bool false) rfl h12 rfl (hn := ?_)
      refine LWo.assign (e_bool false) rfl (hn := ?_)
      refine LWo.nil (hN10 false _ ⟨rfl, trivial⟩ trivial h)
   ·have h := bF h9 h
    refine LWP.seq_k fun N13 hN13 => ?_
    refine LWP.region (l := [_,_]) ?_
    refine LWo.int _ rfl rfl rfl (hn := ?_)
    refine LWo.assign (e_bool (a0.Kind == (2 : Int))) rfl (hn := ?_)
    refine LWo.nil (hN13 _ ?_)
    refine LWP.cond_split rfl (fun h14 => ?_) (fun h14 => ?_)
    ·have h := bT h14 h
     refine LWP.join (α := Bool) (fun z : Bool => [(2, (e_bool z))]) (fun z : Bool => []) (fun z : Bool => m_spec_ValueOk_j3  z) r (fun _ => by simp [hkeys]) ?_ ?_
     ·rintro t2 h
      replace h : m_spec_ValueOk_j3  t2 = some _ := h
      obtain rfl := Option.some.inj h
      refine LWP.ret (QG.mk (.inr rfl) (.cons (.tmp (x := (e_bool t2)) rfl) (.nil)) (RetOK.one0 (.pure rfl) (by decide)) rfl rfl)
     ·intro N15 hN15
      refine LWP.region (l := [_,_,_,_,_,_,_,_,_]) ?_
      refine LWo.fieldAddr _ u_impl_Value rfl s_int rfl rfl (hn := ?_)
      refine LWo.load1 (c := (e_int a0.N)) g_int rfl (hn := ?_)
      refine LWo.int _ rfl rfl rfl (hn := ?_)
      refine LWo.move (e_bool (a0.N == (0 : Int))) rfl (hn := ?_)
      refine LWo.byCases (t := 30) _ rfl (fun h16 => ?_) (fun h16 => ?_)
      ·have h := bT h16 h
       refine LWo.guardY (t := 30) rfl h16 rfl rfl ?_
       refine LWo.fieldAddr _ u_impl_Value rfl s_string rfl rfl (hn := ?_)
       refine LWo.guardY (t := 30) rfl h16 rfl rfl ?_
       refine LWo.load1 (c := (e_string a0.S)) g_string rfl (hn := ?_)
       refine bk h fun x17 e17 h => ?_
       refine LWo.guardY (t := 30) rfl h16 rfl rfl ?_
       refine LWo.vcall rfl rfl (c_spec_l1Text _ _ e17) (.same (.nil)) (hn := ?_)
       refine LWo.pickTM (e_bool x17) rfl h16 rfl (hn := ?_)
       refine LWo.assign (e_bool x17) rfl (hn := ?_)
       refine LWo.nil (hN15 x17 _ ⟨rfl, trivial⟩ trivial h)
      ·have h := bF h16 h
       refine LWo.guardNU (t := 30) rfl h16 rfl rfl rfl rfl rfl ?_
       refine LWo.guardNU (t := 30) rfl h16 rfl rfl rfl rfl rfl ?_
       refine LWo.guardNU (t := 30) rfl h16 rfl rfl rfl rfl rfl ?_
       refine LWo.pickFM (e_bool false) rfl h16 rfl (hn := ?_)
       refine LWo.assign (e_bool false) rfl (hn := ?_)
       refine LWo.nil (hN15 false _ ⟨rfl, trivial⟩ trivial h)
    ·have h := bF h14 h
     refine LWP.seq_k fun N18 hN18 => ?_
     refine LWP.region (l := [_,_]) ?_
     refine LWo.int _ rfl rfl rfl (hn := ?_)
     refine LWo.assign (e_bool (a0.Kind == (3 : Int))) rfl (hn := ?_)
     refine LWo.nil (hN18 _ ?_)
     refine LWP.cond_split rfl (fun h19 => ?_) (fun h19 => ?_)
     ·have h := bT h19 h
      refine LWP.join (α := Bool) (fun z : Bool => [(2, (e_bool z))]) (fun z : Bool => []) (fun z : Bool => m_spec_ValueOk_j4  z) r (fun _ => by simp [hkeys]) ?_ ?_
      ·rintro t2 h
       replace h : m_spec_ValueOk_j4  t2 = some _ := h
       obtain rfl := Option.some.inj h
       refine LWP.ret (QG.mk (.inr rfl) (.cons (.tmp (x := (e_bool t2)) rfl) (.nil)) (RetOK.one0 (.pure rfl) (by decide)) rfl rfl)
      ·intro N20 hN20
       refine LWP.region (l := [_,_,_,_,_,_,_,_,_]) ?_
       refine LWo.fieldAddr _ u_impl_Value rfl s_int rfl rfl (hn := ?_)
       refine LWo.load1 (c := (e_int a0.N)) g_int rfl (hn := ?_)
       refine bk h fun x21 e21 h => ?_
       refine LWo.vcall rfl rfl (c_spec_l1In _ _ _ _ e21) (.same (.same (.same (.nil)))) (hn := ?_)
       refine LWo.move (e_bool x21) rfl (hn := ?_)
       refine LWo.byCases (t := 40) _ rfl (fun h22 => ?_) (fun h22 => ?_)
       ·have h := bT h22 h
        refine LWo.guardY (t := 40) rfl h22 rfl rfl ?_
        refine LWo.fieldAddr _ u_impl_Value rfl s_string rfl rfl (hn := ?_)
        refine LWo.guardY (t := 40) rfl h22 rfl rfl ?_
        refine LWo.load1 (c := (e_string a0.S)) g_string rfl (hn := ?_)
        refine LWo.guardY (t := 40) rfl h22 rfl rfl ?_
        refine LWo.str _ rfl rfl rfl (hn := ?_)
        refine LWo.pickTM (e_bool (sEq a0.S (⟨#[]⟩ : ByteArray))) rfl h22 rfl (hn := ?_)
        refine LWo.assign (e_bool (sEq a0.S (⟨#[]⟩ : ByteArray))) rfl (hn := ?_)
        refine LWo.nil (hN20 (sEq a0.S (⟨#[]⟩ : ByteArray)) _ ⟨rfl, trivial⟩ trivial h)
       ·have h := bF h22 h
        refine LWo.guardNU (t := 40) rfl h22 rfl rfl rfl rfl rfl ?_
        refine LWo.guardNU (t := 40) rfl h22 rfl rfl rfl rfl rfl ?_
        refine LWo.guardNU (t := 40) rfl h22 rfl rfl rfl rfl rfl ?_
        refine LWo.pickFM (e_bool false) rfl h22 rfl (hn := ?_)
        refine LWo.assign (e_bool false) rfl (hn := ?_)
        refine LWo.nil (hN20 false _ ⟨rfl, trivial⟩ trivial h)
     ·have h := bF h19 h
      refine LWP.skip (hN2 _ ?_)
      refine LWP.seq_k fun N23 hN23 => ?_
      refine LWP.region (l := [_]) ?_
      refine LWo.assign (e_bool false) rfl (hn := ?_)
      refine LWo.nil (hN23 _ ?_)
      obtain rfl := Option.some.inj h
      refine LWP.ret (QG.mk (.inr rfl) (.cons (.tmp (x := (e_bool false)) rfl) (.nil)) (RetOK.one0 (.pure rfl) (by decide)) rfl rfl)

def m_spec_RowOk_j1 (t0 : (List S_impl_Value)) : Option Bool :=
  some (decide ((t0.length : Int) ≤ (4 : Int)))
def m_spec_RowOk_l1 : Nat → (List S_impl_Value) → Int → Option Bool
  | 0, _, _ => none
  | n1 + 1, t0, t3 =>
    bif decide (t3 < (t0.length : Int)) then ((at? t0 t3).bind fun x11 =>
    (m_spec_ValueOk x11).bind fun x12 =>
    bif (!x12) then (some false)
    else ((ckI (t3 + (1 : Int))).bind fun x15 =>
    (m_spec_RowOk_l1  n1) t0 x15))
    else (m_spec_RowOk_j1  t0)
def m_spec_RowOk (a0 : (List S_impl_Value)) : Option Bool :=
  m_spec_RowOk_l1  (((a0.length : Int) - (0 : Int)).toNat + 1) a0 (0 : Int)
theorem c_spec_RowOk (a0 : (List S_impl_Value)) (r : Bool) (h : m_spec_RowOk a0 = some r) : Ret Try.prog f_spec_RowOk [e_Limpl_Value a0] (e_bool r) := by
  refine Does.goG [] F_spec_RowOk rfl e_spec_RowOk n_spec_RowOk rfl (rvs := [.tmp 2]) rfl rfl ?_
  intro w0 ok0 lent ρ0
  refine LWP.seq_k fun N1 hN1 => ?_
  refine LWP.region (l := [_]) ?_
  refine LWo.assign (e_bool false) rfl (hn := ?_)
  refine LWo.nil (hN1 _ ?_)
  refine LWP.join (α := (List S_impl_Value)) (fun z : (List S_impl_Value) => [(0, (e_Limpl_Value z))]) (fun z : (List S_impl_Value) => []) (fun z : (List S_impl_Value) => m_spec_RowOk_j1  z) r (fun _ => by simp [hkeys]) ?_ ?_
  ·rintro t0 h
   replace h : m_spec_RowOk_j1  t0 = some _ := h
   refine LWP.seq_k fun N16 hN16 => ?_
   refine LWP.region (l := [_,_,_,_]) ?_
   refine LWo.move (e_Limpl_Value t0) rfl (hn := ?_)
   refine LWo.lenM (f := e_impl_Value) (l := t0) u_Limpl_Value rfl (hn := ?_)
   refine LWo.int _ rfl rfl rfl (hn := ?_)
   refine LWo.assign (e_bool (decide ((t0.length : Int) ≤ (4 : Int)))) rfl (hn := ?_)
   refine LWo.nil (hN16 _ ?_)
   obtain rfl := Option.some.inj h
   refine LWP.ret (QG.mk (.inr rfl) (.cons (.tmp (x := (e_bool (decide ((t0.length : Int) ≤ (4 : Int))))) rfl) (.nil)) (RetOK.one0 (.pure rfl) (by decide)) rfl rfl)
  ·intro N2 hN2
   refine LWP.seq_k fun N3 hN3 => ?_
   refine LWP.region (l := [_]) ?_
   refine LWo.assign (e_int (0 : Int)) rfl (hn := ?_)
   refine LWo.nil (hN3 _ ?_)
   refine LWP.block ?_
   refine LWP.loopM (α := (List S_impl_Value) × Int) (fun z : (List S_impl_Value) × Int => [(0, (e_Limpl_Value z.1)), (3, (e_int z.2))]) (fun z : (List S_impl_Value) × Int => []) (fun n1 (z : (List S_impl_Value) × Int) => m_spec_RowOk_l1  n1 z.1 z.2) r _ (a0, (0 : Int)) h (fun _ => rfl) (fun _ => by simp [hkeys]) ⟨rfl, rfl, trivial⟩ trivial ?_
   rintro n1 ⟨t0, t3⟩ h N4 hN4
   replace h : m_spec_RowOk_l1  (n1 + 1) t0 t3 = some _ := h
   refine LWP.seq_k fun N6 hN6 => ?_
   refine LWP.seq_k fun N7 hN7 => ?_
   refine LWP.region (l := [_,_,_,_]) ?_
   refine LWo.move (e_int t3) rfl (hn := ?_)
   refine LWo.move (e_Limpl_Value t0) rfl (hn := ?_)
   refine LWo.lenM (f := e_impl_Value) (l := t0) u_Limpl_Value rfl (hn := ?_)
   refine LWo.int _ rfl rfl rfl (hn := ?_)
   refine LWo.nil (hN7 _ ?_)
   refine LWP.cond_split rfl (fun h8 => ?_) (fun h8 => ?_)
   ·have h := bT h8 h
    refine LWP.skip (hN6 _ ?_)
    refine LWP.seq_k fun N9 hN9 => ?_
    refine LWP.block ?_
    refine LWP.seq_k fun N10 hN10 => ?_
    refine LWP.region (l := [_,_,_,_,_,_]) ?_
    refine LWo.move (e_Limpl_Value t0) rfl (hn := ?_)
    refine LWo.move (e_int t3) rfl (hn := ?_)
    refine bk h fun x11 e11 h => ?_
    refine LWo.indexM (f := e_impl_Value) e11 u_Limpl_Value s_impl_Value rfl rfl (hn := ?_)
    refine LWo.loadN ((e_impl_Value x11)).cells g_impl_Value s_impl_Value rfl (Nat.le_of_ble_eq_true rfl) rfl (hn := ?_)
    refine bk h fun x12 e12 h => ?_
    refine LWo.vcall rfl rfl (c_spec_ValueOk _ _ e12) (.same (.nil)) (hn := ?_)
    refine LWo.not rfl (hn := ?_)
    refine LWo.nil (hN10 _ ?_)
    refine LWP.cond_split rfl (fun h13 => ?_) (fun h13 => ?_)
    ·have h := bT h13 h
     refine LWP.seq_k fun N14 hN14 => ?_
     refine LWP.region (l := [_]) ?_
     refine LWo.assign (e_bool false) rfl (hn := ?_)
     refine LWo.nil (hN14 _ ?_)
     obtain rfl := Option.some.inj h
     refine LWP.ret (QG.mk (.inr rfl) (.cons (.tmp (x := (e_bool false)) rfl) (.nil)) (RetOK.one0 (.pure rfl) (by decide)) rfl rfl)
    ·have h := bF h13 h
     refine LWP.skip (hN9 _ ?_)
     refine LWP.region (l := [_,_,_]) ?_
     refine LWo.move (e_int t3) rfl (hn := ?_)
     refine bk h fun x15 e15 h => ?_
     refine LWo.int _ rfl rfl (add_ck e15) (hn := ?_)
     refine LWo.assign (e_int x15) rfl (hn := ?_)
     refine LWo.nil (hN4 (t0, x15) _ ⟨rfl, rfl, trivial⟩ trivial h)
   ·have h := bF h8 h
    refine LWP.exit (hN2 t0 _ ⟨rfl, trivial⟩ trivial h)

def m_spec_l3Own (a0 : (List S_impl_Value)) : Option (List S_impl_Value) :=
  (app? ([] : (List S_impl_Value)) a0).bind fun x3 =>
  some x3
theorem c_spec_l3Own (a0 : (List S_impl_Value)) (r : (List S_impl_Value)) (h : m_spec_l3Own a0 = some r) : Ret Try.prog f_spec_l3Own [e_Limpl_Value a0] (.nw 3 (r.map e_impl_Value) false) := by
  refine Does.goG [] F_spec_l3Own rfl e_spec_l3Own n_spec_l3Own rfl (rvs := [.tmp 2]) rfl rfl ?_
  intro w0 ok0 lent ρ0
  refine LWP.seq_k fun N1 hN1 => ?_
  refine LWP.region (l := [_]) ?_
  refine LWo.assign _ rfl (hn := ?_)
  refine LWo.ownNil 2 1002 3 rfl rfl rfl ?_
  refine LWo.known 2 (.own 1002 0 ([] : (List S_impl_Value)).length) rfl ?_
  refine LWo.nil (hN1 _ ?_)
  refine LWP.seq_k fun N2 hN2 => ?_
  refine LWP.region (l := [_,_,_,_]) ?_
  refine LWo.lit0 1003 u_Limpl_Value s_impl_Value z_impl_Value (hn := ?_)
  refine LWo.known 3 (.own 1003 0 ([] : (List S_impl_Value)).length) rfl ?_
  refine LWo.move (e_Limpl_Value a0) rfl (hn := ?_)
  refine bk h fun x3 e3 h => ?_
  refine LWo.appendM (f := e_impl_Value) e3 rfl u_Limpl_Value u_Limpl_Value (fun _ h => by cases h) s_impl_Value i_impl_Value rfl rfl rfl (.sl rfl) rfl rfl (hn := ?_)
  refine LWo.assign (.own 1003 0 (x3).length) rfl (hn := ?_)
  refine LWo.nil (hN2 _ ?_)
  obtain rfl := Option.some.inj h
  refine LWP.ret (QG.mk (.inr rfl) (.cons (.tmp (x := (.own 1003 0 (x3).length)) rfl) (.nil)) (RetOK.one0 (.nwM rfl rfl) (by decide)) rfl rfl)

def m_spec_l3Same_j1  : Option Bool :=
  some true
def m_spec_l3Same_l1 : Nat → (List S_impl_Value) → (List S_impl_Value) → Int → Option Bool
  | 0, _, _, _ => none
  | n1 + 1, t0, t1, t5 =>
    bif decide (t5 < (t0.length : Int)) then ((at? t0 t5).bind fun x15 =>
    (at? t1 t5).bind fun x16 =>
    bif (!(decide (x15 = x16))) then (some false)
    else ((ckI (t5 + (1 : Int))).bind fun x19 =>
    (m_spec_l3Same_l1  n1) t0 t1 x19))
    else (m_spec_l3Same_j1  )
def m_spec_l3Same (a0 : (List S_impl_Value)) (a1 : (List S_impl_Value)) : Option Bool :=
  bif ((a0.length : Int) != (a1.length : Int)) then (some false)
  else (m_spec_l3Same_l1  (((a0.length : Int) - (0 : Int)).toNat + 1) a0 a1 (0 : Int))
theorem c_spec_l3Same (a0 : (List S_impl_Value)) (a1 : (List S_impl_Value)) (r : Bool) (h : m_spec_l3Same a0 a1 = some r) : Ret Try.prog f_spec_l3Same [e_Limpl_Value a0, e_Limpl_Value a1] (e_bool r) := by
  refine Does.goG [] F_spec_l3Same rfl e_spec_l3Same n_spec_l3Same rfl (rvs := [.tmp 4]) rfl rfl ?_
  intro w0 ok0 lent ρ0
  refine LWP.seq_k fun N1 hN1 => ?_
  refine LWP.region (l := [_]) ?_
  refine LWo.assign (e_bool false) rfl (hn := ?_)
  refine LWo.nil (hN1 _ ?_)
  refine LWP.seq_k fun N2 hN2 => ?_
  refine LWP.seq_k fun N3 hN3 => ?_
  refine LWP.region (l := [_,_,_,_,_]) ?_
  refine LWo.move (e_Limpl_Value a0) rfl (hn := ?_)
  refine LWo.lenM (f := e_impl_Value) (l := a0) u_Limpl_Value rfl (hn := ?_)
  refine LWo.move (e_Limpl_Value a1) rfl (hn := ?_)
  refine LWo.lenM (f := e_impl_Value) (l := a1) u_Limpl_Value rfl (hn := ?_)
  refine LWo.int _ rfl rfl rfl (hn := ?_)
  refine LWo.nil (hN3 _ ?_)
  refine LWP.cond_split rfl (fun h4 => ?_) (fun h4 => ?_)
  ·have h := bT h4 h
   refine LWP.seq_k fun N5 hN5 => ?_
   refine LWP.region (l := [_]) ?_
   refine LWo.assign (e_bool false) rfl (hn := ?_)
   refine LWo.nil (hN5 _ ?_)
   obtain rfl := Option.some.inj h
   refine LWP.ret (QG.mk (.inr rfl) (.cons (.tmp (x := (e_bool false)) rfl) (.nil)) (RetOK.one0 (.pure rfl) (by decide)) rfl rfl)
  ·have h := bF h4 h
   refine LWP.skip (hN2 _ ?_)
   refine LWP.join (α := Unit) (fun z : Unit => []) (fun z : Unit => []) (fun z : Unit => m_spec_l3Same_j1  ) r (fun _ => by simp [hkeys]) ?_ ?_
   ·rintro _ h
    replace h : m_spec_l3Same_j1   = some _ := h
    refine LWP.seq_k fun N20 hN20 => ?_
    refine LWP.region (l := [_]) ?_
    refine LWo.assign (e_bool true) rfl (hn := ?_)
    refine LWo.nil (hN20 _ ?_)
    obtain rfl := Option.some.inj h
    refine LWP.ret (QG.mk (.inr rfl) (.cons (.tmp (x := (e_bool true)) rfl) (.nil)) (RetOK.one0 (.pure rfl) (by decide)) rfl rfl)
   ·intro N6 hN6
    refine LWP.seq_k fun N7 hN7 => ?_
    refine LWP.region (l := [_]) ?_
    refine LWo.assign (e_int (0 : Int)) rfl (hn := ?_)
    refine LWo.nil (hN7 _ ?_)
    refine LWP.block ?_
    refine LWP.loopM (α := (List S_impl_Value) × (List S_impl_Value) × Int) (fun z : (List S_impl_Value) × (List S_impl_Value) × Int => [(0, (e_Limpl_Value z.1)), (1, (e_Limpl_Value z.2.1)), (5, (e_int z.2.2))]) (fun z : (List S_impl_Value) × (List S_impl_Value) × Int => []) (fun n1 (z : (List S_impl_Value) × (List S_impl_Value) × Int) => m_spec_l3Same_l1  n1 z.1 z.2.1 z.2.2) r _ (a0, a1, (0 : Int)) h (fun _ => rfl) (fun _ => by simp [hkeys]) ⟨rfl, rfl, rfl, trivial⟩ trivial ?_
    rintro n1 ⟨t0, t1, t5⟩ h N8 hN8
    replace h : m_spec_l3Same_l1  (n1 + 1) t0 t1 t5 = some _ := h
    refine LWP.seq_k fun N10 hN10 => ?_
    refine LWP.seq_k fun N11 hN11 => ?_
    refine LWP.region (l := [_,_,_,_]) ?_
    refine LWo.move (e_int t5) rfl (hn := ?_)
    refine LWo.move (e_Limpl_Value t0) rfl (hn := ?_)
    refine LWo.lenM (f := e_impl_Value) (l := t0) u_Limpl_Value rfl (hn := ?_)
    refine LWo.int _ rfl rfl rfl (hn := ?_)
    refine LWo.nil (hN11 _ ?_)
    refine LWP.cond_split rfl (fun h12 => ?_) (fun h12 => ?_)
    ·have h := bT h12 h
     refine LWP.skip (hN10 _ ?_)
     refine LWP.seq_k fun N13 hN13 => ?_
     refine LWP.block ?_
     refine LWP.seq_k fun N14 hN14 => ?_
     refine bk h fun x15 e15 h => ?_
     refine bk h fun x16 e16 h => ?_
     refine LWP.drawF (l := [_,_,_,_,_,_,_,_,_]) [] [0, 1, 5] [([0], []), ([5], []), ([17, 18], []), ([19], []), ([1], []), ([5], []), ([21, 22], []), ([23], []), ([20, 24], [])] [0, 1, 5, 25] [] mixed (by kernel_rfl) rfl (by decide) ?_
     refine dq 17 rfl (fun _ g u h => LWo.move (e_Limpl_Value t0) u.1 (hn := .nil (zn g))) ?_
     refine dq 18 rfl (fun _ g u h => LWo.move (e_int t5) u.1 (hn := .nil (zn g))) ?_
     refine dq 19 rfl (fun _ g u h => LWo.indexM (f := e_impl_Value) e15 u_Limpl_Value s_impl_Value u.1 u.2.1 (hn := .nil (zn g))) ?_
     refine dq 20 rfl (fun _ g u h => LWo.loadN ((e_impl_Value x15)).cells g_impl_Value s_impl_Value u.1 (Nat.le_of_ble_eq_true rfl) rfl (hn := .nil (zn g))) ?_
     refine dq 21 rfl (fun _ g u h => LWo.move (e_Limpl_Value t1) u.1 (hn := .nil (zn g))) ?_
     refine dq 22 rfl (fun _ g u h => LWo.move (e_int t5) u.1 (hn := .nil (zn g))) ?_
     refine dq 23 rfl (fun _ g u h => LWo.indexM (f := e_impl_Value) e16 u_Limpl_Value s_impl_Value u.1 u.2.1 (hn := .nil (zn g))) ?_
     refine dq 24 rfl (fun _ g u h => LWo.loadN ((e_impl_Value x16)).cells g_impl_Value s_impl_Value u.1 (Nat.le_of_ble_eq_true rfl) rfl (hn := .nil (zn g))) ?_
     refine dq 25 rfl (fun _ g u h => LWo.ne_impl_Value _ _ u.1 u.2.1 (hn := .nil (zn g))) ?_
     refine ⟨rfl, by kernel_rfl, hN14 _ ?_⟩
     refine LWP.cond_split rfl (fun h17 => ?_) (fun h17 => ?_)
     ·have h := bT h17 h
      refine LWP.seq_k fun N18 hN18 => ?_
      refine LWP.region (l := [_]) ?_
      refine LWo.assign (e_bool false) rfl (hn := ?_)
      refine LWo.nil (hN18 _ ?_)
      obtain rfl := Option.some.inj h
      refine LWP.ret (QG.mk (.inr rfl) (.cons (.tmp (x := (e_bool false)) rfl) (.nil)) (RetOK.one0 (.pure rfl) (by decide)) rfl rfl)
     ·have h := bF h17 h
      refine LWP.skip (hN13 _ ?_)
      refine LWP.region (l := [_,_,_]) ?_
      refine LWo.move (e_int t5) rfl (hn := ?_)
      refine bk h fun x19 e19 h => ?_
      refine LWo.int _ rfl rfl (add_ck e19) (hn := ?_)
      refine LWo.assign (e_int x19) rfl (hn := ?_)
      refine LWo.nil (hN8 (t0, t1, x19) _ ⟨rfl, rfl, rfl, trivial⟩ trivial h)
    ·have h := bF h12 h
     refine LWP.exit (hN6 () _ trivial trivial h)

def m_spec_RowMany_j2 (t5 : Int) : Option Int :=
  some t5
def m_spec_RowMany_j1 (k1 : (List (List S_impl_Value)) → (List S_impl_Value) → Int → Int → Option Int) (t0 : (List (List S_impl_Value))) (t1 : (List S_impl_Value)) (t5 : Int) (t6 : Int) : Option Int :=
  (ckI (t6 + (1 : Int))).bind fun x16 =>
  k1 t0 t1 t5 x16
def m_spec_RowMany_l1 : Nat → (List (List S_impl_Value)) → (List S_impl_Value) → Int → Int → Option Int
  | 0, _, _, _, _ => none
  | n1 + 1, t0, t1, t5, t6 =>
    bif decide (t6 < (t0.length : Int)) then ((at? t0 t6).bind fun x12 =>
    (m_spec_l3Same x12 t1).bind fun x13 =>
    bif x13 then ((ckI (t5 + (1 : Int))).bind fun x15 =>
      m_spec_RowMany_j1  (m_spec_RowMany_l1  n1) t0 t1 x15 t6)
    else (m_spec_RowMany_j1  (m_spec_RowMany_l1  n1) t0 t1 t5 t6))
    else (m_spec_RowMany_j2  t5)
def m_spec_RowMany (a0 : (List (List S_impl_Value))) (a1 : (List S_impl_Value)) : Option Int :=
  m_spec_RowMany_l1  (((a0.length : Int) - (0 : Int)).toNat + 1) a0 a1 (0 : Int) (0 : Int)
theorem c_spec_RowMany (a0 : (List (List S_impl_Value))) (a1 : (List S_impl_Value)) (r : Int) (h : m_spec_RowMany a0 a1 = some r) : Ret Try.prog f_spec_RowMany [e_LLimpl_Value a0, e_Limpl_Value a1] (e_int r) := by
  refine Does.goG [] F_spec_RowMany rfl e_spec_RowMany n_spec_RowMany rfl (rvs := [.tmp 4]) rfl rfl ?_
  intro w0 ok0 lent ρ0
  refine LWP.seq_k fun N1 hN1 => ?_
  refine LWP.region (l := [_]) ?_
  refine LWo.assign (e_int (0 : Int)) rfl (hn := ?_)
  refine LWo.nil (hN1 _ ?_)
  refine LWP.seq_k fun N2 hN2 => ?_
  refine LWP.region (l := [_]) ?_
  refine LWo.assign (e_int (0 : Int)) rfl (hn := ?_)
  refine LWo.nil (hN2 _ ?_)
  refine LWP.join (α := Int) (fun z : Int => [(5, (e_int z))]) (fun z : Int => []) (fun z : Int => m_spec_RowMany_j2  z) r (fun _ => by simp [hkeys]) ?_ ?_
  ·rintro t5 h
   replace h : m_spec_RowMany_j2  t5 = some _ := h
   refine LWP.seq_k fun N17 hN17 => ?_
   refine LWP.region (l := [_,_]) ?_
   refine LWo.move (e_int t5) rfl (hn := ?_)
   refine LWo.assign (e_int t5) rfl (hn := ?_)
   refine LWo.nil (hN17 _ ?_)
   obtain rfl := Option.some.inj h
   refine LWP.ret (QG.mk (.inr rfl) (.cons (.tmp (x := (e_int t5)) rfl) (.nil)) (RetOK.one0 (.pure rfl) (by decide)) rfl rfl)
  ·intro N3 hN3
   refine LWP.seq_k fun N4 hN4 => ?_
   refine LWP.region (l := [_]) ?_
   refine LWo.assign (e_int (0 : Int)) rfl (hn := ?_)
   refine LWo.nil (hN4 _ ?_)
   refine LWP.block ?_
   refine LWP.loopM (α := (List (List S_impl_Value)) × (List S_impl_Value) × Int × Int) (fun z : (List (List S_impl_Value)) × (List S_impl_Value) × Int × Int => [(0, (e_LLimpl_Value z.1)), (1, (e_Limpl_Value z.2.1)), (5, (e_int z.2.2.1)), (6, (e_int z.2.2.2))]) (fun z : (List (List S_impl_Value)) × (List S_impl_Value) × Int × Int => []) (fun n1 (z : (List (List S_impl_Value)) × (List S_impl_Value) × Int × Int) => m_spec_RowMany_l1  n1 z.1 z.2.1 z.2.2.1 z.2.2.2) r _ (a0, a1, (0 : Int), (0 : Int)) h (fun _ => rfl) (fun _ => by simp [hkeys]) ⟨rfl, rfl, rfl, rfl, trivial⟩ trivial ?_
   rintro n1 ⟨t0, t1, t5, t6⟩ h N5 hN5
   replace h : m_spec_RowMany_l1  (n1 + 1) t0 t1 t5 t6 = some _ := h
   refine LWP.seq_k fun N7 hN7 => ?_
   refine LWP.seq_k fun N8 hN8 => ?_
   refine LWP.region (l := [_,_,_,_]) ?_
   refine LWo.move (e_int t6) rfl (hn := ?_)
   refine LWo.move (e_LLimpl_Value t0) rfl (hn := ?_)
   refine LWo.lenM (f := e_Limpl_Value) (l := t0) u_LLimpl_Value rfl (hn := ?_)
   refine LWo.int _ rfl rfl rfl (hn := ?_)
   refine LWo.nil (hN8 _ ?_)
   refine LWP.cond_split rfl (fun h9 => ?_) (fun h9 => ?_)
   ·have h := bT h9 h
    refine LWP.skip (hN7 _ ?_)
    refine LWP.join (α := (List (List S_impl_Value)) × (List S_impl_Value) × Int × Int) (fun z : (List (List S_impl_Value)) × (List S_impl_Value) × Int × Int => [(0, (e_LLimpl_Value z.1)), (1, (e_Limpl_Value z.2.1)), (5, (e_int z.2.2.1)), (6, (e_int z.2.2.2))]) (fun z : (List (List S_impl_Value)) × (List S_impl_Value) × Int × Int => []) (fun z : (List (List S_impl_Value)) × (List S_impl_Value) × Int × Int => m_spec_RowMany_j1  (m_spec_RowMany_l1  n1) z.1 z.2.1 z.2.2.1 z.2.2.2) r (fun _ => by simp [hkeys]) ?_ ?_
    ·rintro ⟨t0, t1, t5, t6⟩ h
     replace h : m_spec_RowMany_j1  (m_spec_RowMany_l1  n1) t0 t1 t5 t6 = some _ := h
     refine LWP.region (l := [_,_,_]) ?_
     refine LWo.move (e_int t6) rfl (hn := ?_)
     refine bk h fun x16 e16 h => ?_
     refine LWo.int _ rfl rfl (add_ck e16) (hn := ?_)
     refine LWo.assign (e_int x16) rfl (hn := ?_)
     refine LWo.nil (hN5 (t0, t1, t5, x16) _ ⟨rfl, rfl, rfl, rfl, trivial⟩ trivial h)
    ·intro N10 hN10
     refine LWP.block ?_
     refine LWP.seq_k fun N11 hN11 => ?_
     refine LWP.region (l := [_,_,_,_,_,_]) ?_
     refine LWo.move (e_LLimpl_Value t0) rfl (hn := ?_)
     refine LWo.move (e_int t6) rfl (hn := ?_)
     refine bk h fun x12 e12 h => ?_
     refine LWo.indexM (f := e_Limpl_Value) e12 u_LLimpl_Value s_Limpl_Value rfl rfl (hn := ?_)
     refine LWo.load1 (c := (e_Limpl_Value x12)) g_Limpl_Value rfl (hn := ?_)
     refine LWo.move (e_Limpl_Value t1) rfl (hn := ?_)
     refine bk h fun x13 e13 h => ?_
     refine LWo.vcall rfl rfl (c_spec_l3Same _ _ _ e13) (.same (.same (.nil))) (hn := ?_)
     refine LWo.nil (hN11 _ ?_)
     refine LWP.cond_split rfl (fun h14 => ?_) (fun h14 => ?_)
     ·have h := bT h14 h
      refine LWP.region (l := [_,_,_]) ?_
      refine LWo.move (e_int t5) rfl (hn := ?_)
      refine bk h fun x15 e15 h => ?_
      refine LWo.int _ rfl rfl (add_ck e15) (hn := ?_)
      refine LWo.assign (e_int x15) rfl (hn := ?_)
      refine LWo.nil (hN10 (t0, t1, x15, t6) _ ⟨rfl, rfl, rfl, rfl, trivial⟩ trivial h)
     ·have h := bF h14 h
      refine LWP.skip (hN10 (t0, t1, t5, t6) _ ⟨rfl, rfl, rfl, rfl, trivial⟩ trivial h)
   ·have h := bF h9 h
    refine LWP.exit (hN3 t5 _ ⟨rfl, trivial⟩ trivial h)

def m_spec_RowsLess_j2 (o1008 : (List (List S_impl_Value))) : Option (List (List S_impl_Value)) :=
  some o1008
def m_spec_RowsLess_j1 (k1 : (List (List S_impl_Value)) → (List (List S_impl_Value)) → Int → (List (List S_impl_Value)) → (List (List S_impl_Value)) → Option (List (List S_impl_Value))) (t0 : (List (List S_impl_Value))) (t1 : (List (List S_impl_Value))) (t7 : Int) (o1008 : (List (List S_impl_Value))) (o1009 : (List (List S_impl_Value))) : Option (List (List S_impl_Value)) :=
  (ckI (t7 + (1 : Int))).bind fun x23 =>
  k1 t0 t1 x23 o1008 o1009
def m_spec_RowsLess_l1 : Nat → (List (List S_impl_Value)) → (List (List S_impl_Value)) → Int → (List (List S_impl_Value)) → (List (List S_impl_Value)) → Option (List (List S_impl_Value))
  | 0, _, _, _, _, _ => none
  | n1 + 1, t0, t1, t7, o1008, o1009 =>
    bif decide (t7 < (t0.length : Int)) then ((at? t0 t7).bind fun x13 =>
    (m_spec_RowMany o1009 x13).bind fun x14 =>
    (at? t0 t7).bind fun x15 =>
    (m_spec_RowMany t1 x15).bind fun x16 =>
    bif decide (x14 < x16) then ((at? t0 t7).bind fun x18 =>
      (app? o1009 ([x18] : (List (List S_impl_Value)))).bind fun x19 =>
      m_spec_RowsLess_j1  (m_spec_RowsLess_l1  n1) t0 t1 t7 o1008 x19)
    else ((at? t0 t7).bind fun x20 =>
      (m_spec_l3Own x20).bind fun x21 =>
      (app? o1008 ([x21] : (List (List S_impl_Value)))).bind fun x22 =>
      m_spec_RowsLess_j1  (m_spec_RowsLess_l1  n1) t0 t1 t7 x22 o1009))
    else (m_spec_RowsLess_j2  o1008)
def m_spec_RowsLess (a0 : (List (List S_impl_Value))) (a1 : (List (List S_impl_Value))) : Option (List (List S_impl_Value)) :=
  m_spec_RowsLess_l1  (((a0.length : Int) - (0 : Int)).toNat + 1) a0 a1 (0 : Int) ([] : (List (List S_impl_Value))) ([] : (List (List S_impl_Value)))
theorem c_spec_RowsLess (a0 : (List (List S_impl_Value))) (a1 : (List (List S_impl_Value))) (r : (List (List S_impl_Value))) (h : m_spec_RowsLess a0 a1 = some r) : Ret Try.prog f_spec_RowsLess [e_LLimpl_Value a0, e_LLimpl_Value a1] (.nw 1 (r.map e_Limpl_Value) false) := by
  refine Does.goG [] F_spec_RowsLess rfl e_spec_RowsLess n_spec_RowsLess rfl (rvs := [.tmp 4]) rfl rfl ?_
  intro w0 ok0 lent ρ0
  refine LWP.seq_k fun N1 hN1 => ?_
  refine LWP.region (l := [_]) ?_
  refine LWo.assign _ rfl (hn := ?_)
  refine LWo.ownNil 4 1004 1 rfl rfl rfl ?_
  refine LWo.known 4 (.own 1004 0 ([] : (List (List S_impl_Value))).length) rfl ?_
  refine LWo.nil (hN1 _ ?_)
  refine LWP.seq_k fun N2 hN2 => ?_
  refine LWP.region (l := [_,_]) ?_
  refine LWo.lit0 1008 u_LLimpl_Value s_Limpl_Value z_Limpl_Value (hn := ?_)
  refine LWo.known 8 (.own 1008 0 ([] : (List (List S_impl_Value))).length) rfl ?_
  refine LWo.assign (.own 1008 0 (([] : (List (List S_impl_Value)))).length) rfl (hn := ?_)
  refine LWo.nil (hN2 _ ?_)
  refine LWP.seq_k fun N3 hN3 => ?_
  refine LWP.region (l := [_,_]) ?_
  refine LWo.lit0 1009 u_LLimpl_Value s_Limpl_Value z_Limpl_Value (hn := ?_)
  refine LWo.known 9 (.own 1009 0 ([] : (List (List S_impl_Value))).length) rfl ?_
  refine LWo.assign (.own 1009 0 (([] : (List (List S_impl_Value)))).length) rfl (hn := ?_)
  refine LWo.nil (hN3 _ ?_)
  refine LWP.join (α := (List (List S_impl_Value))) (fun z : (List (List S_impl_Value)) => [(5, (.own 1008 0 (z).length))]) (fun z : (List (List S_impl_Value)) => [(1008, (lob 1 e_Limpl_Value z))]) (fun z : (List (List S_impl_Value)) => m_spec_RowsLess_j2  z) r (fun _ => by simp [hkeys]) ?_ ?_
  ·rintro o1008 h
   replace h : m_spec_RowsLess_j2  o1008 = some _ := h
   refine LWP.seq_k fun N24 hN24 => ?_
   refine LWP.region (l := [_,_]) ?_
   refine LWo.move (.own 1008 0 (o1008).length) rfl (hn := ?_)
   refine LWo.assign (.own 1008 0 (o1008).length) rfl (hn := ?_)
   refine LWo.nil (hN24 _ ?_)
   obtain rfl := Option.some.inj h
   refine LWP.ret (QG.mk (.inr rfl) (.cons (.tmp (x := (.own 1008 0 (o1008).length)) rfl) (.nil)) (RetOK.one0 (.nwM rfl rfl) (by decide)) rfl rfl)
  ·intro N4 hN4
   refine LWP.seq_k fun N5 hN5 => ?_
   refine LWP.region (l := [_]) ?_
   refine LWo.assign (e_int (0 : Int)) rfl (hn := ?_)
   refine LWo.nil (hN5 _ ?_)
   refine LWP.block ?_
   refine LWP.loopM (α := (List (List S_impl_Value)) × (List (List S_impl_Value)) × Int × (List (List S_impl_Value)) × (List (List S_impl_Value))) (fun z : (List (List S_impl_Value)) × (List (List S_impl_Value)) × Int × (List (List S_impl_Value)) × (List (List S_impl_Value)) => [(0, (e_LLimpl_Value z.1)), (1, (e_LLimpl_Value z.2.1)), (5, (.own 1008 0 (z.2.2.2.1).length)), (6, (.own 1009 0 (z.2.2.2.2).length)), (7, (e_int z.2.2.1))]) (fun z : (List (List S_impl_Value)) × (List (List S_impl_Value)) × Int × (List (List S_impl_Value)) × (List (List S_impl_Value)) => [(1008, (lob 1 e_Limpl_Value z.2.2.2.1)), (1009, (lob 1 e_Limpl_Value z.2.2.2.2))]) (fun n1 (z : (List (List S_impl_Value)) × (List (List S_impl_Value)) × Int × (List (List S_impl_Value)) × (List (List S_impl_Value))) => m_spec_RowsLess_l1  n1 z.1 z.2.1 z.2.2.1 z.2.2.2.1 z.2.2.2.2) r _ (a0, a1, (0 : Int), ([] : (List (List S_impl_Value))), ([] : (List (List S_impl_Value)))) h (fun _ => rfl) (fun _ => by simp [hkeys]) ⟨rfl, rfl, rfl, rfl, rfl, trivial⟩ ⟨rfl, rfl, trivial⟩ ?_
   rintro n1 ⟨t0, t1, t7, o1008, o1009⟩ h N6 hN6
   replace h : m_spec_RowsLess_l1  (n1 + 1) t0 t1 t7 o1008 o1009 = some _ := h
   refine LWP.seq_k fun N8 hN8 => ?_
   refine LWP.seq_k fun N9 hN9 => ?_
   refine LWP.region (l := [_,_,_,_]) ?_
   refine LWo.move (e_int t7) rfl (hn := ?_)
   refine LWo.move (e_LLimpl_Value t0) rfl (hn := ?_)
   refine LWo.lenM (f := e_Limpl_Value) (l := t0) u_LLimpl_Value rfl (hn := ?_)
   refine LWo.int _ rfl rfl rfl (hn := ?_)
   refine LWo.nil (hN9 _ ?_)
   refine LWP.cond_split rfl (fun h10 => ?_) (fun h10 => ?_)
   ·have h := bT h10 h
    refine LWP.skip (hN8 _ ?_)
    refine LWP.join (α := (List (List S_impl_Value)) × (List (List S_impl_Value)) × Int × (List (List S_impl_Value)) × (List (List S_impl_Value))) (fun z : (List (List S_impl_Value)) × (List (List S_impl_Value)) × Int × (List (List S_impl_Value)) × (List (List S_impl_Value)) => [(0, (e_LLimpl_Value z.1)), (1, (e_LLimpl_Value z.2.1)), (5, (.own 1008 0 (z.2.2.2.1).length)), (6, (.own 1009 0 (z.2.2.2.2).length)), (7, (e_int z.2.2.1))]) (fun z : (List (List S_impl_Value)) × (List (List S_impl_Value)) × Int × (List (List S_impl_Value)) × (List (List S_impl_Value)) => [(1008, (lob 1 e_Limpl_Value z.2.2.2.1)), (1009, (lob 1 e_Limpl_Value z.2.2.2.2))]) (fun z : (List (List S_impl_Value)) × (List (List S_impl_Value)) × Int × (List (List S_impl_Value)) × (List (List S_impl_Value)) => m_spec_RowsLess_j1  (m_spec_RowsLess_l1  n1) z.1 z.2.1 z.2.2.1 z.2.2.2.1 z.2.2.2.2) r (fun _ => by simp [hkeys]) ?_ ?_
    ·rintro ⟨t0, t1, t7, o1008, o1009⟩ h
     replace h : m_spec_RowsLess_j1  (m_spec_RowsLess_l1  n1) t0 t1 t7 o1008 o1009 = some _ := h
     refine LWP.region (l := [_,_,_]) ?_
     refine LWo.move (e_int t7) rfl (hn := ?_)
     refine bk h fun x23 e23 h => ?_
     refine LWo.int _ rfl rfl (add_ck e23) (hn := ?_)
     refine LWo.assign (e_int x23) rfl (hn := ?_)
     refine LWo.nil (hN6 (t0, t1, x23, o1008, o1009) _ ⟨rfl, rfl, rfl, rfl, rfl, trivial⟩ ⟨rfl, rfl, trivial⟩ h)
    ·intro N11 hN11
     refine LWP.block ?_
     refine LWP.seq_k fun N12 hN12 => ?_
     refine bk h fun x13 e13 h => ?_
     refine bk h fun x14 e14 h => ?_
     refine bk h fun x15 e15 h => ?_
     refine bk h fun x16 e16 h => ?_
     refine LWP.drawF (l := [_,_,_,_,_,_,_,_,_,_,_,_,_]) [] [0, 1, 5, 6, 7] [([6], []), ([0], []), ([7], []), ([17, 18], []), ([19], []), ([16, 20], [1009]), ([1], []), ([0], []), ([7], []), ([23, 24], []), ([25], []), ([22, 26], []), ([21, 27], [])] [0, 1, 5, 6, 7, 28] [1008, 1009] mixed (by kernel_rfl) rfl (by decide) ?_
     refine dq 16 rfl (fun _ g u h => LWo.move (.own 1009 0 (o1009).length) u.1 (hn := .nil (zn g))) ?_
     refine dq 17 rfl (fun _ g u h => LWo.move (e_LLimpl_Value t0) u.1 (hn := .nil (zn g))) ?_
     refine dq 18 rfl (fun _ g u h => LWo.move (e_int t7) u.1 (hn := .nil (zn g))) ?_
     refine dq 19 rfl (fun _ g u h => LWo.indexM (f := e_Limpl_Value) e13 u_LLimpl_Value s_Limpl_Value u.1 u.2.1 (hn := .nil (zn g))) ?_
     refine dq 20 rfl (fun _ g u h => LWo.load1 (c := (e_Limpl_Value x13)) g_Limpl_Value u.1 (hn := .nil (zn g))) ?_
     refine dq 21 rfl (fun _ g u h => LWo.wcall rfl (av2 u.1 u.2.1) (c_spec_RowMany _ _ _ e14) (.viewM h.1 rfl rfl (.same (.nil))) rfl (hn := .nil (zn g))) ?_
     refine dq 22 rfl (fun _ g u h => LWo.move (e_LLimpl_Value t1) u.1 (hn := .nil (zn g))) ?_
     refine dq 23 rfl (fun _ g u h => LWo.move (e_LLimpl_Value t0) u.1 (hn := .nil (zn g))) ?_
     refine dq 24 rfl (fun _ g u h => LWo.move (e_int t7) u.1 (hn := .nil (zn g))) ?_
     refine dq 25 rfl (fun _ g u h => LWo.indexM (f := e_Limpl_Value) e15 u_LLimpl_Value s_Limpl_Value u.1 u.2.1 (hn := .nil (zn g))) ?_
     refine dq 26 rfl (fun _ g u h => LWo.load1 (c := (e_Limpl_Value x15)) g_Limpl_Value u.1 (hn := .nil (zn g))) ?_
     refine dq 27 rfl (fun _ g u h => LWo.vcall rfl (av2 u.1 u.2.1) (c_spec_RowMany _ _ _ e16) (.same (.same (.nil))) (hn := .nil (zn g))) ?_
     refine dq 28 rfl (fun _ g u h => LWo.int _ u.1 u.2.1 rfl (hn := .nil (zn g))) ?_
     refine ⟨rfl, by kernel_rfl, hN12 _ ?_⟩
     refine LWP.cond_split rfl (fun h17 => ?_) (fun h17 => ?_)
     ·have h := bT h17 h
      refine LWP.region (l := [_,_,_,_,_,_,_,_]) ?_
      refine LWo.move (.own 1009 0 (o1009).length) rfl (hn := ?_)
      refine LWo.move (e_LLimpl_Value t0) rfl (hn := ?_)
      refine LWo.move (e_int t7) rfl (hn := ?_)
      refine bk h fun x18 e18 h => ?_
      refine LWo.indexM (f := e_Limpl_Value) e18 u_LLimpl_Value s_Limpl_Value rfl rfl (hn := ?_)
      refine LWo.load1 (c := (e_Limpl_Value x18)) g_Limpl_Value rfl (hn := ?_)
      refine LWo.lit (ops := [_]) [(e_Limpl_Value x18)] u_LLimpl_Value s_Limpl_Value z_Limpl_Value rfl rfl rfl rfl rfl rfl (hn := ?_)
      refine bk h fun x19 e19 h => ?_
      refine LWo.appendM (f := e_Limpl_Value) e19 rfl u_LLimpl_Value u_LLimpl_Value (fun _ h => by cases h) s_Limpl_Value i_Limpl_Value rfl rfl rfl (.sl rfl) rfl rfl (hn := ?_)
      refine LWo.assign (.own 1009 0 (x19).length) rfl (hn := ?_)
      refine LWo.nil (hN11 (t0, t1, t7, o1008, x19) _ ⟨rfl, rfl, rfl, rfl, rfl, trivial⟩ ⟨rfl, rfl, trivial⟩ h)
     ·have h := bF h17 h
      refine LWP.region (l := [_,_,_,_,_,_,_,_,_]) ?_
      refine LWo.move (.own 1008 0 (o1008).length) rfl (hn := ?_)
      refine LWo.move (e_LLimpl_Value t0) rfl (hn := ?_)
      refine LWo.move (e_int t7) rfl (hn := ?_)
      refine bk h fun x20 e20 h => ?_
      refine LWo.indexM (f := e_Limpl_Value) e20 u_LLimpl_Value s_Limpl_Value rfl rfl (hn := ?_)
      refine LWo.load1 (c := (e_Limpl_Value x20)) g_Limpl_Value rfl (hn := ?_)
      refine bk h fun x21 e21 h => ?_
      refine LWo.vcall rfl rfl (c_spec_l3Own _ _ e21) (.same (.nil)) (hn := ?_)
      refine LWo.lit (ops := [_]) [(e_Limpl_Value x21)] u_LLimpl_Value s_Limpl_Value z_Limpl_Value rfl rfl rfl rfl rfl rfl (hn := ?_)
      refine bk h fun x22 e22 h => ?_
      refine LWo.appendM (f := e_Limpl_Value) e22 rfl u_LLimpl_Value u_LLimpl_Value (fun _ h => by cases h) s_Limpl_Value i_Limpl_Value rfl rfl rfl (.sl rfl) rfl rfl (hn := ?_)
      refine LWo.assign (.own 1008 0 (x22).length) rfl (hn := ?_)
      refine LWo.nil (hN11 (t0, t1, t7, x22, o1009) _ ⟨rfl, rfl, rfl, rfl, rfl, trivial⟩ ⟨rfl, rfl, trivial⟩ h)
   ·have h := bF h10 h
    refine LWP.exit (hN4 o1008 _ ⟨rfl, trivial⟩ ⟨rfl, trivial⟩ h)

def m_spec_l1Less (a0 : Int) (a1 : Int) : Option Int :=
  bif decide (a0 < a1) then (some (1 : Int))
  else (some (0 : Int))
theorem c_spec_l1Less (a0 : Int) (a1 : Int) (r : Int) (h : m_spec_l1Less a0 a1 = some r) : Ret Try.prog f_spec_l1Less [e_int a0, e_int a1] (e_int r) := by
  refine Does.goG [] F_spec_l1Less rfl e_spec_l1Less n_spec_l1Less rfl (rvs := [.tmp 4]) rfl rfl ?_
  intro w0 ok0 lent ρ0
  refine LWP.seq_k fun N1 hN1 => ?_
  refine LWP.region (l := [_]) ?_
  refine LWo.assign (e_int (0 : Int)) rfl (hn := ?_)
  refine LWo.nil (hN1 _ ?_)
  refine LWP.seq_k fun N2 hN2 => ?_
  refine LWP.seq_k fun N3 hN3 => ?_
  refine LWP.region (l := [_,_,_]) ?_
  refine LWo.move (e_int a0) rfl (hn := ?_)
  refine LWo.move (e_int a1) rfl (hn := ?_)
  refine LWo.int _ rfl rfl rfl (hn := ?_)
  refine LWo.nil (hN3 _ ?_)
  refine LWP.cond_split rfl (fun h4 => ?_) (fun h4 => ?_)
  ·have h := bT h4 h
   refine LWP.seq_k fun N5 hN5 => ?_
   refine LWP.region (l := [_]) ?_
   refine LWo.assign (e_int (1 : Int)) rfl (hn := ?_)
   refine LWo.nil (hN5 _ ?_)
   obtain rfl := Option.some.inj h
   refine LWP.ret (QG.mk (.inr rfl) (.cons (.tmp (x := (e_int (1 : Int))) rfl) (.nil)) (RetOK.one0 (.pure rfl) (by decide)) rfl rfl)
  ·have h := bF h4 h
   refine LWP.skip (hN2 _ ?_)
   refine LWP.seq_k fun N6 hN6 => ?_
   refine LWP.region (l := [_]) ?_
   refine LWo.assign (e_int (0 : Int)) rfl (hn := ?_)
   refine LWo.nil (hN6 _ ?_)
   obtain rfl := Option.some.inj h
   refine LWP.ret (QG.mk (.inr rfl) (.cons (.tmp (x := (e_int (0 : Int))) rfl) (.nil)) (RetOK.one0 (.pure rfl) (by decide)) rfl rfl)

def m_spec_l1Cmp (a0 : ByteArray) (a1 : ByteArray) : Option Int :=
  bif (sLt a0 a1) then (some (-1 : Int))
  else (bif (!(sLt a0 a1 || sEq a0 a1)) then (some (1 : Int))
  else (some (0 : Int)))
theorem c_spec_l1Cmp (a0 : ByteArray) (a1 : ByteArray) (r : Int) (h : m_spec_l1Cmp a0 a1 = some r) : Ret Try.prog f_spec_l1Cmp [e_string a0, e_string a1] (e_int r) := by
  refine Does.goG [] F_spec_l1Cmp rfl e_spec_l1Cmp n_spec_l1Cmp rfl (rvs := [.tmp 4]) rfl rfl ?_
  intro w0 ok0 lent ρ0
  refine LWP.seq_k fun N1 hN1 => ?_
  refine LWP.region (l := [_]) ?_
  refine LWo.assign (e_int (0 : Int)) rfl (hn := ?_)
  refine LWo.nil (hN1 _ ?_)
  refine LWP.seq_k fun N2 hN2 => ?_
  refine LWP.seq_k fun N3 hN3 => ?_
  refine LWP.region (l := [_,_,_]) ?_
  refine LWo.move (e_string a0) rfl (hn := ?_)
  refine LWo.move (e_string a1) rfl (hn := ?_)
  refine LWo.str _ rfl rfl rfl (hn := ?_)
  refine LWo.nil (hN3 _ ?_)
  refine LWP.cond_split rfl (fun h4 => ?_) (fun h4 => ?_)
  ·have h := bT h4 h
   refine LWP.seq_k fun N5 hN5 => ?_
   refine LWP.region (l := [_]) ?_
   refine LWo.assign (e_int (-1 : Int)) rfl (hn := ?_)
   refine LWo.nil (hN5 _ ?_)
   obtain rfl := Option.some.inj h
   refine LWP.ret (QG.mk (.inr rfl) (.cons (.tmp (x := (e_int (-1 : Int))) rfl) (.nil)) (RetOK.one0 (.pure rfl) (by decide)) rfl rfl)
  ·have h := bF h4 h
   refine LWP.skip (hN2 _ ?_)
   refine LWP.seq_k fun N6 hN6 => ?_
   refine LWP.seq_k fun N7 hN7 => ?_
   refine LWP.region (l := [_,_,_]) ?_
   refine LWo.move (e_string a0) rfl (hn := ?_)
   refine LWo.move (e_string a1) rfl (hn := ?_)
   refine LWo.str _ rfl rfl rfl (hn := ?_)
   refine LWo.nil (hN7 _ ?_)
   refine LWP.cond_split rfl (fun h8 => ?_) (fun h8 => ?_)
   ·have h := bT h8 h
    refine LWP.seq_k fun N9 hN9 => ?_
    refine LWP.region (l := [_]) ?_
    refine LWo.assign (e_int (1 : Int)) rfl (hn := ?_)
    refine LWo.nil (hN9 _ ?_)
    obtain rfl := Option.some.inj h
    refine LWP.ret (QG.mk (.inr rfl) (.cons (.tmp (x := (e_int (1 : Int))) rfl) (.nil)) (RetOK.one0 (.pure rfl) (by decide)) rfl rfl)
   ·have h := bF h8 h
    refine LWP.skip (hN6 _ ?_)
    refine LWP.seq_k fun N10 hN10 => ?_
    refine LWP.region (l := [_]) ?_
    refine LWo.assign (e_int (0 : Int)) rfl (hn := ?_)
    refine LWo.nil (hN10 _ ?_)
    obtain rfl := Option.some.inj h
    refine LWP.ret (QG.mk (.inr rfl) (.cons (.tmp (x := (e_int (0 : Int))) rfl) (.nil)) (RetOK.one0 (.pure rfl) (by decide)) rfl rfl)

def m_spec_ValueOrder_j1 (t2 : S_impl_Value) (t3 : S_impl_Value) (t12 : Bool) : Option Int :=
  bif t12 then (some (0 : Int))
  else (bif (t2.Kind != t3.Kind) then ((m_spec_l1Less t3.Kind t2.Kind).bind fun x13 =>
  (ckI ((2 : Int) * x13)).bind fun x14 =>
  (ckI (x14 - (1 : Int))).bind fun x15 =>
  some x15)
  else (bif (t2.N != t3.N) then ((m_spec_l1Less t3.N t2.N).bind fun x19 =>
    (ckI ((2 : Int) * x19)).bind fun x20 =>
    (ckI (x20 - (1 : Int))).bind fun x21 =>
    some x21)
  else ((m_spec_l1Cmp t2.S t3.S).bind fun x23 =>
  some x23)))
def m_spec_ValueOrder (a0 : S_impl_Value) (a1 : S_impl_Value) : Option Int :=
  (m_spec_ValueOk a0).bind fun x4 =>
  bif (!x4) then (m_spec_ValueOrder_j1  a0 a1 true)
  else ((m_spec_ValueOk a1).bind fun x6 =>
    m_spec_ValueOrder_j1  a0 a1 (!x6))
theorem c_spec_ValueOrder (a0 : S_impl_Value) (a1 : S_impl_Value) (r : Int) (h : m_spec_ValueOrder a0 a1 = some r) : Ret Try.prog f_spec_ValueOrder [e_impl_Value a0, e_impl_Value a1] (e_int r) := by
  refine Does.goG [] F_spec_ValueOrder rfl e_spec_ValueOrder n_spec_ValueOrder rfl (rvs := [.tmp 4]) rfl rfl ?_
  intro w0 ok0 lent ρ0
  refine LWP.seq_k fun N1 hN1 => ?_
  refine LWP.region (l := [_,_,_]) ?_
  refine LWo.boxF (e_impl_Value a0) rfl rfl rfl (hn := ?_)
  refine LWo.boxF (e_impl_Value a1) rfl rfl rfl (hn := ?_)
  refine LWo.assign (e_int (0 : Int)) rfl (hn := ?_)
  refine LWo.nil (hN1 _ ?_)
  refine LWP.seq_k fun N2 hN2 => ?_
  refine LWP.join (α := S_impl_Value × S_impl_Value × Bool) (fun z : S_impl_Value × S_impl_Value × Bool => [(2, (.fp (e_impl_Value z.1).cells)), (3, (.fp (e_impl_Value z.2.1).cells)), (12, (e_bool z.2.2))]) (fun z : S_impl_Value × S_impl_Value × Bool => []) (fun z : S_impl_Value × S_impl_Value × Bool => m_spec_ValueOrder_j1  z.1 z.2.1 z.2.2) r (fun _ => by simp [hkeys]) ?_ ?_
  ·rintro ⟨t2, t3, t12⟩ h
   replace h : m_spec_ValueOrder_j1  t2 t3 t12 = some _ := h
   refine LWP.cond_split rfl (fun h7 => ?_) (fun h7 => ?_)
   ·have h := bT h7 h
    refine LWP.seq_k fun N8 hN8 => ?_
    refine LWP.region (l := [_]) ?_
    refine LWo.assign (e_int (0 : Int)) rfl (hn := ?_)
    refine LWo.nil (hN8 _ ?_)
    obtain rfl := Option.some.inj h
    refine LWP.ret (QG.mk (.inr rfl) (.cons (.tmp (x := (e_int (0 : Int))) rfl) (.nil)) (RetOK.one0 (.pure rfl) (by decide)) rfl rfl)
   ·have h := bF h7 h
    refine LWP.skip (hN2 _ ?_)
    refine LWP.seq_k fun N9 hN9 => ?_
    refine LWP.block ?_
    refine LWP.seq_k fun N10 hN10 => ?_
    refine LWP.region (l := [_,_,_,_,_,_]) ?_
    refine LWo.fieldAddr _ u_impl_Value rfl s_int rfl rfl (hn := ?_)
    refine LWo.load1 (c := (e_int t2.Kind)) g_int rfl (hn := ?_)
    refine LWo.fieldAddr _ u_impl_Value rfl s_int rfl rfl (hn := ?_)
    refine LWo.load1 (c := (e_int t3.Kind)) g_int rfl (hn := ?_)
    refine LWo.int _ rfl rfl rfl (hn := ?_)
    refine LWo.assign (e_bool (t2.Kind != t3.Kind)) rfl (hn := ?_)
    refine LWo.nil (hN10 _ ?_)
    refine LWP.cond_split rfl (fun h11 => ?_) (fun h11 => ?_)
    ·have h := bT h11 h
     refine LWP.seq_k fun N12 hN12 => ?_
     refine LWP.region (l := [_,_,_,_,_,_,_,_]) ?_
     refine LWo.fieldAddr _ u_impl_Value rfl s_int rfl rfl (hn := ?_)
     refine LWo.load1 (c := (e_int t3.Kind)) g_int rfl (hn := ?_)
     refine LWo.fieldAddr _ u_impl_Value rfl s_int rfl rfl (hn := ?_)
     refine LWo.load1 (c := (e_int t2.Kind)) g_int rfl (hn := ?_)
     refine bk h fun x13 e13 h => ?_
     refine LWo.vcall rfl rfl (c_spec_l1Less _ _ _ e13) (.same (.same (.nil))) (hn := ?_)
     refine bk h fun x14 e14 h => ?_
     refine LWo.int _ rfl rfl (mul_ck e14) (hn := ?_)
     refine bk h fun x15 e15 h => ?_
     refine LWo.int _ rfl rfl (sub_ck e15) (hn := ?_)
     refine LWo.assign (e_int x15) rfl (hn := ?_)
     refine LWo.nil (hN12 _ ?_)
     obtain rfl := Option.some.inj h
     refine LWP.ret (QG.mk (.inr rfl) (.cons (.tmp (x := (e_int x15)) rfl) (.nil)) (RetOK.one0 (.pure rfl) (by decide)) rfl rfl)
    ·have h := bF h11 h
     refine LWP.seq_k fun N16 hN16 => ?_
     refine LWP.region (l := [_,_,_,_,_,_]) ?_
     refine LWo.fieldAddr _ u_impl_Value rfl s_int rfl rfl (hn := ?_)
     refine LWo.load1 (c := (e_int t2.N)) g_int rfl (hn := ?_)
     refine LWo.fieldAddr _ u_impl_Value rfl s_int rfl rfl (hn := ?_)
     refine LWo.load1 (c := (e_int t3.N)) g_int rfl (hn := ?_)
     refine LWo.int _ rfl rfl rfl (hn := ?_)
     refine LWo.assign (e_bool (t2.N != t3.N)) rfl (hn := ?_)
     refine LWo.nil (hN16 _ ?_)
     refine LWP.cond_split rfl (fun h17 => ?_) (fun h17 => ?_)
     ·have h := bT h17 h
      refine LWP.seq_k fun N18 hN18 => ?_
      refine LWP.region (l := [_,_,_,_,_,_,_,_]) ?_
      refine LWo.fieldAddr _ u_impl_Value rfl s_int rfl rfl (hn := ?_)
      refine LWo.load1 (c := (e_int t3.N)) g_int rfl (hn := ?_)
      refine LWo.fieldAddr _ u_impl_Value rfl s_int rfl rfl (hn := ?_)
      refine LWo.load1 (c := (e_int t2.N)) g_int rfl (hn := ?_)
      refine bk h fun x19 e19 h => ?_
      refine LWo.vcall rfl rfl (c_spec_l1Less _ _ _ e19) (.same (.same (.nil))) (hn := ?_)
      refine bk h fun x20 e20 h => ?_
      refine LWo.int _ rfl rfl (mul_ck e20) (hn := ?_)
      refine bk h fun x21 e21 h => ?_
      refine LWo.int _ rfl rfl (sub_ck e21) (hn := ?_)
      refine LWo.assign (e_int x21) rfl (hn := ?_)
      refine LWo.nil (hN18 _ ?_)
      obtain rfl := Option.some.inj h
      refine LWP.ret (QG.mk (.inr rfl) (.cons (.tmp (x := (e_int x21)) rfl) (.nil)) (RetOK.one0 (.pure rfl) (by decide)) rfl rfl)
     ·have h := bF h17 h
      refine LWP.skip (hN9 _ ?_)
      refine LWP.seq_k fun N22 hN22 => ?_
      refine LWP.region (l := [_,_,_,_,_,_]) ?_
      refine LWo.fieldAddr _ u_impl_Value rfl s_string rfl rfl (hn := ?_)
      refine LWo.load1 (c := (e_string t2.S)) g_string rfl (hn := ?_)
      refine LWo.fieldAddr _ u_impl_Value rfl s_string rfl rfl (hn := ?_)
      refine LWo.load1 (c := (e_string t3.S)) g_string rfl (hn := ?_)
      refine bk h fun x23 e23 h => ?_
      refine LWo.vcall rfl rfl (c_spec_l1Cmp _ _ _ e23) (.same (.same (.nil))) (hn := ?_)
      refine LWo.assign (e_int x23) rfl (hn := ?_)
      refine LWo.nil (hN22 _ ?_)
      obtain rfl := Option.some.inj h
      refine LWP.ret (QG.mk (.inr rfl) (.cons (.tmp (x := (e_int x23)) rfl) (.nil)) (RetOK.one0 (.pure rfl) (by decide)) rfl rfl)
  ·intro N3 hN3
   refine LWP.region (l := [_,_,_,_,_,_,_,_]) ?_
   refine LWo.loadN ((e_impl_Value a0)).cells g_impl_Value s_impl_Value rfl (Nat.le_of_ble_eq_true rfl) rfl (hn := ?_)
   refine bk h fun x4 e4 h => ?_
   refine LWo.vcall rfl rfl (c_spec_ValueOk _ _ e4) (.same (.nil)) (hn := ?_)
   refine LWo.not rfl (hn := ?_)
   refine LWo.move (e_bool (!x4)) rfl (hn := ?_)
   refine LWo.byCases (t := 8) _ rfl (fun h5 => ?_) (fun h5 => ?_)
   ·have h := bT h5 h
    refine LWo.guardNU (t := 8) rfl h5 rfl rfl rfl rfl rfl ?_
    refine LWo.guardNU (t := 8) rfl h5 rfl rfl rfl rfl rfl ?_
    refine LWo.guardNU (t := 8) rfl h5 rfl rfl rfl rfl rfl ?_
    refine LWo.pickTM (e_bool true) rfl h5 rfl (hn := ?_)
    refine LWo.nil (hN3 (a0, a1, true) _ ⟨rfl, rfl, rfl, trivial⟩ trivial h)
   ·have h := bF h5 h
    refine LWo.guardY (t := 8) rfl h5 rfl rfl ?_
    refine LWo.loadN ((e_impl_Value a1)).cells g_impl_Value s_impl_Value rfl (Nat.le_of_ble_eq_true rfl) rfl (hn := ?_)
    refine bk h fun x6 e6 h => ?_
    refine LWo.guardY (t := 8) rfl h5 rfl rfl ?_
    refine LWo.vcall rfl rfl (c_spec_ValueOk _ _ e6) (.same (.nil)) (hn := ?_)
    refine LWo.guardY (t := 8) rfl h5 rfl rfl ?_
    refine LWo.not rfl (hn := ?_)
    refine LWo.pickFM (e_bool (!x6)) rfl h5 rfl (hn := ?_)
    refine LWo.nil (hN3 (a0, a1, (!x6)) _ ⟨rfl, rfl, rfl, trivial⟩ trivial h)

def m_spec_RowOrder_j3 (t0 : (List S_impl_Value)) (t1 : (List S_impl_Value)) : Option Int :=
  (m_spec_l1Less (t1.length : Int) (t0.length : Int)).bind fun x27 =>
  (m_spec_l1Less (t0.length : Int) (t1.length : Int)).bind fun x28 =>
  (ckI (x27 - x28)).bind fun x29 =>
  some x29
def m_spec_RowOrder_j2 (k1 : (List S_impl_Value) → (List S_impl_Value) → Int → Option Int) (t0 : (List S_impl_Value)) (t1 : (List S_impl_Value)) (t5 : Int) (t24 : Bool) : Option Int :=
  bif t24 then ((at? t0 t5).bind fun x19 =>
  (at? t1 t5).bind fun x20 =>
  (m_spec_ValueOrder x19 x20).bind fun x21 =>
  bif (x21 != (0 : Int)) then (some x21)
  else ((ckI (t5 + (1 : Int))).bind fun x25 =>
  k1 t0 t1 x25))
  else (m_spec_RowOrder_j3  t0 t1)
def m_spec_RowOrder_l1 : Nat → (List S_impl_Value) → (List S_impl_Value) → Int → Option Int
  | 0, _, _, _ => none
  | n1 + 1, t0, t1, t5 =>
    bif decide (t5 < (t0.length : Int)) then (m_spec_RowOrder_j2  (m_spec_RowOrder_l1  n1) t0 t1 t5 (decide (t5 < (t1.length : Int))))
    else (m_spec_RowOrder_j2  (m_spec_RowOrder_l1  n1) t0 t1 t5 false)
def m_spec_RowOrder_j1 (t0 : (List S_impl_Value)) (t1 : (List S_impl_Value)) (t14 : Bool) : Option Int :=
  bif t14 then (some (0 : Int))
  else (m_spec_RowOrder_l1  (1000000000) t0 t1 (0 : Int))
def m_spec_RowOrder (a0 : (List S_impl_Value)) (a1 : (List S_impl_Value)) : Option Int :=
  (m_spec_RowOk a0).bind fun x4 =>
  bif (!x4) then (m_spec_RowOrder_j1  a0 a1 true)
  else ((m_spec_RowOk a1).bind fun x6 =>
    m_spec_RowOrder_j1  a0 a1 (!x6))
theorem c_spec_RowOrder (a0 : (List S_impl_Value)) (a1 : (List S_impl_Value)) (r : Int) (h : m_spec_RowOrder a0 a1 = some r) : Ret Try.prog f_spec_RowOrder [e_Limpl_Value a0, e_Limpl_Value a1] (e_int r) := by
  refine Does.goG [] F_spec_RowOrder rfl e_spec_RowOrder n_spec_RowOrder rfl (rvs := [.tmp 4]) rfl rfl ?_
  intro w0 ok0 lent ρ0
  refine LWP.seq_k fun N1 hN1 => ?_
  refine LWP.region (l := [_]) ?_
  refine LWo.assign (e_int (0 : Int)) rfl (hn := ?_)
  refine LWo.nil (hN1 _ ?_)
  refine LWP.seq_k fun N2 hN2 => ?_
  refine LWP.join (α := (List S_impl_Value) × (List S_impl_Value) × Bool) (fun z : (List S_impl_Value) × (List S_impl_Value) × Bool => [(0, (e_Limpl_Value z.1)), (1, (e_Limpl_Value z.2.1)), (14, (e_bool z.2.2))]) (fun z : (List S_impl_Value) × (List S_impl_Value) × Bool => []) (fun z : (List S_impl_Value) × (List S_impl_Value) × Bool => m_spec_RowOrder_j1  z.1 z.2.1 z.2.2) r (fun _ => by simp [hkeys]) ?_ ?_
  ·rintro ⟨t0, t1, t14⟩ h
   replace h : m_spec_RowOrder_j1  t0 t1 t14 = some _ := h
   refine LWP.cond_split rfl (fun h7 => ?_) (fun h7 => ?_)
   ·have h := bT h7 h
    refine LWP.seq_k fun N8 hN8 => ?_
    refine LWP.region (l := [_]) ?_
    refine LWo.assign (e_int (0 : Int)) rfl (hn := ?_)
    refine LWo.nil (hN8 _ ?_)
    obtain rfl := Option.some.inj h
    refine LWP.ret (QG.mk (.inr rfl) (.cons (.tmp (x := (e_int (0 : Int))) rfl) (.nil)) (RetOK.one0 (.pure rfl) (by decide)) rfl rfl)
   ·have h := bF h7 h
    refine LWP.skip (hN2 _ ?_)
    refine LWP.join (α := (List S_impl_Value) × (List S_impl_Value)) (fun z : (List S_impl_Value) × (List S_impl_Value) => [(0, (e_Limpl_Value z.1)), (1, (e_Limpl_Value z.2))]) (fun z : (List S_impl_Value) × (List S_impl_Value) => []) (fun z : (List S_impl_Value) × (List S_impl_Value) => m_spec_RowOrder_j3  z.1 z.2) r (fun _ => by simp [hkeys]) ?_ ?_
    ·rintro ⟨t0, t1⟩ h
     replace h : m_spec_RowOrder_j3  t0 t1 = some _ := h
     refine LWP.seq_k fun N26 hN26 => ?_
     refine LWP.region (l := [_,_,_,_,_,_,_,_,_,_,_,_]) ?_
     refine LWo.move (e_Limpl_Value t1) rfl (hn := ?_)
     refine LWo.lenM (f := e_impl_Value) (l := t1) u_Limpl_Value rfl (hn := ?_)
     refine LWo.move (e_Limpl_Value t0) rfl (hn := ?_)
     refine LWo.lenM (f := e_impl_Value) (l := t0) u_Limpl_Value rfl (hn := ?_)
     refine bk h fun x27 e27 h => ?_
     refine LWo.vcall rfl rfl (c_spec_l1Less _ _ _ e27) (.same (.same (.nil))) (hn := ?_)
     refine LWo.move (e_Limpl_Value t0) rfl (hn := ?_)
     refine LWo.lenM (f := e_impl_Value) (l := t0) u_Limpl_Value rfl (hn := ?_)
     refine LWo.move (e_Limpl_Value t1) rfl (hn := ?_)
     refine LWo.lenM (f := e_impl_Value) (l := t1) u_Limpl_Value rfl (hn := ?_)
     refine bk h fun x28 e28 h => ?_
     refine LWo.vcall rfl rfl (c_spec_l1Less _ _ _ e28) (.same (.same (.nil))) (hn := ?_)
     refine bk h fun x29 e29 h => ?_
     refine LWo.int _ rfl rfl (sub_ck e29) (hn := ?_)
     refine LWo.assign (e_int x29) rfl (hn := ?_)
     refine LWo.nil (hN26 _ ?_)
     obtain rfl := Option.some.inj h
     refine LWP.ret (QG.mk (.inr rfl) (.cons (.tmp (x := (e_int x29)) rfl) (.nil)) (RetOK.one0 (.pure rfl) (by decide)) rfl rfl)
    ·intro N9 hN9
     refine LWP.seq_k fun N10 hN10 => ?_
     refine LWP.region (l := [_]) ?_
     refine LWo.assign (e_int (0 : Int)) rfl (hn := ?_)
     refine LWo.nil (hN10 _ ?_)
     refine LWP.block ?_
     refine LWP.loopM (α := (List S_impl_Value) × (List S_impl_Value) × Int) (fun z : (List S_impl_Value) × (List S_impl_Value) × Int => [(0, (e_Limpl_Value z.1)), (1, (e_Limpl_Value z.2.1)), (5, (e_int z.2.2))]) (fun z : (List S_impl_Value) × (List S_impl_Value) × Int => []) (fun n1 (z : (List S_impl_Value) × (List S_impl_Value) × Int) => m_spec_RowOrder_l1  n1 z.1 z.2.1 z.2.2) r _ (t0, t1, (0 : Int)) h (fun _ => rfl) (fun _ => by simp [hkeys]) ⟨rfl, rfl, rfl, trivial⟩ trivial ?_
     rintro n1 ⟨t0, t1, t5⟩ h N11 hN11
     replace h : m_spec_RowOrder_l1  (n1 + 1) t0 t1 t5 = some _ := h
     refine LWP.seq_k fun N13 hN13 => ?_
     refine LWP.join (α := (List S_impl_Value) × (List S_impl_Value) × Int × Bool) (fun z : (List S_impl_Value) × (List S_impl_Value) × Int × Bool => [(0, (e_Limpl_Value z.1)), (1, (e_Limpl_Value z.2.1)), (5, (e_int z.2.2.1)), (24, (e_bool z.2.2.2))]) (fun z : (List S_impl_Value) × (List S_impl_Value) × Int × Bool => []) (fun z : (List S_impl_Value) × (List S_impl_Value) × Int × Bool => m_spec_RowOrder_j2  (m_spec_RowOrder_l1  n1) z.1 z.2.1 z.2.2.1 z.2.2.2) r (fun _ => by simp [hkeys]) ?_ ?_
     ·rintro ⟨t0, t1, t5, t24⟩ h
      replace h : m_spec_RowOrder_j2  (m_spec_RowOrder_l1  n1) t0 t1 t5 t24 = some _ := h
      refine LWP.cond_split rfl (fun h16 => ?_) (fun h16 => ?_)
      ·have h := bT h16 h
       refine LWP.skip (hN13 _ ?_)
       refine LWP.seq_k fun N17 hN17 => ?_
       refine LWP.block ?_
       refine LWP.seq_k fun N18 hN18 => ?_
       refine bk h fun x19 e19 h => ?_
       refine bk h fun x20 e20 h => ?_
       refine bk h fun x21 e21 h => ?_
       refine LWP.drawF (l := [_,_,_,_,_,_,_,_,_,_]) [] [0, 1, 5] [([0], []), ([5], []), ([27, 28], []), ([29], []), ([1], []), ([5], []), ([31, 32], []), ([33], []), ([30, 34], []), ([35], [])] [0, 1, 5, 6] [] mixed (by kernel_rfl) rfl (by decide) ?_
       refine dq 27 rfl (fun _ g u h => LWo.move (e_Limpl_Value t0) u.1 (hn := .nil (zn g))) ?_
       refine dq 28 rfl (fun _ g u h => LWo.move (e_int t5) u.1 (hn := .nil (zn g))) ?_
       refine dq 29 rfl (fun _ g u h => LWo.indexM (f := e_impl_Value) e19 u_Limpl_Value s_impl_Value u.1 u.2.1 (hn := .nil (zn g))) ?_
       refine dq 30 rfl (fun _ g u h => LWo.loadN ((e_impl_Value x19)).cells g_impl_Value s_impl_Value u.1 (Nat.le_of_ble_eq_true rfl) rfl (hn := .nil (zn g))) ?_
       refine dq 31 rfl (fun _ g u h => LWo.move (e_Limpl_Value t1) u.1 (hn := .nil (zn g))) ?_
       refine dq 32 rfl (fun _ g u h => LWo.move (e_int t5) u.1 (hn := .nil (zn g))) ?_
       refine dq 33 rfl (fun _ g u h => LWo.indexM (f := e_impl_Value) e20 u_Limpl_Value s_impl_Value u.1 u.2.1 (hn := .nil (zn g))) ?_
       refine dq 34 rfl (fun _ g u h => LWo.loadN ((e_impl_Value x20)).cells g_impl_Value s_impl_Value u.1 (Nat.le_of_ble_eq_true rfl) rfl (hn := .nil (zn g))) ?_
       refine dq 35 rfl (fun _ g u h => LWo.vcall rfl (av2 u.1 u.2.1) (c_spec_ValueOrder _ _ _ e21) (.same (.same (.nil))) (hn := .nil (zn g))) ?_
       refine dq 6 rfl (fun _ g u h => LWo.assign (e_int x21) u.1 (hn := .nil (zn g))) ?_
       refine ⟨rfl, by kernel_rfl, hN18 _ ?_⟩
       refine LWP.seq_k fun N22 hN22 => ?_
       refine LWP.region (l := [_,_]) ?_
       refine LWo.move (e_int x21) rfl (hn := ?_)
       refine LWo.int _ rfl rfl rfl (hn := ?_)
       refine LWo.nil (hN22 _ ?_)
       refine LWP.cond_split rfl (fun h23 => ?_) (fun h23 => ?_)
       ·have h := bT h23 h
        refine LWP.seq_k fun N24 hN24 => ?_
        refine LWP.region (l := [_,_]) ?_
        refine LWo.move (e_int x21) rfl (hn := ?_)
        refine LWo.assign (e_int x21) rfl (hn := ?_)
        refine LWo.nil (hN24 _ ?_)
        obtain rfl := Option.some.inj h
        refine LWP.ret (QG.mk (.inr rfl) (.cons (.tmp (x := (e_int x21)) rfl) (.nil)) (RetOK.one0 (.pure rfl) (by decide)) rfl rfl)
       ·have h := bF h23 h
        refine LWP.skip (hN17 _ ?_)
        refine LWP.region (l := [_,_,_]) ?_
        refine LWo.move (e_int t5) rfl (hn := ?_)
        refine bk h fun x25 e25 h => ?_
        refine LWo.int _ rfl rfl (add_ck e25) (hn := ?_)
        refine LWo.assign (e_int x25) rfl (hn := ?_)
        refine LWo.nil (hN11 (t0, t1, x25) _ ⟨rfl, rfl, rfl, trivial⟩ trivial h)
      ·have h := bF h16 h
       refine LWP.exit (hN9 (t0, t1) _ ⟨rfl, rfl, trivial⟩ trivial h)
     ·intro N14 hN14
      refine LWP.region (l := [_,_,_,_,_,_,_,_,_,_]) ?_
      refine LWo.move (e_int t5) rfl (hn := ?_)
      refine LWo.move (e_Limpl_Value t0) rfl (hn := ?_)
      refine LWo.lenM (f := e_impl_Value) (l := t0) u_Limpl_Value rfl (hn := ?_)
      refine LWo.int _ rfl rfl rfl (hn := ?_)
      refine LWo.move (e_bool (decide (t5 < (t0.length : Int)))) rfl (hn := ?_)
      refine LWo.byCases (t := 19) _ rfl (fun h15 => ?_) (fun h15 => ?_)
      ·have h := bT h15 h
       refine LWo.guardY (t := 19) rfl h15 rfl rfl ?_
       refine LWo.move (e_int t5) rfl (hn := ?_)
       refine LWo.guardY (t := 19) rfl h15 rfl rfl ?_
       refine LWo.move (e_Limpl_Value t1) rfl (hn := ?_)
       refine LWo.guardY (t := 19) rfl h15 rfl rfl ?_
       refine LWo.lenM (f := e_impl_Value) (l := t1) u_Limpl_Value rfl (hn := ?_)
       refine LWo.guardY (t := 19) rfl h15 rfl rfl ?_
       refine LWo.int _ rfl rfl rfl (hn := ?_)
       refine LWo.pickTM (e_bool (decide (t5 < (t1.length : Int)))) rfl h15 rfl (hn := ?_)
       refine LWo.nil (hN14 (t0, t1, t5, decide (t5 < (t1.length : Int))) _ ⟨rfl, rfl, rfl, rfl, trivial⟩ trivial h)
      ·have h := bF h15 h
       refine LWo.guardNU (t := 19) rfl h15 rfl rfl rfl rfl rfl ?_
       refine LWo.guardNU (t := 19) rfl h15 rfl rfl rfl rfl rfl ?_
       refine LWo.guardNU (t := 19) rfl h15 rfl rfl rfl rfl rfl ?_
       refine LWo.guardNU (t := 19) rfl h15 rfl rfl rfl rfl rfl ?_
       refine LWo.pickFM (e_bool false) rfl h15 rfl (hn := ?_)
       refine LWo.nil (hN14 (t0, t1, t5, false) _ ⟨rfl, rfl, rfl, rfl, trivial⟩ trivial h)
  ·intro N3 hN3
   refine LWP.region (l := [_,_,_,_,_,_,_,_]) ?_
   refine LWo.move (e_Limpl_Value a0) rfl (hn := ?_)
   refine bk h fun x4 e4 h => ?_
   refine LWo.vcall rfl rfl (c_spec_RowOk _ _ e4) (.same (.nil)) (hn := ?_)
   refine LWo.not rfl (hn := ?_)
   refine LWo.move (e_bool (!x4)) rfl (hn := ?_)
   refine LWo.byCases (t := 10) _ rfl (fun h5 => ?_) (fun h5 => ?_)
   ·have h := bT h5 h
    refine LWo.guardNU (t := 10) rfl h5 rfl rfl rfl rfl rfl ?_
    refine LWo.guardNU (t := 10) rfl h5 rfl rfl rfl rfl rfl ?_
    refine LWo.guardNU (t := 10) rfl h5 rfl rfl rfl rfl rfl ?_
    refine LWo.pickTM (e_bool true) rfl h5 rfl (hn := ?_)
    refine LWo.nil (hN3 (a0, a1, true) _ ⟨rfl, rfl, rfl, trivial⟩ trivial h)
   ·have h := bF h5 h
    refine LWo.guardY (t := 10) rfl h5 rfl rfl ?_
    refine LWo.move (e_Limpl_Value a1) rfl (hn := ?_)
    refine bk h fun x6 e6 h => ?_
    refine LWo.guardY (t := 10) rfl h5 rfl rfl ?_
    refine LWo.vcall rfl rfl (c_spec_RowOk _ _ e6) (.same (.nil)) (hn := ?_)
    refine LWo.guardY (t := 10) rfl h5 rfl rfl ?_
    refine LWo.not rfl (hn := ?_)
    refine LWo.pickFM (e_bool (!x6)) rfl h5 rfl (hn := ?_)
    refine LWo.nil (hN3 (a0, a1, (!x6)) _ ⟨rfl, rfl, rfl, trivial⟩ trivial h)

def m_spec_RowsSorted_j4 (o1007 : (List (List S_impl_Value))) : Option (List (List S_impl_Value)) :=
  some o1007
def m_spec_RowsSorted_j3 (k1 : (List (List S_impl_Value)) → Int → (List (List S_impl_Value)) → Option (List (List S_impl_Value))) (t0 : (List (List S_impl_Value))) (t4 : Int) (o1033 : (List (List S_impl_Value))) : Option (List (List S_impl_Value)) :=
  (ckI (t4 + (1 : Int))).bind fun x33 =>
  k1 t0 x33 o1033
def m_spec_RowsSorted_j2 (k1 : (List (List S_impl_Value)) → Int → (List (List S_impl_Value)) → Option (List (List S_impl_Value))) (t0 : (List (List S_impl_Value))) (t4 : Int) (t5 : Int) (o1007 : (List (List S_impl_Value))) : Option (List (List S_impl_Value)) :=
  (cut? o1007 (0 : Int) t5).bind fun x26 =>
  (app? ([] : (List (List S_impl_Value))) x26).bind fun x27 =>
  (at? t0 t4).bind fun x28 =>
  (m_spec_l3Own x28).bind fun x29 =>
  (app? x27 ([x29] : (List (List S_impl_Value)))).bind fun x30 =>
  (cut? o1007 t5 (o1007.length : Int)).bind fun x31 =>
  (app? x30 x31).bind fun x32 =>
  m_spec_RowsSorted_j3  k1 t0 t4 x32
def m_spec_RowsSorted_j1 (k1 : (List (List S_impl_Value)) → Int → (List (List S_impl_Value)) → Option (List (List S_impl_Value))) (k2 : (List (List S_impl_Value)) → Int → Int → (List (List S_impl_Value)) → Option (List (List S_impl_Value))) (t0 : (List (List S_impl_Value))) (t4 : Int) (t5 : Int) (t30 : Bool) (o1007 : (List (List S_impl_Value))) : Option (List (List S_impl_Value)) :=
  bif t30 then ((ckI (t5 - (1 : Int))).bind fun x24 =>
  k2 t0 t4 x24 o1007)
  else (m_spec_RowsSorted_j2  k1 t0 t4 t5 o1007)
def m_spec_RowsSorted_l2 (k1 : (List (List S_impl_Value)) → Int → (List (List S_impl_Value)) → Option (List (List S_impl_Value))) : Nat → (List (List S_impl_Value)) → Int → Int → (List (List S_impl_Value)) → Option (List (List S_impl_Value))
  | 0, _, _, _, _ => none
  | n2 + 1, t0, t4, t5, o1007 =>
    bif decide (t5 > (0 : Int)) then ((ckI (t5 - (1 : Int))).bind fun x18 =>
      (at? o1007 x18).bind fun x19 =>
      (at? o1007 x18).bind fun x20 =>
      (at? t0 t4).bind fun x21 =>
      (m_spec_RowOrder x20 x21).bind fun x22 =>
      m_spec_RowsSorted_j1  k1 (m_spec_RowsSorted_l2  k1 n2) t0 t4 t5 (decide (x22 > (0 : Int))) o1007)
    else (m_spec_RowsSorted_j1  k1 (m_spec_RowsSorted_l2  k1 n2) t0 t4 t5 false o1007)
def m_spec_RowsSorted_l1 : Nat → (List (List S_impl_Value)) → Int → (List (List S_impl_Value)) → Option (List (List S_impl_Value))
  | 0, _, _, _ => none
  | n1 + 1, t0, t4, o1007 =>
    bif decide (t4 < (t0.length : Int)) then (m_spec_RowsSorted_l2  (m_spec_RowsSorted_l1  n1) (1000000000) t0 t4 (o1007.length : Int) o1007)
    else (m_spec_RowsSorted_j4  o1007)
def m_spec_RowsSorted (a0 : (List (List S_impl_Value))) : Option (List (List S_impl_Value)) :=
  m_spec_RowsSorted_l1  (((a0.length : Int) - (0 : Int)).toNat + 1) a0 (0 : Int) ([] : (List (List S_impl_Value)))
theorem c_spec_RowsSorted (a0 : (List (List S_impl_Value))) (r : (List (List S_impl_Value))) (h : m_spec_RowsSorted a0 = some r) : Ret Try.prog f_spec_RowsSorted [e_LLimpl_Value a0] (.nw 1 (r.map e_Limpl_Value) false) := by
  refine Does.goG [] F_spec_RowsSorted rfl e_spec_RowsSorted n_spec_RowsSorted rfl (rvs := [.tmp 2]) rfl rfl ?_
  intro w0 ok0 lent ρ0
  refine LWP.seq_k fun N1 hN1 => ?_
  refine LWP.region (l := [_]) ?_
  refine LWo.assign _ rfl (hn := ?_)
  refine LWo.ownNil 2 1002 1 rfl rfl rfl ?_
  refine LWo.known 2 (.own 1002 0 ([] : (List (List S_impl_Value))).length) rfl ?_
  refine LWo.nil (hN1 _ ?_)
  refine LWP.seq_k fun N2 hN2 => ?_
  refine LWP.region (l := [_,_]) ?_
  refine LWo.lit0 1007 u_LLimpl_Value s_Limpl_Value z_Limpl_Value (hn := ?_)
  refine LWo.known 7 (.own 1007 0 ([] : (List (List S_impl_Value))).length) rfl ?_
  refine LWo.assign (.own 1007 0 (([] : (List (List S_impl_Value)))).length) rfl (hn := ?_)
  refine LWo.nil (hN2 _ ?_)
  refine LWP.join (α := (List (List S_impl_Value))) (fun z : (List (List S_impl_Value)) => [(3, (.own 1007 0 (z).length))]) (fun z : (List (List S_impl_Value)) => [(1007, (lob 1 e_Limpl_Value z))]) (fun z : (List (List S_impl_Value)) => m_spec_RowsSorted_j4  z) r (fun _ => by simp [hkeys]) ?_ ?_
  ·rintro o1007 h
   replace h : m_spec_RowsSorted_j4  o1007 = some _ := h
   refine LWP.seq_k fun N34 hN34 => ?_
   refine LWP.region (l := [_,_]) ?_
   refine LWo.move (.own 1007 0 (o1007).length) rfl (hn := ?_)
   refine LWo.assign (.own 1007 0 (o1007).length) rfl (hn := ?_)
   refine LWo.nil (hN34 _ ?_)
   obtain rfl := Option.some.inj h
   refine LWP.ret (QG.mk (.inr rfl) (.cons (.tmp (x := (.own 1007 0 (o1007).length)) rfl) (.nil)) (RetOK.one0 (.nwM rfl rfl) (by decide)) rfl rfl)
  ·intro N3 hN3
   refine LWP.seq_k fun N4 hN4 => ?_
   refine LWP.region (l := [_]) ?_
   refine LWo.assign (e_int (0 : Int)) rfl (hn := ?_)
   refine LWo.nil (hN4 _ ?_)
   refine LWP.block ?_
   refine LWP.loopM (α := (List (List S_impl_Value)) × Int × (List (List S_impl_Value))) (fun z : (List (List S_impl_Value)) × Int × (List (List S_impl_Value)) => [(0, (e_LLimpl_Value z.1)), (3, (.own 1007 0 (z.2.2).length)), (4, (e_int z.2.1))]) (fun z : (List (List S_impl_Value)) × Int × (List (List S_impl_Value)) => [(1007, (lob 1 e_Limpl_Value z.2.2))]) (fun n1 (z : (List (List S_impl_Value)) × Int × (List (List S_impl_Value))) => m_spec_RowsSorted_l1  n1 z.1 z.2.1 z.2.2) r _ (a0, (0 : Int), ([] : (List (List S_impl_Value)))) h (fun _ => rfl) (fun _ => by simp [hkeys]) ⟨rfl, rfl, rfl, trivial⟩ ⟨rfl, trivial⟩ ?_
   rintro n1 ⟨t0, t4, o1007⟩ h N5 hN5
   replace h : m_spec_RowsSorted_l1  (n1 + 1) t0 t4 o1007 = some _ := h
   refine LWP.seq_k fun N7 hN7 => ?_
   refine LWP.seq_k fun N8 hN8 => ?_
   refine LWP.region (l := [_,_,_,_]) ?_
   refine LWo.move (e_int t4) rfl (hn := ?_)
   refine LWo.move (e_LLimpl_Value t0) rfl (hn := ?_)
   refine LWo.lenM (f := e_Limpl_Value) (l := t0) u_LLimpl_Value rfl (hn := ?_)
   refine LWo.int _ rfl rfl rfl (hn := ?_)
   refine LWo.nil (hN8 _ ?_)
   refine LWP.cond_split rfl (fun h9 => ?_) (fun h9 => ?_)
   ·have h := bT h9 h
    refine LWP.skip (hN7 _ ?_)
    refine LWP.join (α := (List (List S_impl_Value)) × Int × (List (List S_impl_Value))) (fun z : (List (List S_impl_Value)) × Int × (List (List S_impl_Value)) => [(0, (e_LLimpl_Value z.1)), (3, (.own 1033 0 (z.2.2).length)), (4, (e_int z.2.1))]) (fun z : (List (List S_impl_Value)) × Int × (List (List S_impl_Value)) => [(1033, (lob 1 e_Limpl_Value z.2.2))]) (fun z : (List (List S_impl_Value)) × Int × (List (List S_impl_Value)) => m_spec_RowsSorted_j3  (m_spec_RowsSorted_l1  n1) z.1 z.2.1 z.2.2) r (fun _ => by simp [hkeys]) ?_ ?_
    ·rintro ⟨t0, t4, o1033⟩ h
     replace h : m_spec_RowsSorted_j3  (m_spec_RowsSorted_l1  n1) t0 t4 o1033 = some _ := h
     refine LWP.region (l := [_,_,_]) ?_
     refine LWo.move (e_int t4) rfl (hn := ?_)
     refine bk h fun x33 e33 h => ?_
     refine LWo.int _ rfl rfl (add_ck e33) (hn := ?_)
     refine LWo.assign (e_int x33) rfl (hn := ?_)
     refine LWo.rekey 3 1033 1007 rfl rfl rfl rfl rfl rfl ?_
     refine LWo.nil (hN5 (t0, x33, o1033) _ ⟨rfl, rfl, rfl, trivial⟩ ⟨rfl, trivial⟩ h)
    ·intro N10 hN10
     refine LWP.block ?_
     refine LWP.seq_k fun N11 hN11 => ?_
     refine LWP.region (l := [_,_,_]) ?_
     refine LWo.move (.own 1007 0 (o1007).length) rfl (hn := ?_)
     refine LWo.lenO u_LLimpl_Value rfl (hn := ?_)
     refine LWo.assign (e_int (o1007.length : Int)) rfl (hn := ?_)
     refine LWo.nil (hN11 _ ?_)
     refine LWP.join (α := (List (List S_impl_Value)) × Int × Int × (List (List S_impl_Value))) (fun z : (List (List S_impl_Value)) × Int × Int × (List (List S_impl_Value)) => [(0, (e_LLimpl_Value z.1)), (3, (.own 1007 0 (z.2.2.2).length)), (4, (e_int z.2.1)), (5, (e_int z.2.2.1))]) (fun z : (List (List S_impl_Value)) × Int × Int × (List (List S_impl_Value)) => [(1007, (lob 1 e_Limpl_Value z.2.2.2))]) (fun z : (List (List S_impl_Value)) × Int × Int × (List (List S_impl_Value)) => m_spec_RowsSorted_j2  (m_spec_RowsSorted_l1  n1) z.1 z.2.1 z.2.2.1 z.2.2.2) r (fun _ => by simp [hkeys]) ?_ ?_
     ·rintro ⟨t0, t4, t5, o1007⟩ h
      replace h : m_spec_RowsSorted_j2  (m_spec_RowsSorted_l1  n1) t0 t4 t5 o1007 = some _ := h
      refine LWP.seq_k fun N25 hN25 => ?_
      refine LWP.region (l := [_,_,_,_,_,_]) ?_
      refine LWo.lit0 1033 u_LLimpl_Value s_Limpl_Value z_Limpl_Value (hn := ?_)
      refine LWo.known 33 (.own 1033 0 ([] : (List (List S_impl_Value))).length) rfl ?_
      refine LWo.move (.own 1007 0 (o1007).length) rfl (hn := ?_)
      refine LWo.move (e_int t5) rfl (hn := ?_)
      refine bk h fun x26 e26 h => ?_
      refine LWo.frzL (f := e_Limpl_Value) (l := o1007) [3, 34] 1007 rfl rfl ⟨rfl, rfl, trivial⟩ ?_
      refine LWo.cutM (f := e_Limpl_Value) e26 u_LLimpl_Value s_Limpl_Value rfl rfl ⟨_, rfl⟩ (hn := ?_)
      refine bk h fun x27 e27 h => ?_
      refine LWo.appendM (f := e_Limpl_Value) e27 rfl u_LLimpl_Value u_LLimpl_Value (fun _ h => by cases h) s_Limpl_Value i_Limpl_Value rfl rfl rfl (.sl rfl) rfl rfl (hn := ?_)
      refine LWo.assign (.own 1033 0 (x27).length) rfl (hn := ?_)
      refine LWo.nil (hN25 _ ?_)
      refine bk h fun x28 e28 h => ?_
      refine bk h fun x29 e29 h => ?_
      refine bk h fun x30 e30 h => ?_
      refine bk h fun x31 e31 h => ?_
      refine bk h fun x32 e32 h => ?_
      refine LWP.drawF (l := [_,_,_,_,_,_,_,_,_,_,_,_,_]) [(1033, 1033)] [0, 3, 4, 5, 6] [([6], []), ([0], []), ([4], []), ([39, 40], []), ([41], []), ([42], []), ([43], []), ([38, 44], [1033]), ([3], []), ([5], []), ([46, 47], []), ([45, 48], [1033]), ([49], [])] [0, 3, 4] [1033] mixed (by kernel_rfl) rfl (by decide) ?_
      refine dq 38 rfl (fun _ g u h => LWo.move (.own 1033 0 (x27).length) u.1 (hn := .nil (zn g))) ?_
      refine dq 39 rfl (fun _ g u h => LWo.move (e_LLimpl_Value t0) u.1 (hn := .nil (zn g))) ?_
      refine dq 40 rfl (fun _ g u h => LWo.move (e_int t4) u.1 (hn := .nil (zn g))) ?_
      refine dq 41 rfl (fun _ g u h => LWo.indexM (f := e_Limpl_Value) e28 u_LLimpl_Value s_Limpl_Value u.1 u.2.1 (hn := .nil (zn g))) ?_
      refine dq 42 rfl (fun _ g u h => LWo.load1 (c := (e_Limpl_Value x28)) g_Limpl_Value u.1 (hn := .nil (zn g))) ?_
      refine dq 43 rfl (fun _ g u h => LWo.vcall rfl (av1 u.1) (c_spec_l3Own _ _ e29) (.same (.nil)) (hn := .nil (zn g))) ?_
      refine dq 44 rfl (fun _ g u h => LWo.lit (ops := [_]) [(e_Limpl_Value x29)] u_LLimpl_Value s_Limpl_Value z_Limpl_Value (lv1 u.1) rfl rfl rfl rfl rfl (hn := .nil (zn g))) ?_
      refine ⟨rfl, .make 45 _ 1033 _, (by exact (goodC rfl goodN)), fun _ g u h => LWo.appendM (f := e_Limpl_Value) e30 rfl u_LLimpl_Value u_LLimpl_Value (fun _ h => by cases h) s_Limpl_Value i_Limpl_Value rfl u.1 h.1 (.sl u.2.1) (lone_of g rfl) rfl (hn := LWo.nil ⟨rfl, .inl rfl, Ef.good_ok (e := .make 45 _ 1033 _) (by exact (goodC rfl goodN)) g⟩), ?_⟩
      refine dq 46 rfl (fun _ g u h => LWo.move (e_LLimpl_Value o1007) u.1 (hn := .nil (zn g))) ?_
      refine dq 47 rfl (fun _ g u h => LWo.move (e_int t5) u.1 (hn := .nil (zn g))) ?_
      refine dq 48 rfl (fun _ g u h => LWo.cutM (f := e_Limpl_Value) e31 u_LLimpl_Value s_Limpl_Value u.1 ⟨_, u.2.1⟩ rfl (hn := .nil (zn g))) ?_
      refine ⟨rfl, .make 49 _ 1033 _, (by exact (goodC rfl goodN)), fun _ g u h => LWo.appendM (f := e_Limpl_Value) e32 rfl u_LLimpl_Value u_LLimpl_Value (fun _ h => by cases h) s_Limpl_Value i_Limpl_Value rfl u.1 h.1 (.sl u.2.1) (lone_of g rfl) rfl (hn := LWo.nil ⟨rfl, .inl rfl, Ef.good_ok (e := .make 49 _ 1033 _) (by exact (goodC rfl goodN)) g⟩), ?_⟩
      refine dq 3 rfl (fun _ g u h => LWo.assign (.own 1033 0 (x32).length) u.1 (hn := .nil (zn g))) ?_
      refine ⟨rfl, by kernel_rfl, hN10 (t0, t4, x32) _ ⟨rfl, rfl, rfl, trivial⟩ ⟨rfl, trivial⟩ h⟩
     ·intro N12 hN12
      refine LWP.block ?_
      refine LWP.loopM (α := (List (List S_impl_Value)) × Int × Int × (List (List S_impl_Value))) (fun z : (List (List S_impl_Value)) × Int × Int × (List (List S_impl_Value)) => [(0, (e_LLimpl_Value z.1)), (3, (.own 1007 0 (z.2.2.2).length)), (4, (e_int z.2.1)), (5, (e_int z.2.2.1))]) (fun z : (List (List S_impl_Value)) × Int × Int × (List (List S_impl_Value)) => [(1007, (lob 1 e_Limpl_Value z.2.2.2))]) (fun n2 (z : (List (List S_impl_Value)) × Int × Int × (List (List S_impl_Value))) => m_spec_RowsSorted_l2  (m_spec_RowsSorted_l1  n1) n2 z.1 z.2.1 z.2.2.1 z.2.2.2) r _ (t0, t4, (o1007.length : Int), o1007) h (fun _ => rfl) (fun _ => by simp [hkeys]) ⟨rfl, rfl, rfl, rfl, trivial⟩ ⟨rfl, trivial⟩ ?_
      rintro n2 ⟨t0, t4, t5, o1007⟩ h N13 hN13
      replace h : m_spec_RowsSorted_l2  (m_spec_RowsSorted_l1  n1) (n2 + 1) t0 t4 t5 o1007 = some _ := h
      refine LWP.seq_k fun N15 hN15 => ?_
      refine LWP.join (α := (List (List S_impl_Value)) × Int × Int × Bool × (List (List S_impl_Value))) (fun z : (List (List S_impl_Value)) × Int × Int × Bool × (List (List S_impl_Value)) => [(0, (e_LLimpl_Value z.1)), (3, (.own 1007 0 (z.2.2.2.2).length)), (4, (e_int z.2.1)), (5, (e_int z.2.2.1)), (30, (e_bool z.2.2.2.1))]) (fun z : (List (List S_impl_Value)) × Int × Int × Bool × (List (List S_impl_Value)) => [(1007, (lob 1 e_Limpl_Value z.2.2.2.2))]) (fun z : (List (List S_impl_Value)) × Int × Int × Bool × (List (List S_impl_Value)) => m_spec_RowsSorted_j1  (m_spec_RowsSorted_l1  n1) (m_spec_RowsSorted_l2  (m_spec_RowsSorted_l1  n1) n2) z.1 z.2.1 z.2.2.1 z.2.2.2.1 z.2.2.2.2) r (fun _ => by simp [hkeys]) ?_ ?_
      ·rintro ⟨t0, t4, t5, t30, o1007⟩ h
       replace h : m_spec_RowsSorted_j1  (m_spec_RowsSorted_l1  n1) (m_spec_RowsSorted_l2  (m_spec_RowsSorted_l1  n1) n2) t0 t4 t5 t30 o1007 = some _ := h
       refine LWP.cond_split rfl (fun h23 => ?_) (fun h23 => ?_)
       ·have h := bT h23 h
        refine LWP.skip (hN15 _ ?_)
        refine LWP.block ?_
        refine LWP.region (l := [_,_,_]) ?_
        refine LWo.move (e_int t5) rfl (hn := ?_)
        refine bk h fun x24 e24 h => ?_
        refine LWo.int _ rfl rfl (sub_ck e24) (hn := ?_)
        refine LWo.assign (e_int x24) rfl (hn := ?_)
        refine LWo.nil (hN13 (t0, t4, x24, o1007) _ ⟨rfl, rfl, rfl, rfl, trivial⟩ ⟨rfl, trivial⟩ h)
       ·have h := bF h23 h
        refine LWP.exit (hN12 (t0, t4, t5, o1007) _ ⟨rfl, rfl, rfl, rfl, trivial⟩ ⟨rfl, trivial⟩ h)
      ·intro N16 hN16
       refine bS (decide (t5 > (0 : Int))) (fun h17 => ?_) (fun h17 => ?_)
       ·have h := bT h17 h
        refine bk h fun x18 e18 h => ?_
        refine bk h fun x19 e19 h => ?_
        refine bk h fun x20 e20 h => ?_
        refine bk h fun x21 e21 h => ?_
        refine bk h fun x22 e22 h => ?_
        refine LWP.drawF (l := [_,_,_,_,_,_,_,_,_,_,_,_,_,_,_]) [] [0, 3, 4, 5] [([5], []), ([16], []), ([17], []), ([3, 18], []), ([5, 18], []), ([18, 20], []), ([18, 19, 21], [1007]), ([18, 22], [1007]), ([0, 18], []), ([4, 18], []), ([18, 24, 25], []), ([18, 26], []), ([18, 23, 27], []), ([18, 28], []), ([18, 29], [])] [0, 3, 4, 5, 30] [1007] mixed (by kernel_rfl) rfl (by decide) ?_
        refine dq 16 rfl (fun _ g u h => LWo.move (e_int t5) u.1 (hn := .nil (zn g))) ?_
        refine dq 17 rfl (fun _ g u h => LWo.int _ u.1 rfl rfl (hn := .nil (zn g))) ?_
        refine dq 18 rfl (fun _ g u h => LWo.move (e_bool (decide (t5 > (0 : Int)))) u.1 (hn := .nil (zn g))) ?_
        refine dq 19 rfl (fun _ g u h => LWo.guardY (t := 18) u.2.1 h17 rfl rfl (LWo.move (.own 1007 0 (o1007).length) u.1 (hn := .nil (zn g)))) ?_
        refine dq 20 rfl (fun _ g u h => LWo.guardY (t := 18) u.2.1 h17 rfl rfl (LWo.move (e_int t5) u.1 (hn := .nil (zn g)))) ?_
        refine dq 21 rfl (fun _ g u h => LWo.guardY (t := 18) u.1 h17 rfl rfl (LWo.int _ u.2.1 rfl (sub_ck e18) (hn := .nil (zn g)))) ?_
        refine dq 22 rfl (fun _ g u h => LWo.guardY (t := 18) u.1 h17 rfl rfl (LWo.indexO e19 rfl u_LLimpl_Value s_Limpl_Value u.2.1 u.2.2.1 h.1 (hn := .nil (zn g)))) ?_
        refine dq 23 rfl (fun _ g u h => LWo.guardY (t := 18) u.1 h17 rfl rfl (LWo.loadO1 (e_Limpl_Value x20) e20 g_Limpl_Value u.2.1 h.1 rfl (hn := .nil (zn g)))) ?_
        refine dq 24 rfl (fun _ g u h => LWo.guardY (t := 18) u.2.1 h17 rfl rfl (LWo.move (e_LLimpl_Value t0) u.1 (hn := .nil (zn g)))) ?_
        refine dq 25 rfl (fun _ g u h => LWo.guardY (t := 18) u.2.1 h17 rfl rfl (LWo.move (e_int t4) u.1 (hn := .nil (zn g)))) ?_
        refine dq 26 rfl (fun _ g u h => LWo.guardY (t := 18) u.1 h17 rfl rfl (LWo.indexM (f := e_Limpl_Value) e21 u_LLimpl_Value s_Limpl_Value u.2.1 u.2.2.1 (hn := .nil (zn g)))) ?_
        refine dq 27 rfl (fun _ g u h => LWo.guardY (t := 18) u.1 h17 rfl rfl (LWo.load1 (c := (e_Limpl_Value x21)) g_Limpl_Value u.2.1 (hn := .nil (zn g)))) ?_
        refine dq 28 rfl (fun _ g u h => LWo.guardY (t := 18) u.1 h17 rfl rfl (LWo.vcall rfl (av2 u.2.1 u.2.2.1) (c_spec_RowOrder _ _ _ e22) (.same (.same (.nil))) (hn := .nil (zn g)))) ?_
        refine dq 29 rfl (fun _ g u h => LWo.guardY (t := 18) u.1 h17 rfl rfl (LWo.int _ u.2.1 rfl rfl (hn := .nil (zn g)))) ?_
        refine dq 30 rfl (fun _ g u h => LWo.pickTM (e_bool (decide (x22 > (0 : Int)))) u.1 h17 u.2.1 (hn := .nil (zn g))) ?_
        refine ⟨rfl, by kernel_rfl, hN16 (t0, t4, t5, decide (x22 > (0 : Int)), o1007) _ ⟨rfl, rfl, rfl, rfl, rfl, trivial⟩ ⟨rfl, trivial⟩ h⟩
       ·have h := bF h17 h
        refine LWP.drawF (l := [_,_,_,_,_,_,_,_,_,_,_,_,_,_,_]) [] [0, 3, 4, 5] [([5], []), ([16], []), ([17], []), ([3, 18], []), ([5, 18], []), ([18, 20], []), ([18, 19, 21], []), ([18, 22], []), ([0, 18], []), ([4, 18], []), ([18, 24, 25], []), ([18, 26], []), ([18, 23, 27], []), ([18, 28], []), ([18, 29], [])] [0, 3, 4, 5, 30] [1007] mixed (by kernel_rfl) rfl (by decide) ?_
        refine dq 16 rfl (fun _ g u h => LWo.move (e_int t5) u.1 (hn := .nil (zn g))) ?_
        refine dq 17 rfl (fun _ g u h => LWo.int _ u.1 rfl rfl (hn := .nil (zn g))) ?_
        refine dq 18 rfl (fun _ g u h => LWo.move (e_bool (decide (t5 > (0 : Int)))) u.1 (hn := .nil (zn g))) ?_
        refine dq 19 rfl (fun _ g u h => LWo.guardNU (t := 18) u.2.1 h17 rfl rfl rfl rfl rfl (.nil (zn g))) ?_
        refine dq 20 rfl (fun _ g u h => LWo.guardNU (t := 18) u.2.1 h17 rfl rfl rfl rfl rfl (.nil (zn g))) ?_
        refine dq 21 rfl (fun _ g u h => LWo.guardNU (t := 18) u.1 h17 rfl rfl rfl rfl rfl (.nil (zn g))) ?_
        refine dq 22 rfl (fun _ g u h => LWo.guardNU (t := 18) u.1 h17 rfl rfl rfl rfl rfl (.nil (zn g))) ?_
        refine dq 23 rfl (fun _ g u h => LWo.guardNU (t := 18) u.1 h17 rfl rfl rfl rfl rfl (.nil (zn g))) ?_
        refine dq 24 rfl (fun _ g u h => LWo.guardNU (t := 18) u.2.1 h17 rfl rfl rfl rfl rfl (.nil (zn g))) ?_
        refine dq 25 rfl (fun _ g u h => LWo.guardNU (t := 18) u.2.1 h17 rfl rfl rfl rfl rfl (.nil (zn g))) ?_
        refine dq 26 rfl (fun _ g u h => LWo.guardNU (t := 18) u.1 h17 rfl rfl rfl rfl rfl (.nil (zn g))) ?_
        refine dq 27 rfl (fun _ g u h => LWo.guardNU (t := 18) u.1 h17 rfl rfl rfl rfl rfl (.nil (zn g))) ?_
        refine dq 28 rfl (fun _ g u h => LWo.guardNU (t := 18) u.1 h17 rfl rfl rfl rfl rfl (.nil (zn g))) ?_
        refine dq 29 rfl (fun _ g u h => LWo.guardNU (t := 18) u.1 h17 rfl rfl rfl rfl rfl (.nil (zn g))) ?_
        refine dq 30 rfl (fun _ g u h => LWo.pickFM (e_bool false) u.1 h17 rfl (hn := .nil (zn g))) ?_
        refine ⟨rfl, by kernel_rfl, hN16 (t0, t4, t5, false, o1007) _ ⟨rfl, rfl, rfl, rfl, rfl, trivial⟩ ⟨rfl, trivial⟩ h⟩
   ·have h := bF h9 h
    refine LWP.exit (hN3 o1007 _ ⟨rfl, trivial⟩ ⟨rfl, trivial⟩ h)
end Go.Proofs.Ytogiaehagciojaa
