/- Mirrors of functions, and that the functions return what the mirrors say. -/
import Derived.Test.YtkgmomocjkmipaaXTy
set_option linter.unusedVariables false
set_option linter.unusedSimpArgs false
set_option linter.unnecessarySimpa false
namespace Go.Proofs.Ytkgmomocjkmipaa
open Go.Proofs Go.Lift Go.RowKit
def m_laws_szValue (a0 : S_laws_Value) (a1 : Int) : Option Int :=
  (ckI (a1 - (a0.S.size : Int))).bind fun x3 =>
  bif decide (x3 < (0 : Int)) then (some (-1 : Int))
  else (some x3)
theorem c_laws_szValue (a0 : S_laws_Value) (a1 : Int) (r : Int) (h : m_laws_szValue a0 a1 = some r) : Ret Try.prog f_laws_szValue [e_laws_Value a0, e_int a1] (e_int r) := by
  refine Does.goG [] F_laws_szValue rfl e_laws_szValue n_laws_szValue rfl (rvs := [.tmp 4]) rfl rfl ?_
  intro w0 ok0 lent ρ0
  refine LWP.seq_k fun N1 hN1 => ?_
  refine LWP.region (l := [_,_]) ?_
  refine LWo.boxF (e_laws_Value a0) rfl rfl rfl (hn := ?_)
  refine LWo.assign (e_int (0 : Int)) rfl (hn := ?_)
  refine LWo.nil (hN1 _ ?_)
  refine LWP.seq_k fun N2 hN2 => ?_
  refine LWP.region (l := [_,_,_,_,_,_]) ?_
  refine LWo.move (e_int a1) rfl (hn := ?_)
  refine LWo.fieldAddr _ u_laws_Value rfl s_string rfl rfl (hn := ?_)
  refine LWo.load1 (c := (e_string a0.S)) g_string rfl (hn := ?_)
  refine LWo.lenS u_string rfl (hn := ?_)
  refine bk h fun x3 e3 h => ?_
  refine LWo.int _ rfl rfl (sub_ck e3) (hn := ?_)
  refine LWo.assign (e_int x3) rfl (hn := ?_)
  refine LWo.nil (hN2 _ ?_)
  refine LWP.seq_k fun N4 hN4 => ?_
  refine LWP.seq_k fun N5 hN5 => ?_
  refine LWP.region (l := [_,_]) ?_
  refine LWo.move (e_int x3) rfl (hn := ?_)
  refine LWo.int _ rfl rfl rfl (hn := ?_)
  refine LWo.nil (hN5 _ ?_)
  refine LWP.cond_split rfl (fun h6 => ?_) (fun h6 => ?_)
  ·have h := bT h6 h
   refine LWP.seq_k fun N7 hN7 => ?_
   refine LWP.region (l := [_]) ?_
   refine LWo.assign (e_int (-1 : Int)) rfl (hn := ?_)
   refine LWo.nil (hN7 _ ?_)
   obtain rfl := Option.some.inj h
   refine LWP.ret (QG.mk (.inr rfl) (.cons (.tmp (x := (e_int (-1 : Int))) rfl) (.nil)) (RetOK.one0 (.pure rfl) (by decide)) rfl rfl)
  ·have h := bF h6 h
   refine LWP.skip (hN4 _ ?_)
   refine LWP.seq_k fun N8 hN8 => ?_
   refine LWP.region (l := [_,_]) ?_
   refine LWo.move (e_int x3) rfl (hn := ?_)
   refine LWo.assign (e_int x3) rfl (hn := ?_)
   refine LWo.nil (hN8 _ ?_)
   obtain rfl := Option.some.inj h
   refine LWP.ret (QG.mk (.inr rfl) (.cons (.tmp (x := (e_int x3)) rfl) (.nil)) (RetOK.one0 (.pure rfl) (by decide)) rfl rfl)

def m_laws_szValueS_j1 (t1 : Int) : Option Int :=
  some t1
def m_laws_szValueS_l1 : Nat → (List S_laws_Value) → Int → Int → Option Int
  | 0, _, _, _ => none
  | n1 + 1, t0, t1, t5 =>
    bif decide (t5 < (t0.length : Int)) then ((at? t0 t5).bind fun x17 =>
    (m_laws_szValue x17 t1).bind fun x18 =>
    bif decide (x18 < (0 : Int)) then (some (-1 : Int))
    else ((ckI (t5 + (1 : Int))).bind fun x22 =>
    (m_laws_szValueS_l1  n1) t0 x18 x22))
    else (m_laws_szValueS_j1  t1)
def m_laws_szValueS (a0 : (List S_laws_Value)) (a1 : Int) : Option Int :=
  (ckI (a1 - (a0.length : Int))).bind fun x3 =>
  bif decide (x3 < (0 : Int)) then (some (-1 : Int))
  else (m_laws_szValueS_l1  (((a0.length : Int) - (0 : Int)).toNat + 1) a0 x3 (0 : Int))
theorem c_laws_szValueS (a0 : (List S_laws_Value)) (a1 : Int) (r : Int) (h : m_laws_szValueS a0 a1 = some r) : Ret Try.prog f_laws_szValueS [e_Llaws_Value a0, e_int a1] (e_int r) := by
  refine Does.goG [] F_laws_szValueS rfl e_laws_szValueS n_laws_szValueS rfl (rvs := [.tmp 4]) rfl rfl ?_
  intro w0 ok0 lent ρ0
  refine LWP.seq_k fun N1 hN1 => ?_
  refine LWP.region (l := [_]) ?_
  refine LWo.assign (e_int (0 : Int)) rfl (hn := ?_)
  refine LWo.nil (hN1 _ ?_)
  refine LWP.seq_k fun N2 hN2 => ?_
  refine LWP.region (l := [_,_,_,_,_]) ?_
  refine LWo.move (e_int a1) rfl (hn := ?_)
  refine LWo.move (e_Llaws_Value a0) rfl (hn := ?_)
  refine LWo.lenM (f := e_laws_Value) (l := a0) u_Llaws_Value rfl (hn := ?_)
  refine bk h fun x3 e3 h => ?_
  refine LWo.int _ rfl rfl (sub_ck e3) (hn := ?_)
  refine LWo.assign (e_int x3) rfl (hn := ?_)
  refine LWo.nil (hN2 _ ?_)
  refine LWP.seq_k fun N4 hN4 => ?_
  refine LWP.seq_k fun N5 hN5 => ?_
  refine LWP.region (l := [_,_]) ?_
  refine LWo.move (e_int x3) rfl (hn := ?_)
  refine LWo.int _ rfl rfl rfl (hn := ?_)
  refine LWo.nil (hN5 _ ?_)
  refine LWP.cond_split rfl (fun h6 => ?_) (fun h6 => ?_)
  ·have h := bT h6 h
   refine LWP.seq_k fun N7 hN7 => ?_
   refine LWP.region (l := [_]) ?_
   refine LWo.assign (e_int (-1 : Int)) rfl (hn := ?_)
   refine LWo.nil (hN7 _ ?_)
   obtain rfl := Option.some.inj h
   refine LWP.ret (QG.mk (.inr rfl) (.cons (.tmp (x := (e_int (-1 : Int))) rfl) (.nil)) (RetOK.one0 (.pure rfl) (by decide)) rfl rfl)
  ·have h := bF h6 h
   refine LWP.skip (hN4 _ ?_)
   refine LWP.join (α := Int) (fun z : Int => [(1, (e_int z))]) (fun z : Int => []) (fun z : Int => m_laws_szValueS_j1  z) r (fun _ => by simp [hkeys]) ?_ ?_
   ·rintro t1 h
    replace h : m_laws_szValueS_j1  t1 = some _ := h
    refine LWP.seq_k fun N23 hN23 => ?_
    refine LWP.region (l := [_,_]) ?_
    refine LWo.move (e_int t1) rfl (hn := ?_)
    refine LWo.assign (e_int t1) rfl (hn := ?_)
    refine LWo.nil (hN23 _ ?_)
    obtain rfl := Option.some.inj h
    refine LWP.ret (QG.mk (.inr rfl) (.cons (.tmp (x := (e_int t1)) rfl) (.nil)) (RetOK.one0 (.pure rfl) (by decide)) rfl rfl)
   ·intro N8 hN8
    refine LWP.seq_k fun N9 hN9 => ?_
    refine LWP.region (l := [_]) ?_
    refine LWo.assign (e_int (0 : Int)) rfl (hn := ?_)
    refine LWo.nil (hN9 _ ?_)
    refine LWP.block ?_
    refine LWP.loopM (α := (List S_laws_Value) × Int × Int) (fun z : (List S_laws_Value) × Int × Int => [(0, (e_Llaws_Value z.1)), (1, (e_int z.2.1)), (5, (e_int z.2.2))]) (fun z : (List S_laws_Value) × Int × Int => []) (fun n1 (z : (List S_laws_Value) × Int × Int) => m_laws_szValueS_l1  n1 z.1 z.2.1 z.2.2) r _ (a0, x3, (0 : Int)) h (fun _ => rfl) (fun _ => by simp [hkeys]) ⟨rfl, rfl, rfl, trivial⟩ trivial ?_
    rintro n1 ⟨t0, t1, t5⟩ h N10 hN10
    replace h : m_laws_szValueS_l1  (n1 + 1) t0 t1 t5 = some _ := h
    refine LWP.seq_k fun N12 hN12 => ?_
    refine LWP.seq_k fun N13 hN13 => ?_
    refine LWP.region (l := [_,_,_,_]) ?_
    refine LWo.move (e_int t5) rfl (hn := ?_)
    refine LWo.move (e_Llaws_Value t0) rfl (hn := ?_)
    refine LWo.lenM (f := e_laws_Value) (l := t0) u_Llaws_Value rfl (hn := ?_)
    refine LWo.int _ rfl rfl rfl (hn := ?_)
    refine LWo.nil (hN13 _ ?_)
    refine LWP.cond_split rfl (fun h14 => ?_) (fun h14 => ?_)
    ·have h := bT h14 h
     refine LWP.skip (hN12 _ ?_)
     refine LWP.seq_k fun N15 hN15 => ?_
     refine LWP.block ?_
     refine LWP.seq_k fun N16 hN16 => ?_
     refine LWP.region (l := [_,_,_,_,_,_,_]) ?_
     refine LWo.move (e_Llaws_Value t0) rfl (hn := ?_)
     refine LWo.move (e_int t5) rfl (hn := ?_)
     refine bk h fun x17 e17 h => ?_
     refine LWo.indexM (f := e_laws_Value) e17 u_Llaws_Value s_laws_Value rfl rfl (hn := ?_)
     refine LWo.loadN ((e_laws_Value x17)).cells g_laws_Value s_laws_Value rfl (Nat.le_of_ble_eq_true rfl) rfl (hn := ?_)
     refine LWo.move (e_int t1) rfl (hn := ?_)
     refine bk h fun x18 e18 h => ?_
     refine LWo.vcall rfl rfl (c_laws_szValue _ _ _ e18) (.same (.same (.nil))) (hn := ?_)
     refine LWo.assign (e_int x18) rfl (hn := ?_)
     refine LWo.nil (hN16 _ ?_)
     refine LWP.seq_k fun N19 hN19 => ?_
     refine LWP.region (l := [_,_]) ?_
     refine LWo.move (e_int x18) rfl (hn := ?_)
     refine LWo.int _ rfl rfl rfl (hn := ?_)
     refine LWo.nil (hN19 _ ?_)
     refine LWP.cond_split rfl (fun h20 => ?_) (fun h20 => ?_)
     ·have h := bT h20 h
      refine LWP.seq_k fun N21 hN21 => ?_
      refine LWP.region (l := [_]) ?_
      refine LWo.assign (e_int (-1 : Int)) rfl (hn := ?_)
      refine LWo.nil (hN21 _ ?_)
      obtain rfl := Option.some.inj h
      refine LWP.ret (QG.mk (.inr rfl) (.cons (.tmp (x := (e_int (-1 : Int))) rfl) (.nil)) (RetOK.one0 (.pure rfl) (by decide)) rfl rfl)
     ·have h := bF h20 h
      refine LWP.skip (hN15 _ ?_)
      refine LWP.region (l := [_,_,_]) ?_
      refine LWo.move (e_int t5) rfl (hn := ?_)
      refine bk h fun x22 e22 h => ?_
      refine LWo.int _ rfl rfl (add_ck e22) (hn := ?_)
      refine LWo.assign (e_int x22) rfl (hn := ?_)
      refine LWo.nil (hN10 (t0, x18, x22) _ ⟨rfl, rfl, rfl, trivial⟩ trivial h)
    ·have h := bF h14 h
     refine LWP.exit (hN8 t1 _ ⟨rfl, trivial⟩ trivial h)

def m_laws_szValueSS_j1 (t1 : Int) : Option Int :=
  some t1
def m_laws_szValueSS_l1 : Nat → (List (List S_laws_Value)) → Int → Int → Option Int
  | 0, _, _, _ => none
  | n1 + 1, t0, t1, t5 =>
    bif decide (t5 < (t0.length : Int)) then ((at? t0 t5).bind fun x17 =>
    (m_laws_szValueS x17 t1).bind fun x18 =>
    bif decide (x18 < (0 : Int)) then (some (-1 : Int))
    else ((ckI (t5 + (1 : Int))).bind fun x22 =>
    (m_laws_szValueSS_l1  n1) t0 x18 x22))
    else (m_laws_szValueSS_j1  t1)
def m_laws_szValueSS (a0 : (List (List S_laws_Value))) (a1 : Int) : Option Int :=
  (ckI (a1 - (a0.length : Int))).bind fun x3 =>
  bif decide (x3 < (0 : Int)) then (some (-1 : Int))
  else (m_laws_szValueSS_l1  (((a0.length : Int) - (0 : Int)).toNat + 1) a0 x3 (0 : Int))
theorem c_laws_szValueSS (a0 : (List (List S_laws_Value))) (a1 : Int) (r : Int) (h : m_laws_szValueSS a0 a1 = some r) : Ret Try.prog f_laws_szValueSS [e_LLlaws_Value a0, e_int a1] (e_int r) := by
  refine Does.goG [] F_laws_szValueSS rfl e_laws_szValueSS n_laws_szValueSS rfl (rvs := [.tmp 4]) rfl rfl ?_
  intro w0 ok0 lent ρ0
  refine LWP.seq_k fun N1 hN1 => ?_
  refine LWP.region (l := [_]) ?_
  refine LWo.assign (e_int (0 : Int)) rfl (hn := ?_)
  refine LWo.nil (hN1 _ ?_)
  refine LWP.seq_k fun N2 hN2 => ?_
  refine LWP.region (l := [_,_,_,_,_]) ?_
  refine LWo.move (e_int a1) rfl (hn := ?_)
  refine LWo.move (e_LLlaws_Value a0) rfl (hn := ?_)
  refine LWo.lenM (f := e_Llaws_Value) (l := a0) u_LLlaws_Value rfl (hn := ?_)
  refine bk h fun x3 e3 h => ?_
  refine LWo.int _ rfl rfl (sub_ck e3) (hn := ?_)
  refine LWo.assign (e_int x3) rfl (hn := ?_)
  refine LWo.nil (hN2 _ ?_)
  refine LWP.seq_k fun N4 hN4 => ?_
  refine LWP.seq_k fun N5 hN5 => ?_
  refine LWP.region (l := [_,_]) ?_
  refine LWo.move (e_int x3) rfl (hn := ?_)
  refine LWo.int _ rfl rfl rfl (hn := ?_)
  refine LWo.nil (hN5 _ ?_)
  refine LWP.cond_split rfl (fun h6 => ?_) (fun h6 => ?_)
  ·have h := bT h6 h
   refine LWP.seq_k fun N7 hN7 => ?_
   refine LWP.region (l := [_]) ?_
   refine LWo.assign (e_int (-1 : Int)) rfl (hn := ?_)
   refine LWo.nil (hN7 _ ?_)
   obtain rfl := Option.some.inj h
   refine LWP.ret (QG.mk (.inr rfl) (.cons (.tmp (x := (e_int (-1 : Int))) rfl) (.nil)) (RetOK.one0 (.pure rfl) (by decide)) rfl rfl)
  ·have h := bF h6 h
   refine LWP.skip (hN4 _ ?_)
   refine LWP.join (α := Int) (fun z : Int => [(1, (e_int z))]) (fun z : Int => []) (fun z : Int => m_laws_szValueSS_j1  z) r (fun _ => by simp [hkeys]) ?_ ?_
   ·rintro t1 h
    replace h : m_laws_szValueSS_j1  t1 = some _ := h
    refine LWP.seq_k fun N23 hN23 => ?_
    refine LWP.region (l := [_,_]) ?_
    refine LWo.move (e_int t1) rfl (hn := ?_)
    refine LWo.assign (e_int t1) rfl (hn := ?_)
    refine LWo.nil (hN23 _ ?_)
    obtain rfl := Option.some.inj h
    refine LWP.ret (QG.mk (.inr rfl) (.cons (.tmp (x := (e_int t1)) rfl) (.nil)) (RetOK.one0 (.pure rfl) (by decide)) rfl rfl)
   ·intro N8 hN8
    refine LWP.seq_k fun N9 hN9 => ?_
    refine LWP.region (l := [_]) ?_
    refine LWo.assign (e_int (0 : Int)) rfl (hn := ?_)
    refine LWo.nil (hN9 _ ?_)
    refine LWP.block ?_
    refine LWP.loopM (α := (List (List S_laws_Value)) × Int × Int) (fun z : (List (List S_laws_Value)) × Int × Int => [(0, (e_LLlaws_Value z.1)), (1, (e_int z.2.1)), (5, (e_int z.2.2))]) (fun z : (List (List S_laws_Value)) × Int × Int => []) (fun n1 (z : (List (List S_laws_Value)) × Int × Int) => m_laws_szValueSS_l1  n1 z.1 z.2.1 z.2.2) r _ (a0, x3, (0 : Int)) h (fun _ => rfl) (fun _ => by simp [hkeys]) ⟨rfl, rfl, rfl, trivial⟩ trivial ?_
    rintro n1 ⟨t0, t1, t5⟩ h N10 hN10
    replace h : m_laws_szValueSS_l1  (n1 + 1) t0 t1 t5 = some _ := h
    refine LWP.seq_k fun N12 hN12 => ?_
    refine LWP.seq_k fun N13 hN13 => ?_
    refine LWP.region (l := [_,_,_,_]) ?_
    refine LWo.move (e_int t5) rfl (hn := ?_)
    refine LWo.move (e_LLlaws_Value t0) rfl (hn := ?_)
    refine LWo.lenM (f := e_Llaws_Value) (l := t0) u_LLlaws_Value rfl (hn := ?_)
    refine LWo.int _ rfl rfl rfl (hn := ?_)
    refine LWo.nil (hN13 _ ?_)
    refine LWP.cond_split rfl (fun h14 => ?_) (fun h14 => ?_)
    ·have h := bT h14 h
     refine LWP.skip (hN12 _ ?_)
     refine LWP.seq_k fun N15 hN15 => ?_
     refine LWP.block ?_
     refine LWP.seq_k fun N16 hN16 => ?_
     refine LWP.region (l := [_,_,_,_,_,_,_]) ?_
     refine LWo.move (e_LLlaws_Value t0) rfl (hn := ?_)
     refine LWo.move (e_int t5) rfl (hn := ?_)
     refine bk h fun x17 e17 h => ?_
     refine LWo.indexM (f := e_Llaws_Value) e17 u_LLlaws_Value s_Llaws_Value rfl rfl (hn := ?_)
     refine LWo.load1 (c := (e_Llaws_Value x17)) g_Llaws_Value rfl (hn := ?_)
     refine LWo.move (e_int t1) rfl (hn := ?_)
     refine bk h fun x18 e18 h => ?_
     refine LWo.vcall rfl rfl (c_laws_szValueS _ _ _ e18) (.same (.same (.nil))) (hn := ?_)
     refine LWo.assign (e_int x18) rfl (hn := ?_)
     refine LWo.nil (hN16 _ ?_)
     refine LWP.seq_k fun N19 hN19 => ?_
     refine LWP.region (l := [_,_]) ?_
     refine LWo.move (e_int x18) rfl (hn := ?_)
     refine LWo.int _ rfl rfl rfl (hn := ?_)
     refine LWo.nil (hN19 _ ?_)
     refine LWP.cond_split rfl (fun h20 => ?_) (fun h20 => ?_)
     ·have h := bT h20 h
      refine LWP.seq_k fun N21 hN21 => ?_
      refine LWP.region (l := [_]) ?_
      refine LWo.assign (e_int (-1 : Int)) rfl (hn := ?_)
      refine LWo.nil (hN21 _ ?_)
      obtain rfl := Option.some.inj h
      refine LWP.ret (QG.mk (.inr rfl) (.cons (.tmp (x := (e_int (-1 : Int))) rfl) (.nil)) (RetOK.one0 (.pure rfl) (by decide)) rfl rfl)
     ·have h := bF h20 h
      refine LWP.skip (hN15 _ ?_)
      refine LWP.region (l := [_,_,_]) ?_
      refine LWo.move (e_int t5) rfl (hn := ?_)
      refine bk h fun x22 e22 h => ?_
      refine LWo.int _ rfl rfl (add_ck e22) (hn := ?_)
      refine LWo.assign (e_int x22) rfl (hn := ?_)
      refine LWo.nil (hN10 (t0, x18, x22) _ ⟨rfl, rfl, rfl, trivial⟩ trivial h)
    ·have h := bF h14 h
     refine LWP.exit (hN8 t1 _ ⟨rfl, trivial⟩ trivial h)

def m_laws_toValue (a0 : S_laws_Value) : Option S_impl_Value :=
  lt ({ (⟨(0 : Int), (0 : Int), (⟨#[]⟩ : ByteArray)⟩ : S_impl_Value) with Kind := a0.Kind }) fun y4 =>
  lt ({ y4 with N := a0.N }) fun y6 =>
  lt ({ y6 with S := a0.S }) fun y8 =>
  lt (y8) fun y10 =>
  some y10
theorem c_laws_toValue (a0 : S_laws_Value) (r : S_impl_Value) (h : m_laws_toValue a0 = some r) : Ret Try.prog f_laws_toValue [e_laws_Value a0] (e_impl_Value r) := by
  refine Does.goG [] F_laws_toValue rfl e_laws_toValue n_laws_toValue rfl (rvs := [.cell 2 t_impl_Value]) rfl rfl ?_
  intro w0 ok0 lent ρ0
  refine LWP.seq_k fun N1 hN1 => ?_
  refine LWP.region (l := [_,_]) ?_
  refine LWo.boxF (e_laws_Value a0) rfl rfl rfl (hn := ?_)
  refine LWo.alloc_impl_Value 2 rfl (hn := ?_)
  refine LWo.nil (hN1 _ ?_)
  refine LWP.seq_k fun N2 hN2 => ?_
  refine LWP.region (l := [_]) ?_
  refine LWo.alloc_impl_Value 3 rfl (hn := ?_)
  refine LWo.nil (hN2 _ ?_)
  refine LWP.seq_k fun N3 hN3 => ?_
  refine LWP.region (l := [_,_,_,_]) ?_
  refine LWo.fieldAddr _ u_laws_Value rfl s_int rfl rfl (hn := ?_)
  refine LWo.load1 (c := (e_int a0.Kind)) g_int rfl (hn := ?_)
  refine LWo.fieldPtr u_impl_Value rfl s_int rfl rfl (hn := ?_)
  refine lk h fun y4 e4 h => ?_
  refine LWo.storeW (y := (⟨(0 : Int), (0 : Int), (⟨#[]⟩ : ByteArray)⟩ : S_impl_Value)) y4 s_int rfl rfl rfl rfl rfl rfl (by rw [e4]; exact .refl) rfl (hn := ?_)
  refine LWo.nil (hN3 _ ?_)
  refine LWP.seq_k fun N5 hN5 => ?_
  refine LWP.region (l := [_,_,_,_]) ?_
  refine LWo.fieldAddr _ u_laws_Value rfl s_int rfl rfl (hn := ?_)
  refine LWo.load1 (c := (e_int a0.N)) g_int rfl (hn := ?_)
  refine LWo.fieldPtr u_impl_Value rfl s_int rfl rfl (hn := ?_)
  refine lk h fun y6 e6 h => ?_
  refine LWo.storeW (y := y4) y6 s_int rfl rfl rfl rfl rfl rfl (by rw [e6]; exact .refl) rfl (hn := ?_)
  refine LWo.nil (hN5 _ ?_)
  refine LWP.seq_k fun N7 hN7 => ?_
  refine LWP.region (l := [_,_,_,_]) ?_
  refine LWo.fieldAddr _ u_laws_Value rfl s_string rfl rfl (hn := ?_)
  refine LWo.load1 (c := (e_string a0.S)) g_string rfl (hn := ?_)
  refine LWo.fieldPtr u_impl_Value rfl s_string rfl rfl (hn := ?_)
  refine lk h fun y8 e8 h => ?_
  refine LWo.storeW (y := y6) y8 s_string rfl rfl rfl rfl rfl rfl (by rw [e8]; exact .refl) rfl (hn := ?_)
  refine LWo.nil (hN7 _ ?_)
  refine LWP.seq_k fun N9 hN9 => ?_
  refine LWP.region (l := [_,_]) ?_
  refine LWo.loadVN ((e_impl_Value y8)).cells  g_impl_Value s_impl_Value rfl rfl rfl rfl (hn := ?_)
  refine lk h fun y10 e10 h => ?_
  refine LWo.storeW (y := (⟨(0 : Int), (0 : Int), (⟨#[]⟩ : ByteArray)⟩ : S_impl_Value)) y10 s_impl_Value rfl rfl rfl rfl rfl rfl (by rw [e10]; exact .refl) rfl (hn := ?_)
  refine LWo.nil (hN9 _ ?_)
  obtain rfl := Option.some.inj h
  refine LWP.ret (QG.mk (.inr rfl) (.cons (.cellN (ys := (e_impl_Value y10).cells) g_impl_Value s_impl_Value rfl rfl rfl rfl rfl (fun _ _ => rfl)) (.nil)) (RetOK.one0 (.pure rfl) (by decide)) rfl rfl)

def m_laws_toValueS_j1 (o1007 : (List S_impl_Value)) : Option (List S_impl_Value) :=
  some o1007
def m_laws_toValueS_l1 : Nat → (List S_laws_Value) → Int → (List S_impl_Value) → Option (List S_impl_Value)
  | 0, _, _, _ => none
  | n1 + 1, t0, t4, o1007 =>
    bif decide (t4 < (t0.length : Int)) then ((at? t0 t4).bind fun x12 =>
    (m_laws_toValue x12).bind fun x13 =>
    (at? o1007 t4).bind fun x14 =>
    (at? o1007 t4).bind fun x15 =>
    lt (x13) fun y16 =>
    (ckI (t4 + (1 : Int))).bind fun x17 =>
    (m_laws_toValueS_l1  n1) t0 x17 (o1007.set (t4).toNat y16))
    else (m_laws_toValueS_j1  o1007)
def m_laws_toValueS (a0 : (List S_laws_Value)) : Option (List S_impl_Value) :=
  (mk2? (a0.length : Int) (a0.length : Int) ((⟨(0 : Int), (0 : Int), (⟨#[]⟩ : ByteArray)⟩ : S_impl_Value) : S_impl_Value)).bind fun x3 =>
  m_laws_toValueS_l1  (((a0.length : Int) - (0 : Int)).toNat + 1) a0 (0 : Int) x3
theorem c_laws_toValueS (a0 : (List S_laws_Value)) (r : (List S_impl_Value)) (h : m_laws_toValueS a0 = some r) : Ret Try.prog f_laws_toValueS [e_Llaws_Value a0] (.nw 3 (r.map e_impl_Value) false) := by
  refine Does.goG [] F_laws_toValueS rfl e_laws_toValueS n_laws_toValueS rfl (rvs := [.tmp 2]) rfl rfl ?_
  intro w0 ok0 lent ρ0
  refine LWP.seq_k fun N1 hN1 => ?_
  refine LWP.region (l := [_]) ?_
  refine LWo.assign _ rfl (hn := ?_)
  refine LWo.ownNil 2 1002 3 rfl rfl rfl ?_
  refine LWo.known 2 (.own 1002 0 ([] : (List S_impl_Value)).length) rfl ?_
  refine LWo.nil (hN1 _ ?_)
  refine LWP.seq_k fun N2 hN2 => ?_
  refine LWP.region (l := [_,_,_,_]) ?_
  refine LWo.move (e_Llaws_Value a0) rfl (hn := ?_)
  refine LWo.lenM (f := e_laws_Value) (l := a0) u_Llaws_Value rfl (hn := ?_)
  refine bk h fun x3 e3 h => ?_
  refine LWo.make_impl_Value 1007 e3 u_Limpl_Value i_impl_Value rfl rfl rfl (hn := ?_)
  refine LWo.assign (.own 1007 0 (x3).length) rfl (hn := ?_)
  refine LWo.nil (hN2 _ ?_)
  refine LWP.join (α := (List S_impl_Value)) (fun z : (List S_impl_Value) => [(3, (.own 1007 0 (z).length))]) (fun z : (List S_impl_Value) => [(1007, (lob 3 e_impl_Value z))]) (fun z : (List S_impl_Value) => m_laws_toValueS_j1  z) r (fun _ => by simp [hkeys]) ?_ ?_
  ·rintro o1007 h
   replace h : m_laws_toValueS_j1  o1007 = some _ := h
   refine LWP.seq_k fun N18 hN18 => ?_
   refine LWP.region (l := [_,_]) ?_
   refine LWo.move (.own 1007 0 (o1007).length) rfl (hn := ?_)
   refine LWo.assign (.own 1007 0 (o1007).length) rfl (hn := ?_)
   refine LWo.nil (hN18 _ ?_)
   obtain rfl := Option.some.inj h
   refine LWP.ret (QG.mk (.inr rfl) (.cons (.tmp (x := (.own 1007 0 (o1007).length)) rfl) (.nil)) (RetOK.one0 (.nwM rfl rfl) (by decide)) rfl rfl)
  ·intro N4 hN4
   refine LWP.seq_k fun N5 hN5 => ?_
   refine LWP.region (l := [_]) ?_
   refine LWo.assign (e_int (0 : Int)) rfl (hn := ?_)
   refine LWo.nil (hN5 _ ?_)
   refine LWP.block ?_
   refine LWP.loopM (α := (List S_laws_Value) × Int × (List S_impl_Value)) (fun z : (List S_laws_Value) × Int × (List S_impl_Value) => [(0, (e_Llaws_Value z.1)), (3, (.own 1007 0 (z.2.2).length)), (4, (e_int z.2.1))]) (fun z : (List S_laws_Value) × Int × (List S_impl_Value) => [(1007, (lob 3 e_impl_Value z.2.2))]) (fun n1 (z : (List S_laws_Value) × Int × (List S_impl_Value)) => m_laws_toValueS_l1  n1 z.1 z.2.1 z.2.2) r _ (a0, (0 : Int), x3) h (fun _ => rfl) (fun _ => by simp [hkeys]) ⟨rfl, rfl, rfl, trivial⟩ ⟨rfl, trivial⟩ ?_
   rintro n1 ⟨t0, t4, o1007⟩ h N6 hN6
   replace h : m_laws_toValueS_l1  (n1 + 1) t0 t4 o1007 = some _ := h
   refine LWP.seq_k fun N8 hN8 => ?_
   refine LWP.seq_k fun N9 hN9 => ?_
   refine LWP.region (l := [_,_,_,_]) ?_
   refine LWo.move (e_int t4) rfl (hn := ?_)
   refine LWo.move (e_Llaws_Value t0) rfl (hn := ?_)
   refine LWo.lenM (f := e_laws_Value) (l := t0) u_Llaws_Value rfl (hn := ?_)
   refine LWo.int _ rfl rfl rfl (hn := ?_)
   refine LWo.nil (hN9 _ ?_)
   refine LWP.cond_split rfl (fun h10 => ?_) (fun h10 => ?_)
   ·have h := bT h10 h
    refine LWP.skip (hN8 _ ?_)
    refine LWP.seq_k fun N11 hN11 => ?_
    refine LWP.block ?_
    refine LWP.region (l := [_,_,_,_,_,_,_,_,_]) ?_
    refine LWo.move (.own 1007 0 (o1007).length) rfl (hn := ?_)
    refine LWo.move (e_int t4) rfl (hn := ?_)
    refine LWo.move (e_Llaws_Value t0) rfl (hn := ?_)
    refine LWo.move (e_int t4) rfl (hn := ?_)
    refine bk h fun x12 e12 h => ?_
    refine LWo.indexM (f := e_laws_Value) e12 u_Llaws_Value s_laws_Value rfl rfl (hn := ?_)
    refine LWo.loadN ((e_laws_Value x12)).cells g_laws_Value s_laws_Value rfl (Nat.le_of_ble_eq_true rfl) rfl (hn := ?_)
    refine bk h fun x13 e13 h => ?_
    refine LWo.vcall rfl rfl (c_laws_toValue _ _ e13) (.same (.nil)) (hn := ?_)
    refine bk h fun x14 e14 h => ?_
    refine LWo.indexO e14 rfl u_Limpl_Value s_impl_Value rfl rfl rfl (hn := ?_)
    refine bk h fun x15 e15 h => ?_
    refine lk h fun y16 e16 h => ?_
    refine LWo.storeO y16 e15 s_impl_Value rfl rfl rfl rfl rfl rfl rfl (by rw [e16]; rfl) (hn := ?_)
    refine LWo.nil (hN11 _ ?_)
    refine LWP.region (l := [_,_,_]) ?_
    refine LWo.move (e_int t4) rfl (hn := ?_)
    refine bk h fun x17 e17 h => ?_
    refine LWo.int _ rfl rfl (add_ck e17) (hn := ?_)
    refine LWo.assign (e_int x17) rfl (hn := ?_)
    refine LWo.nil (hN6 (t0, x17, (o1007.set (t4).toNat y16)) _ ⟨rfl, (congrArg (LV.own 1007 0) List.length_set.symm), rfl, trivial⟩ ⟨rfl, trivial⟩ h)
   ·have h := bF h10 h
    refine LWP.exit (hN4 o1007 _ ⟨rfl, trivial⟩ ⟨rfl, trivial⟩ h)

def m_laws_toValueSS_j1 (o1007 : (List (List S_impl_Value))) : Option (List (List S_impl_Value)) :=
  some o1007
def m_laws_toValueSS_l1 : Nat → (List (List S_laws_Value)) → Int → (List (List S_impl_Value)) → Option (List (List S_impl_Value))
  | 0, _, _, _ => none
  | n1 + 1, t0, t4, o1007 =>
    bif decide (t4 < (t0.length : Int)) then ((at? t0 t4).bind fun x12 =>
    (m_laws_toValueS x12).bind fun x13 =>
    (at? o1007 t4).bind fun x14 =>
    (at? o1007 t4).bind fun x15 =>
    (ckI (t4 + (1 : Int))).bind fun x16 =>
    (m_laws_toValueSS_l1  n1) t0 x16 (o1007.set (t4).toNat x13))
    else (m_laws_toValueSS_j1  o1007)
def m_laws_toValueSS (a0 : (List (List S_laws_Value))) : Option (List (List S_impl_Value)) :=
  (mk2? (a0.length : Int) (a0.length : Int) ([] : (List S_impl_Value))).bind fun x3 =>
  m_laws_toValueSS_l1  (((a0.length : Int) - (0 : Int)).toNat + 1) a0 (0 : Int) x3
theorem c_laws_toValueSS (a0 : (List (List S_laws_Value))) (r : (List (List S_impl_Value))) (h : m_laws_toValueSS a0 = some r) : Ret Try.prog f_laws_toValueSS [e_LLlaws_Value a0] (.nw 1 (r.map e_Limpl_Value) true) := by
  refine Does.goG [] F_laws_toValueSS rfl e_laws_toValueSS n_laws_toValueSS rfl (rvs := [.tmp 2]) rfl rfl ?_
  intro w0 ok0 lent ρ0
  refine LWP.seq_k fun N1 hN1 => ?_
  refine LWP.region (l := [_]) ?_
  refine LWo.assign _ rfl (hn := ?_)
  refine LWo.ownNil 2 1002 1 rfl rfl rfl ?_
  refine LWo.deep0 (sz := 1) e_Limpl_Value 1002 rfl ?_
  refine LWo.known 2 (.own 1002 0 ([] : (List (List S_impl_Value))).length) rfl ?_
  refine LWo.nil (hN1 _ ?_)
  refine LWP.seq_k fun N2 hN2 => ?_
  refine LWP.region (l := [_,_,_,_]) ?_
  refine LWo.move (e_LLlaws_Value a0) rfl (hn := ?_)
  refine LWo.lenM (f := e_Llaws_Value) (l := a0) u_LLlaws_Value rfl (hn := ?_)
  refine bk h fun x3 e3 h => ?_
  refine LWo.makeD_Limpl_Value 1007 e3 u_LLimpl_Value i_Limpl_Value rfl rfl rfl (hn := ?_)
  refine LWo.assign (.own 1007 0 (x3).length) rfl (hn := ?_)
  refine LWo.nil (hN2 _ ?_)
  refine LWP.join (α := (List (List S_impl_Value))) (fun z : (List (List S_impl_Value)) => [(3, (.own 1007 0 (z).length))]) (fun z : (List (List S_impl_Value)) => [(1007, (dob 1 e_Limpl_Value z))]) (fun z : (List (List S_impl_Value)) => m_laws_toValueSS_j1  z) r (fun _ => by simp [hkeys]) ?_ ?_
  ·rintro o1007 h
   replace h : m_laws_toValueSS_j1  o1007 = some _ := h
   refine LWP.seq_k fun N17 hN17 => ?_
   refine LWP.region (l := [_,_]) ?_
   refine LWo.move (.own 1007 0 (o1007).length) rfl (hn := ?_)
   refine LWo.assign (.own 1007 0 (o1007).length) rfl (hn := ?_)
   refine LWo.nil (hN17 _ ?_)
   obtain rfl := Option.some.inj h
   refine LWP.ret (QG.mk (.inr rfl) (.cons (.tmp (x := (.own 1007 0 (o1007).length)) rfl) (.nil)) (RetOK.one0 (.nwD rfl rfl) (by decide)) rfl rfl)
  ·intro N4 hN4
   refine LWP.seq_k fun N5 hN5 => ?_
   refine LWP.region (l := [_]) ?_
   refine LWo.assign (e_int (0 : Int)) rfl (hn := ?_)
   refine LWo.nil (hN5 _ ?_)
   refine LWP.block ?_
   refine LWP.loopM (α := (List (List S_laws_Value)) × Int × (List (List S_impl_Value))) (fun z : (List (List S_laws_Value)) × Int × (List (List S_impl_Value)) => [(0, (e_LLlaws_Value z.1)), (3, (.own 1007 0 (z.2.2).length)), (4, (e_int z.2.1))]) (fun z : (List (List S_laws_Value)) × Int × (List (List S_impl_Value)) => [(1007, (dob 1 e_Limpl_Value z.2.2))]) (fun n1 (z : (List (List S_laws_Value)) × Int × (List (List S_impl_Value))) => m_laws_toValueSS_l1  n1 z.1 z.2.1 z.2.2) r _ (a0, (0 : Int), x3) h (fun _ => rfl) (fun _ => by simp [hkeys]) ⟨rfl, rfl, rfl, trivial⟩ ⟨rfl, trivial⟩ ?_
   rintro n1 ⟨t0, t4, o1007⟩ h N6 hN6
   replace h : m_laws_toValueSS_l1  (n1 + 1) t0 t4 o1007 = some _ := h
   refine LWP.seq_k fun N8 hN8 => ?_
   refine LWP.seq_k fun N9 hN9 => ?_
   refine LWP.region (l := [_,_,_,_]) ?_
   refine LWo.move (e_int t4) rfl (hn := ?_)
   refine LWo.move (e_LLlaws_Value t0) rfl (hn := ?_)
   refine LWo.lenM (f := e_Llaws_Value) (l := t0) u_LLlaws_Value rfl (hn := ?_)
   refine LWo.int _ rfl rfl rfl (hn := ?_)
   refine LWo.nil (hN9 _ ?_)
   refine LWP.cond_split rfl (fun h10 => ?_) (fun h10 => ?_)
   ·have h := bT h10 h
    refine LWP.skip (hN8 _ ?_)
    refine LWP.seq_k fun N11 hN11 => ?_
    refine LWP.block ?_
    refine LWP.region (l := [_,_,_,_,_,_,_,_,_]) ?_
    refine LWo.move (.own 1007 0 (o1007).length) rfl (hn := ?_)
    refine LWo.move (e_int t4) rfl (hn := ?_)
    refine LWo.move (e_LLlaws_Value t0) rfl (hn := ?_)
    refine LWo.move (e_int t4) rfl (hn := ?_)
    refine bk h fun x12 e12 h => ?_
    refine LWo.indexM (f := e_Llaws_Value) e12 u_LLlaws_Value s_Llaws_Value rfl rfl (hn := ?_)
    refine LWo.load1 (c := (e_Llaws_Value x12)) g_Llaws_Value rfl (hn := ?_)
    refine bk h fun x13 e13 h => ?_
    refine LWo.ncall (e := e_impl_Value) 1020 rfl rfl (c_laws_toValueS _ _ e13) (.same (.nil)) rfl (hn := ?_)
    refine bk h fun x14 e14 h => ?_
    refine LWo.indexD e14 rfl u_LLimpl_Value s_Limpl_Value rfl rfl rfl (hn := ?_)
    refine bk h fun x15 e15 h => ?_
    refine LWo.storeDM (ks := [1020]) (f := e_Limpl_Value) (x13 : (List S_impl_Value)) e15 s_Limpl_Value rfl rfl rfl rfl (.cons (.own (obj := (lob 3 e_impl_Value x13)) rfl rfl (.inl ⟨rfl, immL_map (e := e_impl_Value) (fun _ => rfl) _⟩) (List.length_map _).symm) .nil) (by decide) rfl rfl rfl (hn := ?_)
    refine LWo.nil (hN11 _ ?_)
    refine LWP.region (l := [_,_,_]) ?_
    refine LWo.move (e_int t4) rfl (hn := ?_)
    refine bk h fun x16 e16 h => ?_
    refine LWo.int _ rfl rfl (add_ck e16) (hn := ?_)
    refine LWo.assign (e_int x16) rfl (hn := ?_)
    refine LWo.nil (hN6 (t0, x16, (o1007.set (t4).toNat x13)) _ ⟨rfl, (congrArg (LV.own 1007 0) List.length_set.symm), rfl, trivial⟩ ⟨rfl, trivial⟩ h)
   ·have h := bF h10 h
    refine LWP.exit (hN4 o1007 _ ⟨rfl, trivial⟩ ⟨rfl, trivial⟩ h)

def m_spec_l1In_j1 (t6 : Bool) : Option Bool :=
  some t6
def m_spec_l1In (a0 : Int) (a1 : Int) (a2 : Int) : Option Bool :=
  bif decide (a0 ≥ a1) then (m_spec_l1In_j1  (decide (a0 ≤ a2)))
  else (m_spec_l1In_j1  false)
theorem c_spec_l1In (a0 : Int) (a1 : Int) (a2 : Int) (r : Bool) (h : m_spec_l1In a0 a1 a2 = some r) : Ret Try.prog f_spec_l1In [e_int a0, e_int a1, e_int a2] (e_bool r) := by
  refine Does.goG [] F_spec_l1In rfl e_spec_l1In n_spec_l1In rfl (rvs := [.tmp 6]) rfl rfl ?_
  intro w0 ok0 lent ρ0
  refine LWP.seq_k fun N1 hN1 => ?_
  refine LWP.region (l := [_]) ?_
  refine LWo.assign (e_bool false) rfl (hn := ?_)
  refine LWo.nil (hN1 _ ?_)
  refine LWP.join (α := Bool) (fun z : Bool => [(6, (e_bool z))]) (fun z : Bool => []) (fun z : Bool => m_spec_l1In_j1  z) r (fun _ => by simp [hkeys]) ?_ ?_
  ·rintro t6 h
   replace h : m_spec_l1In_j1  t6 = some _ := h
   obtain rfl := Option.some.inj h
   refine LWP.ret (QG.mk (.inr rfl) (.cons (.tmp (x := (e_bool t6)) rfl) (.nil)) (RetOK.one0 (.pure rfl) (by decide)) rfl rfl)
  ·intro N2 hN2
   refine LWP.region (l := [_,_,_,_,_,_,_,_,_]) ?_
   refine LWo.move (e_int a0) rfl (hn := ?_)
   refine LWo.move (e_int a1) rfl (hn := ?_)
   refine LWo.int _ rfl rfl rfl (hn := ?_)
   refine LWo.move (e_bool (decide (a0 ≥ a1))) rfl (hn := ?_)
   refine LWo.byCases (t := 10) _ rfl (fun h3 => ?_) (fun h3 => ?_)
   ·have h := bT h3 h
    refine LWo.guardY (t := 10) rfl h3 rfl rfl ?_
    refine LWo.move (e_int a0) rfl (hn := ?_)
    refine LWo.guardY (t := 10) rfl h3 rfl rfl ?_
    refine LWo.move (e_int a2) rfl (hn := ?_)
    refine LWo.guardY (t := 10) rfl h3 rfl rfl ?_
    refine LWo.int _ rfl rfl rfl (hn := ?_)
    refine LWo.pickTM (e_bool (decide (a0 ≤ a2))) rfl h3 rfl (hn := ?_)
    refine LWo.assign (e_bool (decide (a0 ≤ a2))) rfl (hn := ?_)
    refine LWo.nil (hN2 (decide (a0 ≤ a2)) _ ⟨rfl, trivial⟩ trivial h)
   ·have h := bF h3 h
    refine LWo.guardNU (t := 10) rfl h3 rfl rfl rfl rfl rfl ?_
    refine LWo.guardNU (t := 10) rfl h3 rfl rfl rfl rfl rfl ?_
    refine LWo.guardNU (t := 10) rfl h3 rfl rfl rfl rfl rfl ?_
    refine LWo.pickFM (e_bool false) rfl h3 rfl (hn := ?_)
    refine LWo.assign (e_bool false) rfl (hn := ?_)
    refine LWo.nil (hN2 false _ ⟨rfl, trivial⟩ trivial h)

def m_spec_l1Text_j2 (t0 : ByteArray) : Option Bool :=
  some (decide ((t0.size : Int) ≤ (6 : Int)))
def m_spec_l1Text_j1 (k1 : ByteArray → Int → Option Bool) (t0 : ByteArray) (t3 : Int) (t19 : Bool) : Option Bool :=
  bif t19 then (some false)
  else ((ckI (t3 + (1 : Int))).bind fun x16 =>
  k1 t0 x16)
def m_spec_l1Text_l1 : Nat → ByteArray → Int → Option Bool
  | 0, _, _ => none
  | n1 + 1, t0, t3 =>
    bif decide (t3 < (t0.size : Int)) then ((sAt? t0 t3).bind fun x11 =>
    bif decide ((x11.toNat : Int) < ((97 : UInt8).toNat : Int)) then (m_spec_l1Text_j1  (m_spec_l1Text_l1  n1) t0 t3 true)
    else ((sAt? t0 t3).bind fun x13 =>
      m_spec_l1Text_j1  (m_spec_l1Text_l1  n1) t0 t3 (decide ((x13.toNat : Int) > ((122 : UInt8).toNat : Int)))))
    else (m_spec_l1Text_j2  t0)
def m_spec_l1Text (a0 : ByteArray) : Option Bool :=
  m_spec_l1Text_l1  (((a0.size : Int) - (0 : Int)).toNat + 1) a0 (0 : Int)
theorem c_spec_l1Text (a0 : ByteArray) (r : Bool) (h : m_spec_l1Text a0 = some r) : Ret Try.prog f_spec_l1Text [e_string a0] (e_bool r) := by
  refine Does.goG [] F_spec_l1Text rfl e_spec_l1Text n_spec_l1Text rfl (rvs := [.tmp 2]) rfl rfl ?_
  intro w0 ok0 lent ρ0
  refine LWP.seq_k fun N1 hN1 => ?_
  refine LWP.region (l := [_]) ?_
  refine LWo.assign (e_bool false) rfl (hn := ?_)
  refine LWo.nil (hN1 _ ?_)
  refine LWP.join (α := ByteArray) (fun z : ByteArray => [(0, (e_string z))]) (fun z : ByteArray => []) (fun z : ByteArray => m_spec_l1Text_j2  z) r (fun _ => by simp [hkeys]) ?_ ?_
  ·rintro t0 h
   replace h : m_spec_l1Text_j2  t0 = some _ := h
   refine LWP.seq_k fun N17 hN17 => ?_
   refine LWP.region (l := [_,_,_,_]) ?_
   refine LWo.move (e_string t0) rfl (hn := ?_)
   refine LWo.lenS u_string rfl (hn := ?_)
   refine LWo.int _ rfl rfl rfl (hn := ?_)
   refine LWo.assign (e_bool (decide ((t0.size : Int) ≤ (6 : Int)))) rfl (hn := ?_)
   refine LWo.nil (hN17 _ ?_)
   obtain rfl := Option.some.inj h
   refine LWP.ret (QG.mk (.inr rfl) (.cons (.tmp (x := (e_bool (decide ((t0.size : Int) ≤ (6 : Int))))) rfl) (.nil)) (RetOK.one0 (.pure rfl) (by decide)) rfl rfl)
  ·intro N2 hN2
   refine LWP.seq_k fun N3 hN3 => ?_
   refine LWP.region (l := [_]) ?_
   refine LWo.assign (e_int (0 : Int)) rfl (hn := ?_)
   refine LWo.nil (hN3 _ ?_)
   refine LWP.block ?_
   refine LWP.loopM (α := ByteArray × Int) (fun z : ByteArray × Int => [(0, (e_string z.1)), (3, (e_int z.2))]) (fun z : ByteArray × Int => []) (fun n1 (z : ByteArray × Int) => m_spec_l1Text_l1  n1 z.1 z.2) r _ (a0, (0 : Int)) h (fun _ => rfl) (fun _ => by simp [hkeys]) ⟨rfl, rfl, trivial⟩ trivial ?_
   rintro n1 ⟨t0, t3⟩ h N4 hN4
   replace h : m_spec_l1Text_l1  (n1 + 1) t0 t3 = some _ := h
   refine LWP.seq_k fun N6 hN6 => ?_
   refine LWP.seq_k fun N7 hN7 => ?_
   refine LWP.region (l := [_,_,_,_]) ?_
   refine LWo.move (e_int t3) rfl (hn := ?_)
   refine LWo.move (e_string t0) rfl (hn := ?_)
   refine LWo.lenS u_string rfl (hn := ?_)
   refine LWo.int _ rfl rfl rfl (hn := ?_)
   refine LWo.nil (hN7 _ ?_)
   refine LWP.cond_split rfl (fun h8 => ?_) (fun h8 => ?_)
   ·have h := bT h8 h
    refine LWP.skip (hN6 _ ?_)
    refine LWP.seq_k fun N9 hN9 => ?_
    refine LWP.block ?_
    refine LWP.join (α := ByteArray × Int × Bool) (fun z : ByteArray × Int × Bool => [(0, (e_string z.1)), (3, (e_int z.2.1)), (19, (e_bool z.2.2))]) (fun z : ByteArray × Int × Bool => []) (fun z : ByteArray × Int × Bool => m_spec_l1Text_j1  (m_spec_l1Text_l1  n1) z.1 z.2.1 z.2.2) r (fun _ => by simp [hkeys]) ?_ ?_
    ·rintro ⟨t0, t3, t19⟩ h
     replace h : m_spec_l1Text_j1  (m_spec_l1Text_l1  n1) t0 t3 t19 = some _ := h
     refine LWP.cond_split rfl (fun h14 => ?_) (fun h14 => ?_)
     ·have h := bT h14 h
      refine LWP.seq_k fun N15 hN15 => ?_
      refine LWP.region (l := [_]) ?_
      refine LWo.assign (e_bool false) rfl (hn := ?_)
      refine LWo.nil (hN15 _ ?_)
      obtain rfl := Option.some.inj h
      refine LWP.ret (QG.mk (.inr rfl) (.cons (.tmp (x := (e_bool false)) rfl) (.nil)) (RetOK.one0 (.pure rfl) (by decide)) rfl rfl)
     ·have h := bF h14 h
      refine LWP.skip (hN9 _ ?_)
      refine LWP.region (l := [_,_,_]) ?_
      refine LWo.move (e_int t3) rfl (hn := ?_)
      refine bk h fun x16 e16 h => ?_
      refine LWo.int _ rfl rfl (add_ck e16) (hn := ?_)
      refine LWo.assign (e_int x16) rfl (hn := ?_)
      refine LWo.nil (hN4 (t0, x16) _ ⟨rfl, rfl, trivial⟩ trivial h)
    ·intro N10 hN10
     refine LWP.region (l := [_,_,_,_,_,_,_,_,_,_]) ?_
     refine LWo.move (e_string t0) rfl (hn := ?_)
     refine LWo.move (e_int t3) rfl (hn := ?_)
     refine bk h fun x11 e11 h => ?_
     refine LWo.indexStr u_string rfl rfl (sAt_0 e11) (sAt_g e11) (hn := ?_)
     refine LWo.int _ rfl rfl rfl (hn := ?_)
     refine LWo.move (e_bool (decide ((x11.toNat : Int) < ((97 : UInt8).toNat : Int)))) rfl (hn := ?_)
     refine LWo.byCases (t := 14) _ rfl (fun h12 => ?_) (fun h12 => ?_)
     ·have h := bT h12 h
      refine LWo.guardNU (t := 14) rfl h12 rfl rfl rfl rfl rfl ?_
      refine LWo.guardNU (t := 14) rfl h12 rfl rfl rfl rfl rfl ?_
      refine LWo.guardNU (t := 14) rfl h12 rfl rfl rfl rfl rfl ?_
      refine LWo.guardNU (t := 14) rfl h12 rfl rfl rfl rfl rfl ?_
      refine LWo.pickTM (e_bool true) rfl h12 rfl (hn := ?_)
      refine LWo.nil (hN10 (t0, t3, true) _ ⟨rfl, rfl, rfl, trivial⟩ trivial h)
     ·have h := bF h12 h
      refine LWo.guardY (t := 14) rfl h12 rfl rfl ?_
      refine LWo.move (e_string t0) rfl (hn := ?_)
      refine LWo.guardY (t := 14) rfl h12 rfl rfl ?_
      refine LWo.move (e_int t3) rfl (hn := ?_)
      refine bk h fun x13 e13 h => ?_
      refine LWo.guardY (t := 14) rfl h12 rfl rfl ?_
      refine LWo.indexStr u_string rfl rfl (sAt_0 e13) (sAt_g e13) (hn := ?_)
      refine LWo.guardY (t := 14) rfl h12 rfl rfl ?_
      refine LWo.int _ rfl rfl rfl (hn := ?_)
      refine LWo.pickFM (e_bool (decide ((x13.toNat : Int) > ((122 : UInt8).toNat : Int)))) rfl h12 rfl (hn := ?_)
      refine LWo.nil (hN10 (t0, t3, decide ((x13.toNat : Int) > ((122 : UInt8).toNat : Int))) _ ⟨rfl, rfl, rfl, trivial⟩ trivial h)
   ·have h := bF h8 h
    refine LWP.exit (hN2 t0 _ ⟨rfl, trivial⟩ trivial h)

def m_spec_ValueOk_j1 (t2 : Bool) : Option Bool :=
  some t2
def m_spec_ValueOk_j2 (t2 : Bool) : Option Bool :=
  some t2
def m_spec_ValueOk_j3 (t2 : Bool) : Option Bool :=
  some t2
def m_spec_ValueOk_j4 (t2 : Bool) : Option Bool :=
  some t2
def m_spec_ValueOk (a0 : S_impl_Value) : Option Bool :=
  bif (a0.Kind == (0 : Int)) then (bif (a0.N == (0 : Int)) then (m_spec_ValueOk_j1  (sEq a0.S (⟨#[]⟩ : ByteArray)))
    else (m_spec_ValueOk_j1  false))
  else (bif (a0.Kind == (1 : Int)) then ((m_spec_l1In a0.N (-9999 : Int) (9999 : Int)).bind fun x11 =>
      bif x11 then (m_spec_ValueOk_j2  (sEq a0.S (⟨#[]⟩ : ByteArray)))
      else (m_spec_ValueOk_j2  false))
    else (bif (a0.Kind == (2 : Int)) then (bif (a0.N == (0 : Int)) then ((m_spec_l1Text a0.S).bind fun x17 =>
          m_spec_ValueOk_j3  x17)
        else (m_spec_ValueOk_j3  false))
      else (bif (a0.Kind == (3 : Int)) then ((m_spec_l1In a0.N (0 : Int) (1 : Int)).bind fun x21 =>
          bif x21 then (m_spec_ValueOk_j4  (sEq a0.S (⟨#[]⟩ : ByteArray)))
          else (m_spec_ValueOk_j4  false))
        else (some false))))
theorem c_spec_ValueOk (a0 : S_impl_Value) (r : Bool) (h : m_spec_ValueOk a0 = some r) : Ret Try.prog f_spec_ValueOk [e_impl_Value a0] (e_bool r) := by
  refine Does.goG [] F_spec_ValueOk rfl e_spec_ValueOk n_spec_ValueOk rfl (rvs := [.tmp 2]) rfl rfl ?_
  intro w0 ok0 lent ρ0
  refine LWP.seq_k fun N1 hN1 => ?_
  refine LWP.region (l := [_,_]) ?_
  refine LWo.boxF (e_impl_Value a0) rfl rfl rfl (hn := ?_)
  refine LWo.assign (e_bool false) rfl (hn := ?_)
  refine LWo.nil (hN1 _ ?_)
  refine LWP.seq_k fun N2 hN2 => ?_
  refine LWP.seq_k fun N3 hN3 => ?_
  refine LWP.region (l := [_,_]) ?_
  refine LWo.fieldAddr _ u_impl_Value rfl s_int rfl rfl (hn := ?_)
  refine LWo.load1 (c := (e_int a0.Kind)) g_int rfl (hn := ?_)
  refine LWo.nil (hN3 _ ?_)
  refine LWP.block ?_
  refine LWP.seq_k fun N4 hN4 => ?_
  refine LWP.region (l := [_,_]) ?_
  refine LWo.int _ rfl rfl rfl (hn := ?_)
  refine LWo.assign (e_bool (a0.Kind == (0 : Int))) rfl (hn := ?_)
  refine LWo.nil (hN4 _ ?_)
  refine LWP.cond_split rfl (fun h5 => ?_) (fun h5 => ?_)
  ·have h := bT h5 h
   refine LWP.join (α := Bool) (fun z : Bool => [(2, (e_bool z))]) (fun z : Bool => []) (fun z : Bool => m_spec_ValueOk_j1  z) r (fun _ => by simp [hkeys]) ?_ ?_
   ·rintro t2 h
    replace h : m_spec_ValueOk_j1  t2 = some _ := h
    obtain rfl := Option.some.inj h
    refine LWP.ret (QG.mk (.inr rfl) (.cons (.tmp (x := (e_bool t2)) rfl) (.nil)) (RetOK.one0 (.pure rfl) (by decide)) rfl rfl)
   ·intro N6 hN6
    refine LWP.region (l := [_,_,_,_,_,_,_,_,_]) ?_
    refine LWo.fieldAddr _ u_impl_Value rfl s_int rfl rfl (hn := ?_)
    refine LWo.load1 (c := (e_int a0.N)) g_int rfl (hn := ?_)
    refine LWo.int _ rfl rfl rfl (hn := ?_)
    refine LWo.move (e_bool (a0.N == (0 : Int))) rfl (hn := ?_)
    refine LWo.byCases (t := 10) _ rfl (fun h7 => ?_) (fun h7 => ?_)
    ·have h := bT h7 h
     refine LWo.guardY (t := 10) rfl h7 rfl rfl ?_
     refine LWo.fieldAddr _ u_impl_Value rfl s_string rfl rfl (hn := ?_)
     refine LWo.guardY (t := 10) rfl h7 rfl rfl ?_
     refine LWo.load1 (c := (e_string a0.S)) g_string rfl (hn := ?_)
     refine LWo.guardY (t := 10) rfl h7 rfl rfl ?_
     refine LWo.str _ rfl rfl rfl (hn := ?_)
     refine LWo.pickTM (e_bool (sEq a0.S (⟨#[]⟩ : ByteArray))) rfl h7 rfl (hn := ?_)
     refine LWo.assign (e_bool (sEq a0.S (⟨#[]⟩ : ByteArray))) rfl (hn := ?_)
     refine LWo.nil (hN6 (sEq a0.S (⟨#[]⟩ : ByteArray)) _ ⟨rfl, trivial⟩ trivial h)
    ·have h := bF h7 h
     refine LWo.guardNU (t := 10) rfl h7 rfl rfl rfl rfl rfl ?_
     refine LWo.guardNU (t := 10) rfl h7 rfl rfl rfl rfl rfl ?_
     refine LWo.guardNU (t := 10) rfl h7 rfl rfl rfl rfl rfl ?_
     refine LWo.pickFM (e_bool false) rfl h7 rfl (hn := ?_)
     refine LWo.assign (e_bool false) rfl (hn := ?_)
     refine LWo.nil (hN6 false _ ⟨rfl, trivial⟩ trivial h)
  ·have h := bF h5 h
   refine LWP.seq_k fun N8 hN8 => ?_
   refine LWP.region (l := [_,_]) ?_
   refine LWo.int _ rfl rfl rfl (hn := ?_)
   refine LWo.assign (e_bool (a0.Kind == (1 : Int))) rfl (hn := ?_)
   refine LWo.nil (hN8 _ ?_)
   refine LWP.cond_split rfl (fun h9 => ?_) (fun h9 => ?_)
   ·have h := bT h9 h
    refine LWP.join (α := Bool) (fun z : Bool => [(2, (e_bool z))]) (fun z : Bool => []) (fun z : Bool => m_spec_ValueOk_j2  z) r (fun _ => by simp [hkeys]) ?_ ?_
    ·rintro t2 h
     replace h : m_spec_ValueOk_j2  t2 = some _ := h
     obtain rfl := Option.some.inj h
     refine LWP.ret (QG.mk (.inr rfl) (.cons (.tmp (x := (e_bool t2)) rfl) (.nil)) (RetOK.one0 (.pure rfl) (by decide)) rfl rfl)
    ·intro N10 hN10
     refine LWP.region (l := [_,_,_,_,_,_,_,_,_]) ?_
     refine LWo.fieldAddr _ u_impl_Value rfl s_int rfl rfl (hn := ?_)
     refine LWo.load1 (c := (e_int a0.N)) g_int rfl (hn := ?_)
     refine bk h fun x11 e11 h => ?_
     refine LWo.vcall rfl rfl (c_spec_l1In _ _ _ _ e11) (.same (.same (.same (.nil)))) (hn := ?_)
     refine LWo.move (e_bool x11) rfl (hn := ?_)
     refine LWo.byCases (t := 20) _ rfl (fun h12 => ?_) (fun h12 => ?_)
     ·have h := bT h12 h
      refine LWo.guardY (t := 20) rfl h12 rfl rfl ?_
      refine LWo.fieldAddr _ u_impl_Value rfl s_string rfl rfl (hn := ?_)
      refine LWo.guardY (t := 20) rfl h12 rfl rfl ?_
      refine LWo.load1 (c := (e_string a0.S)) g_string rfl (hn := ?_)
      refine LWo.guardY (t := 20) rfl h12 rfl rfl ?_
      refine LWo.str _ rfl rfl rfl (hn := ?_)
      refine LWo.pickTM (e_bool (sEq a0.S (⟨#[]⟩ : ByteArray))) rfl h12 rfl (hn := ?_)
      refine LWo.assign (e_bool (sEq a0.S (⟨#[]⟩ : ByteArray))) rfl (hn := ?_)
      refine LWo.nil (hN10 (sEq a0.S (⟨#[]⟩ : ByteArray)) _ ⟨rfl, trivial⟩ trivial h)
     ·have h := bF h12 h
      refine LWo.guardNU (t := 20) rfl h12 rfl rfl rfl rfl rfl ?_
      refine LWo.guardNU (t := 20) rfl h12 rfl rfl rfl rfl rfl ?_
      refine LWo.guardNU (t := 20) rfl h12 rfl rfl rfl rfl rfl ?_
      refine LWo.pickFM (e_bool false) rfl h12 rfl (hn := ?_)
      refine LWo.assign (e_bool false) rfl (hn := ?_)
      refine LWo.nil (hN10 false _ ⟨rfl, trivial⟩ trivial h)
   ·have h := bF h9 h
    refine LWP.seq_k fun N13 hN13 => ?_
    refine LWP.region (l := [_,_]) ?_
    refine LWo.int _ rfl rfl rfl (hn := ?_)
    refine LWo.assign (e_bool (a0.Kind == (2 : Int))) rfl (hn := ?_)
    refine LWo.nil (hN13 _ ?_)
    refine LWP.cond_split rfl (fun h14 => ?_) (fun h14 => ?_)
    ·have h := bT h14 h
     refine LWP.join (α := Bool) (fun z : Bool => [(2, (e_bool z))]) (fun z : Bool => []) (fun z : Bool => m_spec_ValueOk_j3  z) r (fun _ => by simp [hkeys]) ?_ ?_
     ·rintro t2 h
      replace h : m_spec_ValueOk_j3  t2 = some _ := h
      obtain rfl := Option.some.inj h
      refine LWP.ret (QG.mk (.inr rfl) (.cons (.tmp (x := (e_bool t2)) rfl) (.nil)) (RetOK.one0 (.pure rfl) (by decide)) rfl rfl)
     ·intro N15 hN15
      refine LWP.region (l := [_,_,_,_,_,_,_,_,_]) ?_
      refine LWo.fieldAddr _ u_impl_Value rfl s_int rfl rfl (hn := ?_)
      refine LWo.load1 (c := (e_int a0.N)) g_int rfl (hn := ?_)
      refine LWo.int _ rfl rfl rfl (hn := ?_)
      refine LWo.move (e_bool (a0.N == (0 : Int))) rfl (hn := ?_)
      refine LWo.byCases (t := 30) _ rfl (fun h16 => ?_) (fun h16 => ?_)
      ·have h := bT h16 h
       refine LWo.guardY (t := 30) rfl h16 rfl rfl ?_
       refine LWo.fieldAddr _ u_impl_Value rfl s_string rfl rfl (hn := ?_)
       refine LWo.guardY (t := 30) rfl h16 rfl rfl ?_
       refine LWo.load1 (c := (e_string a0.S)) g_string rfl (hn := ?_)
       refine bk h fun x17 e17 h => ?_
       refine LWo.guardY (t := 30) rfl h16 rfl rfl ?_
       refine LWo.vcall rfl rfl (c_spec_l1Text _ _ e17) (.same (.nil)) (hn := ?_)
       refine LWo.pickTM (e_bool x17) rfl h16 rfl (hn := ?_)
       refine LWo.assign (e_bool x17) rfl (hn := ?_)
       refine LWo.nil (hN15 x17 _ ⟨rfl, trivial⟩ trivial h)
      ·have h := bF h16 h
       refine LWo.guardNU (t := 30) rfl h16 rfl rfl rfl rfl rfl ?_
       refine LWo.guardNU (t := 30) rfl h16 rfl rfl rfl rfl rfl ?_
       refine LWo.guardNU (t := 30) rfl h16 rfl rfl rfl rfl rfl ?_
       refine LWo.pickFM (e_bool false) rfl h16 rfl (hn := ?_)
       refine LWo.assign (e_bool false) rfl (hn := ?_)
       refine LWo.nil (hN15 false _ ⟨rfl, trivial⟩ trivial h)
    ·have h := bF h14 h
     refine LWP.seq_k fun N18 hN18 => ?_
     refine LWP.region (l := [_,_]) ?_
     refine LWo.int _ rfl rfl rfl (hn := ?_)
     refine LWo.assign (e_bool (a0.Kind == (3 : Int))) rfl (hn := ?_)
     refine LWo.nil (hN18 _ ?_)
     refine LWP.cond_split rfl (fun h19 => ?_) (fun h19 => ?_)
     ·have h := bT h19 h
      refine LWP.join (α := Bool) (fun z : Bool => [(2, (e_bool z))]) (fun z : Bool => []) (fun z : Bool => m_spec_ValueOk_j4  z) r (fun _ => by simp [hkeys]) ?_ ?_
      ·rintro t2 h
       replace h : m_spec_ValueOk_j4  t2 = some _ := h
       obtain rfl := Option.some.inj h
       refine LWP.ret (QG.mk (.inr rfl) (.cons (.tmp (x := (e_bool t2)) rfl) (.nil)) (RetOK.one0 (.pure rfl) (by decide)) rfl rfl)
      ·intro N20 hN20
       refine LWP.region (l := [_,_,_,_,_,_,_,_,_]) ?_
       refine LWo.fieldAddr _ u_impl_Value rfl s_int rfl rfl (hn := ?_)
       refine LWo.load1 (c := (e_int a0.N)) g_int rfl (hn := ?_)
       refine bk h fun x21 e21 h => ?_
       refine LWo.vcall rfl rfl (c_spec_l1In _ _ _ _ e21) (.same (.same (.same (.nil)))) (hn := ?_)
       refine LWo.move (e_bool x21) rfl (hn := ?_)
       refine LWo.byCases (t := 40) _ rfl (fun h22 => ?_) (fun h22 => ?_)
       ·have h := bT h22 h
        refine LWo.guardY (t := 40) rfl h22 rfl rfl ?_
        refine LWo.fieldAddr _ u_impl_Value rfl s_string rfl rfl (hn := ?_)
        refine LWo.guardY (t := 40) rfl h22 rfl rfl ?_
        refine LWo.load1 (c := (e_string a0.S)) g_string rfl (hn := ?_)
        refine LWo.guardY (t := 40) rfl h22 rfl rfl ?_
        refine LWo.str _ rfl rfl rfl (hn := ?_)
        refine LWo.pickTM (e_bool (sEq a0.S (⟨#[]⟩ : ByteArray))) rfl h22 rfl (hn := ?_)
        refine LWo.assign (e_bool (sEq a0.S (⟨#[]⟩ : ByteArray))) rfl (hn := ?_)
        refine LWo.nil (hN20 (sEq a0.S (⟨#[]⟩ : ByteArray)) _ ⟨rfl, trivial⟩ trivial h)
       ·have h := bF h22 h
        refine LWo.guardNU (t := 40) rfl h22 rfl rfl rfl rfl rfl ?_
        refine LWo.guardNU (t := 40) rfl h22 rfl rfl rfl rfl rfl ?_
        refine LWo.guardNU (t := 40) rfl h22 rfl rfl rfl rfl rfl ?_
        refine LWo.pickFM (e_bool false) rfl h22 rfl (hn := ?_)
        refine LWo.assign (e_bool false) rfl (hn := ?_)
        refine LWo.nil (hN20 false _ ⟨rfl, trivial⟩ trivial h)
     ·have h := bF h19 h
      refine LWP.skip (hN2 _ ?_)
      refine LWP.seq_k fun N23 hN23 => ?_
      refine LWP.region (l := [_]) ?_
      refine LWo.assign (e_bool false) rfl (hn := ?_)
      refine LWo.nil (hN23 _ ?_)
      obtain rfl := Option.some.inj h
      refine LWP.ret (QG.mk (.inr rfl) (.cons (.tmp (x := (e_bool false)) rfl) (.nil)) (RetOK.one0 (.pure rfl) (by decide)) rfl rfl)

def m_spec_RowOk_j1 (t0 : (List S_impl_Value)) : Option Bool :=
  some (decide ((t0.length : Int) ≤ (4 : Int)))
def m_spec_RowOk_l1 : Nat → (List S_impl_Value) → Int → Option Bool
  | 0, _, _ => none
  | n1 + 1, t0, t3 =>
    bif decide (t3 < (t0.length : Int)) then ((at? t0 t3).bind fun x11 =>
    (m_spec_ValueOk x11).bind fun x12 =>
    bif (!x12) then (some false)
    else ((ckI (t3 + (1 : Int))).bind fun x15 =>
    (m_spec_RowOk_l1  n1) t0 x15))
    else (m_spec_RowOk_j1  t0)
def m_spec_RowOk (a0 : (List S_impl_Value)) : Option Bool :=
  m_spec_RowOk_l1  (((a0.length : Int) - (0 : Int)).toNat + 1) a0 (0 : Int)
theorem c_spec_RowOk (a0 : (List S_impl_Value)) (r : Bool) (h : m_spec_RowOk a0 = some r) : Ret Try.prog f_spec_RowOk [e_Limpl_Value a0] (e_bool r) := by
  refine Does.goG [] F_spec_RowOk rfl e_spec_RowOk n_spec_RowOk rfl (rvs := [.tmp 2]) rfl rfl ?_
  intro w0 ok0 lent ρ0
  refine LWP.seq_k fun N1 hN1 => ?_
  refine LWP.region (l := [_]) ?_
  refine LWo.assign (e_bool false) rfl (hn := ?_)
  refine LWo.nil (hN1 _ ?_)
  refine LWP.join (α := (List S_impl_Value)) (fun z : (List S_impl_Value) => [(0, (e_Limpl_Value z))]) (fun z : (List S_impl_Value) => []) (fun z : (List S_impl_Value) => m_spec_RowOk_j1  z) r (fun _ => by simp [hkeys]) ?_ ?_
  ·rintro t0 h
   replace h : m_spec_RowOk_j1  t0 = some _ := h
   refine LWP.seq_k fun N16 hN16 => ?_
   refine LWP.region (l := [_,_,_,_]) ?_
   refine LWo.move (e_Limpl_Value t0) rfl (hn := ?_)
   refine LWo.lenM (f := e_impl_Value) (l := t0) u_Limpl_Value rfl (hn := ?_)
   refine LWo.int _ rfl rfl rfl (hn := ?_)
   refine LWo.assign (e_bool (decide ((t0.length : Int) ≤ (4 : Int)))) rfl (hn := ?_)
   refine LWo.nil (hN16 _ ?_)
   obtain rfl := Option.some.inj h
   refine LWP.ret (QG.mk (.inr rfl) (.cons (.tmp (x := (e_bool (decide ((t0.length : Int) ≤ (4 : Int))))) rfl) (.nil)) (RetOK.one0 (.pure rfl) (by decide)) rfl rfl)
  ·intro N2 hN2
   refine LWP.seq_k fun N3 hN3 => ?_
   refine LWP.region (l := [_]) ?_
   refine LWo.assign (e_int (0 : Int)) rfl (hn := ?_)
   refine LWo.nil (hN3 _ ?_)
   refine LWP.block ?_
   refine LWP.loopM (α := (List S_impl_Value) × Int) (fun z : (List S_impl_Value) × Int => [(0, (e_Limpl_Value z.1)), (3, (e_int z.2))]) (fun z : (List S_impl_Value) × Int => []) (fun n1 (z : (List S_impl_Value) × Int) => m_spec_RowOk_l1  n1 z.1 z.2) r _ (a0, (0 : Int)) h (fun _ => rfl) (fun _ => by simp [hkeys]) ⟨rfl, rfl, trivial⟩ trivial ?_
   rintro n1 ⟨t0, t3⟩ h N4 hN4
   replace h : m_spec_RowOk_l1  (n1 + 1) t0 t3 = some _ := h
   refine LWP.seq_k fun N6 hN6 => ?_
   refine LWP.seq_k fun N7 hN7 => ?_
   refine LWP.region (l := [_,_,_,_]) ?_
   refine LWo.move (e_int t3) rfl (hn := ?_)
   refine LWo.move (e_Limpl_Value t0) rfl (hn := ?_)
   refine LWo.lenM (f := e_impl_Value) (l := t0) u_Limpl_Value rfl (hn := ?_)
   refine LWo.int _ rfl rfl rfl (hn := ?_)
   refine LWo.nil (hN7 _ ?_)
   refine LWP.cond_split rfl (fun h8 => ?_) (fun h8 => ?_)
   ·have h := bT h8 h
    refine LWP.skip (hN6 _ ?_)
    refine LWP.seq_k fun N9 hN9 => ?_
    refine LWP.block ?_
    refine LWP.seq_k fun N10 hN10 => ?_
    refine LWP.region (l := [_,_,_,_,_,_]) ?_
    refine LWo.move (e_Limpl_Value t0) rfl (hn := ?_)
    refine LWo.move (e_int t3) rfl (hn := ?_)
    refine bk h fun x11 e11 h => ?_
    refine LWo.indexM (f := e_impl_Value) e11 u_Limpl_Value s_impl_Value rfl rfl (hn := ?_)
    refine LWo.loadN ((e_impl_Value x11)).cells g_impl_Value s_impl_Value rfl (Nat.le_of_ble_eq_true rfl) rfl (hn := ?_)
    refine bk h fun x12 e12 h => ?_
    refine LWo.vcall rfl rfl (c_spec_ValueOk _ _ e12) (.same (.nil)) (hn := ?_)
    refine LWo.not rfl (hn := ?_)
    refine LWo.nil (hN10 _ ?_)
    refine LWP.cond_split rfl (fun h13 => ?_) (fun h13 => ?_)
    ·have h := bT h13 h
     refine LWP.seq_k fun N14 hN14 => ?_
     refine LWP.region (l := [_]) ?_
     refine LWo.assign (e_bool false) rfl (hn := ?_)
     refine LWo.nil (hN14 _ ?_)
     obtain rfl := Option.some.inj h
     refine LWP.ret (QG.mk (.inr rfl) (.cons (.tmp (x := (e_bool false)) rfl) (.nil)) (RetOK.one0 (.pure rfl) (by decide)) rfl rfl)
    ·have h := bF h13 h
     refine LWP.skip (hN9 _ ?_)
     refine LWP.region (l := [_,_,_]) ?_
     refine LWo.move (e_int t3) rfl (hn := ?_)
     refine bk h fun x15 e15 h => ?_
     refine LWo.int _ rfl rfl (add_ck e15) (hn := ?_)
     refine LWo.assign (e_int x15) rfl (hn := ?_)
     refine LWo.nil (hN4 (t0, x15) _ ⟨rfl, rfl, trivial⟩ trivial h)
   ·have h := bF h8 h
    refine LWP.exit (hN2 t0 _ ⟨rfl, trivial⟩ trivial h)

def m_spec_l32Row_j1 (t2 : Bool) : Option Bool :=
  some t2
def m_spec_l32Row (a0 : (List S_impl_Value)) : Option Bool :=
  (m_spec_RowOk a0).bind fun x3 =>
  bif x3 then (bif ((a0.length : Int) == (2 : Int)) then ((at? a0 (1 : Int)).bind fun x6 =>
      bif (x6.Kind == (1 : Int)) then (m_spec_l32Row_j1  true)
      else ((at? a0 (1 : Int)).bind fun x8 =>
        m_spec_l32Row_j1  (x8.Kind == (0 : Int))))
    else (m_spec_l32Row_j1  false))
  else (m_spec_l32Row_j1  false)
theorem c_spec_l32Row (a0 : (List S_impl_Value)) (r : Bool) (h : m_spec_l32Row a0 = some r) : Ret Try.prog f_spec_l32Row [e_Limpl_Value a0] (e_bool r) := by
  refine Does.goG [] F_spec_l32Row rfl e_spec_l32Row n_spec_l32Row rfl (rvs := [.tmp 2]) rfl rfl ?_
  intro w0 ok0 lent ρ0
  refine LWP.seq_k fun N1 hN1 => ?_
  refine LWP.region (l := [_]) ?_
  refine LWo.assign (e_bool false) rfl (hn := ?_)
  refine LWo.nil (hN1 _ ?_)
  refine LWP.join (α := Bool) (fun z : Bool => [(2, (e_bool z))]) (fun z : Bool => []) (fun z : Bool => m_spec_l32Row_j1  z) r (fun _ => by simp [hkeys]) ?_ ?_
  ·rintro t2 h
   replace h : m_spec_l32Row_j1  t2 = some _ := h
   obtain rfl := Option.some.inj h
   refine LWP.ret (QG.mk (.inr rfl) (.cons (.tmp (x := (e_bool t2)) rfl) (.nil)) (RetOK.one0 (.pure rfl) (by decide)) rfl rfl)
  ·intro N2 hN2
   refine LWP.region (l := [_,_,_,_,_,_,_,_,_,_,_,_,_,_,_,_,_,_,_,_,_,_]) ?_
   refine LWo.move (e_Limpl_Value a0) rfl (hn := ?_)
   refine bk h fun x3 e3 h => ?_
   refine LWo.vcall rfl rfl (c_spec_RowOk _ _ e3) (.same (.nil)) (hn := ?_)
   refine LWo.move (e_bool x3) rfl (hn := ?_)
   refine LWo.byCases (t := 5) _ rfl (fun h4 => ?_) (fun h4 => ?_)
   ·have h := bT h4 h
    refine LWo.guardY (t := 5) rfl h4 rfl rfl ?_
    refine LWo.move (e_Limpl_Value a0) rfl (hn := ?_)
    refine LWo.guardY (t := 5) rfl h4 rfl rfl ?_
    refine LWo.lenM (f := e_impl_Value) (l := a0) u_Limpl_Value rfl (hn := ?_)
    refine LWo.guardY (t := 5) rfl h4 rfl rfl ?_
    refine LWo.int _ rfl rfl rfl (hn := ?_)
    refine LWo.pickTM (e_bool ((a0.length : Int) == (2 : Int))) rfl h4 rfl (hn := ?_)
    refine LWo.move (e_bool ((a0.length : Int) == (2 : Int))) rfl (hn := ?_)
    refine LWo.byCases (t := 10) _ rfl (fun h5 => ?_) (fun h5 => ?_)
    ·have h := bT h5 h
     refine LWo.guardY (t := 10) rfl h5 rfl rfl ?_
     refine LWo.move (e_Limpl_Value a0) rfl (hn := ?_)
     refine bk h fun x6 e6 h => ?_
     refine LWo.guardY (t := 10) rfl h5 rfl rfl ?_
     refine LWo.indexM (f := e_impl_Value) e6 u_Limpl_Value s_impl_Value rfl rfl (hn := ?_)
     refine LWo.guardY (t := 10) rfl h5 rfl rfl ?_
     refine LWo.fieldAddr _ u_impl_Value rfl s_int rfl rfl (hn := ?_)
     refine LWo.guardY (t := 10) rfl h5 rfl rfl ?_
     refine LWo.load1 (c := (e_int x6.Kind)) g_int rfl (hn := ?_)
     refine LWo.guardY (t := 10) rfl h5 rfl rfl ?_
     refine LWo.int _ rfl rfl rfl (hn := ?_)
     refine LWo.guardY (t := 10) rfl h5 rfl rfl ?_
     refine LWo.move (e_bool (x6.Kind == (1 : Int))) rfl (hn := ?_)
     refine LWo.byCases (t := 16) _ rfl (fun h7 => ?_) (fun h7 => ?_)
     ·have h := bT h7 h
      refine LWo.guardNU (t := 16) rfl h7 rfl rfl rfl rfl rfl ?_
      refine LWo.guardNU (t := 16) rfl h7 rfl rfl rfl rfl rfl ?_
      refine LWo.guardNU (t := 16) rfl h7 rfl rfl rfl rfl rfl ?_
      refine LWo.guardNU (t := 16) rfl h7 rfl rfl rfl rfl rfl ?_
      refine LWo.guardNU (t := 16) rfl h7 rfl rfl rfl rfl rfl ?_
      refine LWo.guardY (t := 10) rfl h5 rfl rfl ?_
      refine LWo.pickTM (e_bool true) rfl h7 rfl (hn := ?_)
      refine LWo.pickTM (e_bool true) rfl h5 rfl (hn := ?_)
      refine LWo.assign (e_bool true) rfl (hn := ?_)
      refine LWo.nil (hN2 true _ ⟨rfl, trivial⟩ trivial h)
     ·have h := bF h7 h
      refine LWo.guardY (t := 16) rfl h7 rfl rfl ?_
      refine LWo.move (e_Limpl_Value a0) rfl (hn := ?_)
      refine bk h fun x8 e8 h => ?_
      refine LWo.guardY (t := 16) rfl h7 rfl rfl ?_
      refine LWo.indexM (f := e_impl_Value) e8 u_Limpl_Value s_impl_Value rfl rfl (hn := ?_)
      refine LWo.guardY (t := 16) rfl h7 rfl rfl ?_
      refine LWo.fieldAddr _ u_impl_Value rfl s_int rfl rfl (hn := ?_)
      refine LWo.guardY (t := 16) rfl h7 rfl rfl ?_
      refine LWo.load1 (c := (e_int x8.Kind)) g_int rfl (hn := ?_)
      refine LWo.guardY (t := 16) rfl h7 rfl rfl ?_
      refine LWo.int _ rfl rfl rfl (hn := ?_)
      refine LWo.guardY (t := 10) rfl h5 rfl rfl ?_
      refine LWo.pickFM (e_bool (x8.Kind == (0 : Int))) rfl h7 rfl (hn := ?_)
      refine LWo.pickTM (e_bool (x8.Kind == (0 : Int))) rfl h5 rfl (hn := ?_)
      refine LWo.assign (e_bool (x8.Kind == (0 : Int))) rfl (hn := ?_)
      refine LWo.nil (hN2 (x8.Kind == (0 : Int)) _ ⟨rfl, trivial⟩ trivial h)
    ·have h := bF h5 h
     refine LWo.guardNU (t := 10) rfl h5 rfl rfl rfl rfl rfl ?_
     refine LWo.guardNU (t := 10) rfl h5 rfl rfl rfl rfl rfl ?_
     refine LWo.guardNU (t := 10) rfl h5 rfl rfl rfl rfl rfl ?_
     refine LWo.guardNU (t := 10) rfl h5 rfl rfl rfl rfl rfl ?_
     refine LWo.guardNU (t := 10) rfl h5 rfl rfl rfl rfl rfl ?_
     refine LWo.guardNU (t := 10) rfl h5 rfl rfl rfl rfl rfl ?_
     refine LWo.guardU (t := 16) rfl rfl rfl rfl rfl ?_
     refine LWo.guardU (t := 16) rfl rfl rfl rfl rfl ?_
     refine LWo.guardU (t := 16) rfl rfl rfl rfl rfl ?_
     refine LWo.guardU (t := 16) rfl rfl rfl rfl rfl ?_
     refine LWo.guardU (t := 16) rfl rfl rfl rfl rfl ?_
     refine LWo.guardNU (t := 10) rfl h5 rfl rfl rfl rfl rfl ?_
     refine LWo.pickFM (e_bool false) rfl h5 rfl (hn := ?_)
     refine LWo.assign (e_bool false) rfl (hn := ?_)
     refine LWo.nil (hN2 false _ ⟨rfl, trivial⟩ trivial h)
   ·have h := bF h4 h
    refine LWo.guardNU (t := 5) rfl h4 rfl rfl rfl rfl rfl ?_
    refine LWo.guardNU (t := 5) rfl h4 rfl rfl rfl rfl rfl ?_
    refine LWo.guardNU (t := 5) rfl h4 rfl rfl rfl rfl rfl ?_
    refine LWo.pickFM (e_bool false) rfl h4 rfl (hn := ?_)
    refine LWo.move (e_bool false) rfl (hn := ?_)
    refine LWo.guardNU (t := 10) rfl rfl rfl rfl rfl rfl rfl ?_
    refine LWo.guardNU (t := 10) rfl rfl rfl rfl rfl rfl rfl ?_
    refine LWo.guardNU (t := 10) rfl rfl rfl rfl rfl rfl rfl ?_
    refine LWo.guardNU (t := 10) rfl rfl rfl rfl rfl rfl rfl ?_
    refine LWo.guardNU (t := 10) rfl rfl rfl rfl rfl rfl rfl ?_
    refine LWo.guardNU (t := 10) rfl rfl rfl rfl rfl rfl rfl ?_
    refine LWo.guardU (t := 16) rfl rfl rfl rfl rfl ?_
    refine LWo.guardU (t := 16) rfl rfl rfl rfl rfl ?_
    refine LWo.guardU (t := 16) rfl rfl rfl rfl rfl ?_
    refine LWo.guardU (t := 16) rfl rfl rfl rfl rfl ?_
    refine LWo.guardU (t := 16) rfl rfl rfl rfl rfl ?_
    refine LWo.guardNU (t := 10) rfl rfl rfl rfl rfl rfl rfl ?_
    refine LWo.pickFM (e_bool false) rfl rfl rfl (hn := ?_)
    refine LWo.assign (e_bool false) rfl (hn := ?_)
    refine LWo.nil (hN2 false _ ⟨rfl, trivial⟩ trivial h)

def m_spec_l1Less (a0 : Int) (a1 : Int) : Option Int :=
  bif decide (a0 < a1) then (some (1 : Int))
  else (some (0 : Int))
theorem c_spec_l1Less (a0 : Int) (a1 : Int) (r : Int) (h : m_spec_l1Less a0 a1 = some r) : Ret Try.prog f_spec_l1Less [e_int a0, e_int a1] (e_int r) := by
  refine Does.goG [] F_spec_l1Less rfl e_spec_l1Less n_spec_l1Less rfl (rvs := [.tmp 4]) rfl rfl ?_
  intro w0 ok0 lent ρ0
  refine LWP.seq_k fun N1 hN1 => ?_
  refine LWP.region (l := [_]) ?_
  refine LWo.assign (e_int (0 : Int)) rfl (hn := ?_)
  refine LWo.nil (hN1 _ ?_)
  refine LWP.seq_k fun N2 hN2 => ?_
  refine LWP.seq_k fun N3 hN3 => ?_
  refine LWP.region (l := [_,_,_]) ?_
  refine LWo.move (e_int a0) rfl (hn := ?_)
  refine LWo.move (e_int a1) rfl (hn := ?_)
  refine LWo.int _ rfl rfl rfl (hn := ?_)
  refine LWo.nil (hN3 _ ?_)
  refine LWP.cond_split rfl (fun h4 => ?_) (fun h4 => ?_)
  ·have h := bT h4 h
   refine LWP.seq_k fun N5 hN5 => ?_
   refine LWP.region (l := [_]) ?_
   refine LWo.assign (e_int (1 : Int)) rfl (hn := ?_)
   refine LWo.nil (hN5 _ ?_)
   obtain rfl := Option.some.inj h
   refine LWP.ret (QG.mk (.inr rfl) (.cons (.tmp (x := (e_int (1 : Int))) rfl) (.nil)) (RetOK.one0 (.pure rfl) (by decide)) rfl rfl)
  ·have h := bF h4 h
   refine LWP.skip (hN2 _ ?_)
   refine LWP.seq_k fun N6 hN6 => ?_
   refine LWP.region (l := [_]) ?_
   refine LWo.assign (e_int (0 : Int)) rfl (hn := ?_)
   refine LWo.nil (hN6 _ ?_)
   obtain rfl := Option.some.inj h
   refine LWP.ret (QG.mk (.inr rfl) (.cons (.tmp (x := (e_int (0 : Int))) rfl) (.nil)) (RetOK.one0 (.pure rfl) (by decide)) rfl rfl)

def m_spec_l1Cmp (a0 : ByteArray) (a1 : ByteArray) : Option Int :=
  bif (sLt a0 a1) then (some (-1 : Int))
  else (bif (!(sLt a0 a1 || sEq a0 a1)) then (some (1 : Int))
  else (some (0 : Int)))
theorem c_spec_l1Cmp (a0 : ByteArray) (a1 : ByteArray) (r : Int) (h : m_spec_l1Cmp a0 a1 = some r) : Ret Try.prog f_spec_l1Cmp [e_string a0, e_string a1] (e_int r) := by
  refine Does.goG [] F_spec_l1Cmp rfl e_spec_l1Cmp n_spec_l1Cmp rfl (rvs := [.tmp 4]) rfl rfl ?_
  intro w0 ok0 lent ρ0
  refine LWP.seq_k fun N1 hN1 => ?_
  refine LWP.region (l := [_]) ?_
  refine LWo.assign (e_int (0 : Int)) rfl (hn := ?_)
  refine LWo.nil (hN1 _ ?_)
  refine LWP.seq_k fun N2 hN2 => ?_
  refine LWP.seq_k fun N3 hN3 => ?_
  refine LWP.region (l := [_,_,_]) ?_
  refine LWo.move (e_string a0) rfl (hn := ?_)
  refine LWo.move (e_string a1) rfl (hn := ?_)
  refine LWo.str _ rfl rfl rfl (hn := ?_)
  refine LWo.nil (hN3 _ ?_)
  refine LWP.cond_split rfl (fun h4 => ?_) (fun h4 => ?_)
  ·have h := bT h4 h
   refine LWP.seq_k fun N5 hN5 => ?_
   refine LWP.region (l := [_]) ?_
   refine LWo.assign (e_int (-1 : Int)) rfl (hn := ?_)
   refine LWo.nil (hN5 _ ?_)
   obtain rfl := Option.some.inj h
   refine LWP.ret (QG.mk (.inr rfl) (.cons (.tmp (x := (e_int (-1 : Int))) rfl) (.nil)) (RetOK.one0 (.pure rfl) (by decide)) rfl rfl)
  ·have h := bF h4 h
   refine LWP.skip (hN2 _ ?_)
   refine LWP.seq_k fun N6 hN6 => ?_
   refine LWP.seq_k fun N7 hN7 => ?_
   refine LWP.region (l := [_,_,_]) ?_
   refine LWo.move (e_string a0) rfl (hn := ?_)
   refine LWo.move (e_string a1) rfl (hn := ?_)
   refine LWo.str _ rfl rfl rfl (hn := ?_)
   refine LWo.nil (hN7 _ ?_)
   refine LWP.cond_split rfl (fun h8 => ?_) (fun h8 => ?_)
   ·have h := bT h8 h
    refine LWP.seq_k fun N9 hN9 => ?_
    refine LWP.region (l := [_]) ?_
    refine LWo.assign (e_int (1 : Int)) rfl (hn := ?_)
    refine LWo.nil (hN9 _ ?_)
    obtain rfl := Option.some.inj h
    refine LWP.ret (QG.mk (.inr rfl) (.cons (.tmp (x := (e_int (1 : Int))) rfl) (.nil)) (RetOK.one0 (.pure rfl) (by decide)) rfl rfl)
   ·have h := bF h8 h
    refine LWP.skip (hN6 _ ?_)
    refine LWP.seq_k fun N10 hN10 => ?_
    refine LWP.region (l := [_]) ?_
    refine LWo.assign (e_int (0 : Int)) rfl (hn := ?_)
    refine LWo.nil (hN10 _ ?_)
    obtain rfl := Option.some.inj h
    refine LWP.ret (QG.mk (.inr rfl) (.cons (.tmp (x := (e_int (0 : Int))) rfl) (.nil)) (RetOK.one0 (.pure rfl) (by decide)) rfl rfl)

def m_spec_ValueOrder_j1 (t2 : S_impl_Value) (t3 : S_impl_Value) (t12 : Bool) : Option Int :=
  bif t12 then (some (0 : Int))
  else (bif (t2.Kind != t3.Kind) then ((m_spec_l1Less t3.Kind t2.Kind).bind fun x13 =>
  (ckI ((2 : Int) * x13)).bind fun x14 =>
  (ckI (x14 - (1 : Int))).bind fun x15 =>
  some x15)
  else (bif (t2.N != t3.N) then ((m_spec_l1Less t3.N t2.N).bind fun x19 =>
    (ckI ((2 : Int) * x19)).bind fun x20 =>
    (ckI (x20 - (1 : Int))).bind fun x21 =>
    some x21)
  else ((m_spec_l1Cmp t2.S t3.S).bind fun x23 =>
  some x23)))
def m_spec_ValueOrder (a0 : S_impl_Value) (a1 : S_impl_Value) : Option Int :=
  (m_spec_ValueOk a0).bind fun x4 =>
  bif (!x4) then (m_spec_ValueOrder_j1  a0 a1 true)
  else ((m_spec_ValueOk a1).bind fun x6 =>
    m_spec_ValueOrder_j1  a0 a1 (!x6))
theorem c_spec_ValueOrder (a0 : S_impl_Value) (a1 : S_impl_Value) (r : Int) (h : m_spec_ValueOrder a0 a1 = some r) : Ret Try.prog f_spec_ValueOrder [e_impl_Value a0, e_impl_Value a1] (e_int r) := by
  refine Does.goG [] F_spec_ValueOrder rfl e_spec_ValueOrder n_spec_ValueOrder rfl (rvs := [.tmp 4]) rfl rfl ?_
  intro w0 ok0 lent ρ0
  refine LWP.seq_k fun N1 hN1 => ?_
  refine LWP.region (l := [_,_,_]) ?_
  refine LWo.boxF (e_impl_Value a0) rfl rfl rfl (hn := ?_)
  refine LWo.boxF (e_impl_Value a1) rfl rfl rfl (hn := ?_)
  refine LWo.assign (e_int (0 : Int)) rfl (hn := ?_)
  refine LWo.nil (hN1 _ ?_)
  refine LWP.seq_k fun N2 hN2 => ?_
  refine LWP.join (α := S_impl_Value × S_impl_Value × Bool) (fun z : S_impl_Value × S_impl_Value × Bool => [(2, (.fp (e_impl_Value z.1).cells)), (3, (.fp (e_impl_Value z.2.1).cells)), (12, (e_bool z.2.2))]) (fun z : S_impl_Value × S_impl_Value × Bool => []) (fun z : S_impl_Value × S_impl_Value × Bool => m_spec_ValueOrder_j1  z.1 z.2.1 z.2.2) r (fun _ => by simp [hkeys]) ?_ ?_
  ·rintro ⟨t2, t3, t12⟩ h
   replace h : m_spec_ValueOrder_j1  t2 t3 t12 = some _ := h
   refine LWP.cond_split rfl (fun h7 => ?_) (fun h7 => ?_)
   ·have h := bT h7 h
    refine LWP.seq_k fun N8 hN8 => ?_
    refine LWP.region (l := [_]) ?_
    refine LWo.assign (e_int (0 : Int)) rfl (hn := ?_)
    refine LWo.nil (hN8 _ ?_)
    obtain rfl := Option.some.inj h
    refine LWP.ret (QG.mk (.inr rfl) (.cons (.tmp (x := (e_int (0 : Int))) rfl) (.nil)) (RetOK.one0 (.pure rfl) (by decide)) rfl rfl)
   ·have h := bF h7 h
    refine LWP.skip (hN2 _ ?_)
    refine LWP.seq_k fun N9 hN9 => ?_
    refine LWP.block ?_
    refine LWP.seq_k fun N10 hN10 => ?_
    refine LWP.region (l := [_,_,_,_,_,_]) ?_
    refine LWo.fieldAddr _ u_impl_Value rfl s_int rfl rfl (hn := ?_)
    refine LWo.load1 (c := (e_int t2.Kind)) g_int rfl (hn := ?_)
    refine LWo.fieldAddr _ u_impl_Value rfl s_int rfl rfl (hn := ?_)
    refine LWo.load1 (c := (e_int t3.Kind)) g_int rfl (hn := ?_)
    refine LWo.int _ rfl rfl rfl (hn := ?_)
    refine LWo.assign (e_bool (t2.Kind != t3.Kind)) rfl (hn := ?_)
    refine LWo.nil (hN10 _ ?_)
    refine LWP.cond_split rfl (fun h11 => ?_) (fun h11 => ?_)
    ·have h := bT h11 h
     refine LWP.seq_k fun N12 hN12 => ?_
     refine LWP.region (l := [_,_,_,_,_,_,_,_]) ?_
     refine LWo.fieldAddr _ u_impl_Value rfl s_int rfl rfl (hn := ?_)
     refine LWo.load1 (c := (e_int t3.Kind)) g_int rfl (hn := ?_)
     refine LWo.fieldAddr _ u_impl_Value rfl s_int rfl rfl (hn := ?_)
     refine LWo.load1 (c := (e_int t2.Kind)) g_int rfl (hn := ?_)
     refine bk h fun x13 e13 h => ?_
     refine LWo.vcall rfl rfl (c_spec_l1Less _ _ _ e13) (.same (.same (.nil))) (hn := ?_)
     refine bk h fun x14 e14 h => ?_
     refine LWo.int _ rfl rfl (mul_ck e14) (hn := ?_)
     refine bk h fun x15 e15 h => ?_
     refine LWo.int _ rfl rfl (sub_ck e15) (hn := ?_)
     refine LWo.assign (e_int x15) rfl (hn := ?_)
     refine LWo.nil (hN12 _ ?_)
     obtain rfl := Option.some.inj h
     refine LWP.ret (QG.mk (.inr rfl) (.cons (.tmp (x := (e_int x15)) rfl) (.nil)) (RetOK.one0 (.pure rfl) (by decide)) rfl rfl)
    ·have h := bF h11 h
     refine LWP.seq_k fun N16 hN16 => ?_
     refine LWP.region (l := [_,_,_,_,_,_]) ?_
     refine LWo.fieldAddr _ u_impl_Value rfl s_int rfl rfl (hn := ?_)
     refine LWo.load1 (c := (e_int t2.N)) g_int rfl (hn := ?_)
     refine LWo.fieldAddr _ u_impl_Value rfl s_int rfl rfl (hn := ?_)
     refine LWo.load1 (c := (e_int t3.N)) g_int rfl (hn := ?_)
     refine LWo.int _ rfl rfl rfl (hn := ?_)
     refine LWo.assign (e_bool (t2.N != t3.N)) rfl (hn := ?_)
     refine LWo.nil (hN16 _ ?_)
     refine LWP.cond_split rfl (fun h17 => ?_) (fun h17 => ?_)
     ·have h := bT h17 h
      refine LWP.seq_k fun N18 hN18 => ?_
      refine LWP.region (l := [_,_,_,_,_,_,_,_]) ?_
      refine LWo.fieldAddr _ u_impl_Value rfl s_int rfl rfl (hn := ?_)
      refine LWo.load1 (c := (e_int t3.N)) g_int rfl (hn := ?_)
      refine LWo.fieldAddr _ u_impl_Value rfl s_int rfl rfl (hn := ?_)
      refine LWo.load1 (c := (e_int t2.N)) g_int rfl (hn := ?_)
      refine bk h fun x19 e19 h => ?_
      refine LWo.vcall rfl rfl (c_spec_l1Less _ _ _ e19) (.same (.same (.nil))) (hn := ?_)
      refine bk h fun x20 e20 h => ?_
      refine LWo.int _ rfl rfl (mul_ck e20) (hn := ?_)
      refine bk h fun x21 e21 h => ?_
      refine LWo.int _ rfl rfl (sub_ck e21) (hn := ?_)
      refine LWo.assign (e_int x21) rfl (hn := ?_)
      refine LWo.nil (hN18 _ ?_)
      obtain rfl := Option.some.inj h
      refine LWP.ret (QG.mk (.inr rfl) (.cons (.tmp (x := (e_int x21)) rfl) (.nil)) (RetOK.one0 (.pure rfl) (by decide)) rfl rfl)
     ·have h := bF h17 h
      refine LWP.skip (hN9 _ ?_)
      refine LWP.seq_k fun N22 hN22 => ?_
      refine LWP.region (l := [_,_,_,_,_,_]) ?_
      refine LWo.fieldAddr _ u_impl_Value rfl s_string rfl rfl (hn := ?_)
      refine LWo.load1 (c := (e_string t2.S)) g_string rfl (hn := ?_)
      refine LWo.fieldAddr _ u_impl_Value rfl s_string rfl rfl (hn := ?_)
      refine LWo.load1 (c := (e_string t3.S)) g_string rfl (hn := ?_)
      refine bk h fun x23 e23 h => ?_
      refine LWo.vcall rfl rfl (c_spec_l1Cmp _ _ _ e23) (.same (.same (.nil))) (hn := ?_)
      refine LWo.assign (e_int x23) rfl (hn := ?_)
      refine LWo.nil (hN22 _ ?_)
      obtain rfl := Option.some.inj h
      refine LWP.ret (QG.mk (.inr rfl) (.cons (.tmp (x := (e_int x23)) rfl) (.nil)) (RetOK.one0 (.pure rfl) (by decide)) rfl rfl)
  ·intro N3 hN3
   refine LWP.region (l := [_,_,_,_,_,_,_,_]) ?_
   refine LWo.loadN ((e_impl_Value a0)).cells g_impl_Value s_impl_Value rfl (Nat.le_of_ble_eq_true rfl) rfl (hn := ?_)
   refine bk h fun x4 e4 h => ?_
   refine LWo.vcall rfl rfl (c_spec_ValueOk _ _ e4) (.same (.nil)) (hn := ?_)
   refine LWo.not rfl (hn := ?_)
   refine LWo.move (e_bool (!x4)) rfl (hn := ?_)
   refine LWo.byCases (t := 8) _ rfl (fun h5 => ?_) (fun h5 => ?_)
   ·have h := bT h5 h
    refine LWo.guardNU (t := 8) rfl h5 rfl rfl rfl rfl rfl ?_
    refine LWo.guardNU (t := 8) rfl h5 rfl rfl rfl rfl rfl ?_
    refine LWo.guardNU (t := 8) rfl h5 rfl rfl rfl rfl rfl ?_
    refine LWo.pickTM (e_bool true) rfl h5 rfl (hn := ?_)
    refine LWo.nil (hN3 (a0, a1, true) _ ⟨rfl, rfl, rfl, trivial⟩ trivial h)
   ·have h := bF h5 h
    refine LWo.guardY (t := 8) rfl h5 rfl rfl ?_
    refine LWo.loadN ((e_impl_Value a1)).cells g_impl_Value s_impl_Value rfl (Nat.le_of_ble_eq_true rfl) rfl (hn := ?_)
    refine bk h fun x6 e6 h => ?_
    refine LWo.guardY (t := 8) rfl h5 rfl rfl ?_
    refine LWo.vcall rfl rfl (c_spec_ValueOk _ _ e6) (.same (.nil)) (hn := ?_)
    refine LWo.guardY (t := 8) rfl h5 rfl rfl ?_
    refine LWo.not rfl (hn := ?_)
    refine LWo.pickFM (e_bool (!x6)) rfl h5 rfl (hn := ?_)
    refine LWo.nil (hN3 (a0, a1, (!x6)) _ ⟨rfl, rfl, rfl, trivial⟩ trivial h)

def m_spec_RowOrder_j3 (t0 : (List S_impl_Value)) (t1 : (List S_impl_Value)) : Option Int :=
  (m_spec_l1Less (t1.length : Int) (t0.length : Int)).bind fun x27 =>
  (m_spec_l1Less (t0.length : Int) (t1.length : Int)).bind fun x28 =>
  (ckI (x27 - x28)).bind fun x29 =>
  some x29
def m_spec_RowOrder_j2 (k1 : (List S_impl_Value) → (List S_impl_Value) → Int → Option Int) (t0 : (List S_impl_Value)) (t1 : (List S_impl_Value)) (t5 : Int) (t24 : Bool) : Option Int :=
  bif t24 then ((at? t0 t5).bind fun x19 =>
  (at? t1 t5).bind fun x20 =>
  (m_spec_ValueOrder x19 x20).bind fun x21 =>
  bif (x21 != (0 : Int)) then (some x21)
  else ((ckI (t5 + (1 : Int))).bind fun x25 =>
  k1 t0 t1 x25))
  else (m_spec_RowOrder_j3  t0 t1)
def m_spec_RowOrder_l1 : Nat → (List S_impl_Value) → (List S_impl_Value) → Int → Option Int
  | 0, _, _, _ => none
  | n1 + 1, t0, t1, t5 =>
    bif decide (t5 < (t0.length : Int)) then (m_spec_RowOrder_j2  (m_spec_RowOrder_l1  n1) t0 t1 t5 (decide (t5 < (t1.length : Int))))
    else (m_spec_RowOrder_j2  (m_spec_RowOrder_l1  n1) t0 t1 t5 false)
def m_spec_RowOrder_j1 (t0 : (List S_impl_Value)) (t1 : (List S_impl_Value)) (t14 : Bool) : Option Int :=
  bif t14 then (some (0 : Int))
  else (m_spec_RowOrder_l1  (1000000000) t0 t1 (0 : Int))
def m_spec_RowOrder (a0 : (List S_impl_Value)) (a1 : (List S_impl_Value)) : Option Int :=
  (m_spec_RowOk a0).bind fun x4 =>
  bif (!x4) then (m_spec_RowOrder_j1  a0 a1 true)
  else ((m_spec_RowOk a1).bind fun x6 =>
    m_spec_RowOrder_j1  a0 a1 (!x6))
theorem c_spec_RowOrder (a0 : (List S_impl_Value)) (a1 : (List S_impl_Value)) (r : Int) (h : m_spec_RowOrder a0 a1 = some r) : Ret Try.prog f_spec_RowOrder [e_Limpl_Value a0, e_Limpl_Value a1] (e_int r) := by
  refine Does.goG [] F_spec_RowOrder rfl e_spec_RowOrder n_spec_RowOrder rfl (rvs := [.tmp 4]) rfl rfl ?_
  intro w0 ok0 lent ρ0
  refine LWP.seq_k fun N1 hN1 => ?_
  refine LWP.region (l := [_]) ?_
  refine LWo.assign (e_int (0 : Int)) rfl (hn := ?_)
  refine LWo.nil (hN1 _ ?_)
  refine LWP.seq_k fun N2 hN2 => ?_
  refine LWP.join (α := (List S_impl_Value) × (List S_impl_Value) × Bool) (fun z : (List S_impl_Value) × (List S_impl_Value) × Bool => [(0, (e_Limpl_Value z.1)), (1, (e_Limpl_Value z.2.1)), (14, (e_bool z.2.2))]) (fun z : (List S_impl_Value) × (List S_impl_Value) × Bool => []) (fun z : (List S_impl_Value) × (List S_impl_Value) × Bool => m_spec_RowOrder_j1  z.1 z.2.1 z.2.2) r (fun _ => by simp [hkeys]) ?_ ?_
  ·rintro ⟨t0, t1, t14⟩ h
   replace h : m_spec_RowOrder_j1  t0 t1 t14 = some _ := h
   refine LWP.cond_split rfl (fun h7 => ?_) (fun h7 => ?_)
   ·have h := bT h7 h
    refine LWP.seq_k fun N8 hN8 => ?_
    refine LWP.region (l := [_]) ?_
    refine LWo.assign (e_int (0 : Int)) rfl (hn := ?_)
    refine LWo.nil (hN8 _ ?_)
    obtain rfl := Option.some.inj h
    refine LWP.ret (QG.mk (.inr rfl) (.cons (.tmp (x := (e_int (0 : Int))) rfl) (.nil)) (RetOK.one0 (.pure rfl) (by decide)) rfl rfl)
   ·have h := bF h7 h
    refine LWP.skip (hN2 _ ?_)
    refine LWP.join (α := (List S_impl_Value) × (List S_impl_Value)) (fun z : (List S_impl_Value) × (List S_impl_Value) => [(0, (e_Limpl_Value z.1)), (1, (e_Limpl_Value z.2))]) (fun z : (List S_impl_Value) × (List S_impl_Value) => []) (fun z : (List S_impl_Value) × (List S_impl_Value) => m_spec_RowOrder_j3  z.1 z.2) r (fun _ => by simp [hkeys]) ?_ ?_
    ·rintro ⟨t0, t1⟩ h
     replace h : m_spec_RowOrder_j3  t0 t1 = some _ := h
     refine LWP.seq_k fun N26 hN26 => ?_
     refine LWP.region (l := [_,_,_,_,_,_,_,_,_,_,_,_]) ?_
     refine LWo.move (e_Limpl_Value t1) rfl (hn := ?_)
     refine LWo.lenM (f := e_impl_Value) (l := t1) u_Limpl_Value rfl (hn := ?_)
     refine LWo.move (e_Limpl_Value t0) rfl (hn := ?_)
     refine LWo.lenM (f := e_impl_Value) (l := t0) u_Limpl_Value rfl (hn := ?_)
     refine bk h fun x27 e27 h => ?_
     refine LWo.vcall rfl rfl (c_spec_l1Less _ _ _ e27) (.same (.same (.nil))) (hn := ?_)
     refine LWo.move (e_Limpl_Value t0) rfl (hn := ?_)
     refine LWo.lenM (f := e_impl_Value) (l := t0) u_Limpl_Value rfl (hn := ?_)
     refine LWo.move (e_Limpl_Value t1) rfl (hn := ?_)
     refine LWo.lenM (f := e_impl_Value) (l := t1) u_Limpl_Value rfl (hn := ?_)
     refine bk h fun x28 e28 h => ?_
     refine LWo.vcall rfl rfl (c_spec_l1Less _ _ _ e28) (.same (.same (.nil))) (hn := ?_)
     refine bk h fun x29 e29 h => ?_
     refine LWo.int _ rfl rfl (sub_ck e29) (hn := ?_)
     refine LWo.assign (e_int x29) rfl (hn := ?_)
     refine LWo.nil (hN26 _ ?_)
     obtain rfl := Option.some.inj h
     refine LWP.ret (QG.mk (.inr rfl) (.cons (.tmp (x := (e_int x29)) rfl) (.nil)) (RetOK.one0 (.pure rfl) (by decide)) rfl rfl)
    ·intro N9 hN9
     refine LWP.seq_k fun N10 hN10 => ?_
     refine LWP.region (l := [_]) ?_
     refine LWo.assign (e_int (0 : Int)) rfl (hn := ?_)
     refine LWo.nil (hN10 _ ?_)
     refine LWP.block ?_
     refine LWP.loopM (α := (List S_impl_Value) × (List S_impl_Value) × Int) (fun z : (List S_impl_Value) × (List S_impl_Value) × Int => [(0, (e_Limpl_Value z.1)), (1, (e_Limpl_Value z.2.1)), (5, (e_int z.2.2))]) (fun z : (List S_impl_Value) × (List S_impl_Value) × Int => []) (fun n1 (z : (List S_impl_Value) × (List S_impl_Value) × Int) => m_spec_RowOrder_l1  n1 z.1 z.2.1 z.2.2) r _ (t0, t1, (0 : Int)) h (fun _ => rfl) (fun _ => by simp [hkeys]) ⟨rfl, rfl, rfl, trivial⟩ trivial ?_
     rintro n1 ⟨t0, t1, t5⟩ h N11 hN11
     replace h : m_spec_RowOrder_l1  (n1 + 1) t0 t1 t5 = some _ := h
     refine LWP.seq_k fun N13 hN13 => ?_
     refine LWP.join (α := (List S_impl_Value) × (List S_impl_Value) × Int × Bool) (fun z : (List S_impl_Value) × (List S_impl_Value) × Int × Bool => [(0, (e_Limpl_Value z.1)), (1, (e_Limpl_Value z.2.1)), (5, (e_int z.2.2.1)), (24, (e_bool z.2.2.2))]) (fun z : (List S_impl_Value) × (List S_impl_Value) × Int × Bool => []) (fun z : (List S_impl_Value) × (List S_impl_Value) × Int × Bool => m_spec_RowOrder_j2  (m_spec_RowOrder_l1  n1) z.1 z.2.1 z.2.2.1 z.2.2.2) r (fun _ => by simp [hkeys]) ?_ ?_
     ·rintro ⟨t0, t1, t5, t24⟩ h
      replace h : m_spec_RowOrder_j2  (m_spec_RowOrder_l1  n1) t0 t1 t5 t24 = some _ := h
      refine LWP.cond_split rfl (fun h16 => ?_) (fun h16 => ?_)
      ·have h := bT h16 h
       refine LWP.skip (hN13 _ ?_)
       refine LWP.seq_k fun N17 hN17 => ?_
       refine LWP.block ?_
       refine LWP.seq_k fun N18 hN18 => ?_
       refine bk h fun x19 e19 h => ?_
       refine bk h fun x20 e20 h => ?_
       refine bk h fun x21 e21 h => ?_
       refine LWP.drawF (l := [_,_,_,_,_,_,_,_,_,_]) [] [0, 1, 5] [([0], []), ([5], []), ([27, 28], []), ([29], []), ([1], []), ([5], []), ([31, 32], []), ([33], []), ([30, 34], []), ([35], [])] [0, 1, 5, 6] [] mixed (by kernel_rfl) rfl (by decide) ?_
       refine dq 27 rfl (fun _ g u h => LWo.move (e_Limpl_Value t0) u.1 (hn := .nil (zn g))) ?_
       refine dq 28 rfl (fun _ g u h => LWo.move (e_int t5) u.1 (hn := .nil (zn g))) ?_
       refine dq 29 rfl (fun _ g u h => LWo.indexM (f := e_impl_Value) e19 u_Limpl_Value s_impl_Value u.1 u.2.1 (hn := .nil (zn g))) ?_
       refine dq 30 rfl (fun _ g u h => LWo.loadN ((e_impl_Value x19)).cells g_impl_Value s_impl_Value u.1 (Nat.le_of_ble_eq_true rfl) rfl (hn := .nil (zn g))) ?_
       refine dq 31 rfl (fun _ g u h => LWo.move (e_Limpl_Value t1) u.1 (hn := .nil (zn g))) ?_
       refine dq 32 rfl (fun _ g u h => LWo.move (e_int t5) u.1 (hn := .nil (zn g))) ?_
       refine dq 33 rfl (fun _ g u h => LWo.indexM (f := e_impl_Value) e20 u_Limpl_Value s_impl_Value u.1 u.2.1 (hn := .nil (zn g))) ?_
       refine dq 34 rfl (fun _ g u h => LWo.loadN ((e_impl_Value x20)).cells g_impl_Value s_impl_Value u.1 (Nat.le_of_ble_eq_true rfl) rfl (hn := .nil (zn g))) ?_
       refine dq 35 rfl (fun _ g u h => LWo.vcall rfl (av2 u.1 u.2.1) (c_spec_ValueOrder _ _ _ e21) (.same (.same (.nil))) (hn := .nil (zn g))) ?_
       refine dq 6 rfl (fun _ g u h => LWo.assign (e_int x21) u.1 (hn := .nil (zn g))) ?_
       refine ⟨rfl, by kernel_rfl, hN18 _ ?_⟩
       refine LWP.seq_k fun N22 hN22 => ?_
       refine LWP.region (l := [_,_]) ?_
       refine LWo.move (e_int x21) rfl (hn := ?_)
       refine LWo.int _ rfl rfl rfl (hn := ?_)
       refine LWo.nil (hN22 _ ?_)
       refine LWP.cond_split rfl (fun h23 => ?_) (fun h23 => ?_)
       ·have h := bT h23 h
        refine LWP.seq_k fun N24 hN24 => ?_
        refine LWP.region (l := [_,_]) ?_
        refine LWo.move (e_int x21) rfl (hn := ?_)
        refine LWo.assign (e_int x21) rfl (hn := ?_)
        refine LWo.nil (hN24 _ ?_)
        obtain rfl := Option.some.inj h
        refine LWP.ret (QG.mk (.inr rfl) (.cons (.tmp (x := (e_int x21)) rfl) (.nil)) (RetOK.one0 (.pure rfl) (by decide)) rfl rfl)
       ·have h := bF h23 h
        refine LWP.skip (hN17 _ ?_)
        refine LWP.region (l := [_,_,_]) ?_
        refine LWo.move (e_int t5) rfl (hn := ?_)
        refine bk h fun x25 e25 h => ?_
        refine LWo.int _ rfl rfl (add_ck e25) (hn := ?_)
        refine LWo.assign (e_int x25) rfl (hn := ?_)
        refine LWo.nil (hN11 (t0, t1, x25) _ ⟨rfl, rfl, rfl, trivial⟩ trivial h)
      ·have h := bF h16 h
       refine LWP.exit (hN9 (t0, t1) _ ⟨rfl, rfl, trivial⟩ trivial h)
     ·intro N14 hN14
      refine LWP.region (l := [_,_,_,_,_,_,_,_,_,_]) ?_
      refine LWo.move (e_int t5) rfl (hn := ?_)
      refine LWo.move (e_Limpl_Value t0) rfl (hn := ?_)
      refine LWo.lenM (f := e_impl_Value) (l := t0) u_Limpl_Value rfl (hn := ?_)
      refine LWo.int _ rfl rfl rfl (hn := ?_)
      refine LWo.move (e_bool (decide (t5 < (t0.length : Int)))) rfl (hn := ?_)
      refine LWo.byCases (t := 19) _ rfl (fun h15 => ?_) (fun h15 => ?_)
      ·have h := bT h15 h
       refine LWo.guardY (t := 19) rfl h15 rfl rfl ?_
       refine LWo.move (e_int t5) rfl (hn := ?_)
       refine LWo.guardY (t := 19) rfl h15 rfl rfl ?_
       refine LWo.move (e_Limpl_Value t1) rfl (hn := ?_)
       refine LWo.guardY (t := 19) rfl h15 rfl rfl ?_
       refine LWo.lenM (f := e_impl_Value) (l := t1) u_Limpl_Value rfl (hn := ?_)
       refine LWo.guardY (t := 19) rfl h15 rfl rfl ?_
       refine LWo.int _ rfl rfl rfl (hn := ?_)
       refine LWo.pickTM (e_bool (decide (t5 < (t1.length : Int)))) rfl h15 rfl (hn := ?_)
       refine LWo.nil (hN14 (t0, t1, t5, decide (t5 < (t1.length : Int))) _ ⟨rfl, rfl, rfl, rfl, trivial⟩ trivial h)
      ·have h := bF h15 h
       refine LWo.guardNU (t := 19) rfl h15 rfl rfl rfl rfl rfl ?_
       refine LWo.guardNU (t := 19) rfl h15 rfl rfl rfl rfl rfl ?_
       refine LWo.guardNU (t := 19) rfl h15 rfl rfl rfl rfl rfl ?_
       refine LWo.guardNU (t := 19) rfl h15 rfl rfl rfl rfl rfl ?_
       refine LWo.pickFM (e_bool false) rfl h15 rfl (hn := ?_)
       refine LWo.nil (hN14 (t0, t1, t5, false) _ ⟨rfl, rfl, rfl, rfl, trivial⟩ trivial h)
  ·intro N3 hN3
   refine LWP.region (l := [_,_,_,_,_,_,_,_]) ?_
   refine LWo.move (e_Limpl_Value a0) rfl (hn := ?_)
   refine bk h fun x4 e4 h => ?_
   refine LWo.vcall rfl rfl (c_spec_RowOk _ _ e4) (.same (.nil)) (hn := ?_)
   refine LWo.not rfl (hn := ?_)
   refine LWo.move (e_bool (!x4)) rfl (hn := ?_)
   refine LWo.byCases (t := 10) _ rfl (fun h5 => ?_) (fun h5 => ?_)
   ·have h := bT h5 h
    refine LWo.guardNU (t := 10) rfl h5 rfl rfl rfl rfl rfl ?_
    refine LWo.guardNU (t := 10) rfl h5 rfl rfl rfl rfl rfl ?_
    refine LWo.guardNU (t := 10) rfl h5 rfl rfl rfl rfl rfl ?_
    refine LWo.pickTM (e_bool true) rfl h5 rfl (hn := ?_)
    refine LWo.nil (hN3 (a0, a1, true) _ ⟨rfl, rfl, rfl, trivial⟩ trivial h)
   ·have h := bF h5 h
    refine LWo.guardY (t := 10) rfl h5 rfl rfl ?_
    refine LWo.move (e_Limpl_Value a1) rfl (hn := ?_)
    refine bk h fun x6 e6 h => ?_
    refine LWo.guardY (t := 10) rfl h5 rfl rfl ?_
    refine LWo.vcall rfl rfl (c_spec_RowOk _ _ e6) (.same (.nil)) (hn := ?_)
    refine LWo.guardY (t := 10) rfl h5 rfl rfl ?_
    refine LWo.not rfl (hn := ?_)
    refine LWo.pickFM (e_bool (!x6)) rfl h5 rfl (hn := ?_)
    refine LWo.nil (hN3 (a0, a1, (!x6)) _ ⟨rfl, rfl, rfl, trivial⟩ trivial h)

def m_spec_l32Turn_j8 (o1029 : (List S_impl_Tally)) : Option (List S_impl_Tally) :=
  some o1029
def m_spec_l32Turn_j7 (t11 : Bool) (o9 : S_impl_Tally) (o1029 : (List S_impl_Tally)) : Option (List S_impl_Tally) :=
  bif (!t11) then ((app? o1029 ([o9] : (List S_impl_Tally))).bind fun x53 =>
    m_spec_l32Turn_j8  x53)
  else (m_spec_l32Turn_j8  o1029)
def m_spec_l32Turn_j6 (k1 : (List S_impl_Tally) → Bool → Int → S_impl_Tally → (List S_impl_Tally) → Option (List S_impl_Tally)) (t0 : (List S_impl_Tally)) (t11 : Bool) (t12 : Int) (o9 : S_impl_Tally) (o1029 : (List S_impl_Tally)) : Option (List S_impl_Tally) :=
  (ckI (t12 + (1 : Int))).bind fun x49 =>
  k1 t0 t11 x49 o9 o1029
def m_spec_l32Turn_j5 (k1 : (List S_impl_Tally) → Bool → Int → S_impl_Tally → (List S_impl_Tally) → Option (List S_impl_Tally)) (t0 : (List S_impl_Tally)) (t11 : Bool) (t12 : Int) (t87 : Bool) (o9 : S_impl_Tally) (o13 : S_impl_Tally) (o1029 : (List S_impl_Tally)) : Option (List S_impl_Tally) :=
  bif t87 then ((app? o1029 ([o13] : (List S_impl_Tally))).bind fun x48 =>
    m_spec_l32Turn_j6  k1 t0 t11 t12 o9 x48)
  else (m_spec_l32Turn_j6  k1 t0 t11 t12 o9 o1029)
def m_spec_l32Turn_j4 (k1 : (List S_impl_Tally) → Bool → Int → S_impl_Tally → (List S_impl_Tally) → Option (List S_impl_Tally)) (t0 : (List S_impl_Tally)) (t11 : Bool) (t12 : Int) (o9 : S_impl_Tally) (o13 : S_impl_Tally) (o1029 : (List S_impl_Tally)) : Option (List S_impl_Tally) :=
  bif (o13.Rows != (0 : Int)) then (m_spec_l32Turn_j5  k1 t0 t11 t12 true o9 o13 o1029)
  else (bif (o13.Many != (0 : Int)) then (m_spec_l32Turn_j5  k1 t0 t11 t12 true o9 o13 o1029)
    else (m_spec_l32Turn_j5  k1 t0 t11 t12 (o13.Sum != (0 : Int)) o9 o13 o1029))
def m_spec_l32Turn_j3 (k1 : (List S_impl_Tally) → Bool → Int → S_impl_Tally → (List S_impl_Tally) → Option (List S_impl_Tally)) (t0 : (List S_impl_Tally)) (t11 : Bool) (t12 : Int) (t14 : Int) (o9 : S_impl_Tally) (o13 : S_impl_Tally) (o1029 : (List S_impl_Tally)) : Option (List S_impl_Tally) :=
  bif (t14 == (0 : Int)) then ((ckI (o13.Rows + o9.Rows)).bind fun x36 =>
    lt ({ o13 with Rows := x36 }) fun y37 =>
    (ckI (y37.Many + o9.Many)).bind fun x39 =>
    lt ({ y37 with Many := x39 }) fun y40 =>
    (ckI (y40.Sum + o9.Sum)).bind fun x42 =>
    lt ({ y40 with Sum := x42 }) fun y43 =>
    m_spec_l32Turn_j4  k1 t0 true t12 o9 y43 o1029)
  else (m_spec_l32Turn_j4  k1 t0 t11 t12 o9 o13 o1029)
def m_spec_l32Turn_j2 (k1 : (List S_impl_Tally) → Bool → Int → S_impl_Tally → (List S_impl_Tally) → Option (List S_impl_Tally)) (t0 : (List S_impl_Tally)) (t11 : Bool) (t12 : Int) (t14 : Int) (t50 : Bool) (o9 : S_impl_Tally) (o13 : S_impl_Tally) (o1029 : (List S_impl_Tally)) : Option (List S_impl_Tally) :=
  bif t50 then ((app? o1029 ([o9] : (List S_impl_Tally))).bind fun x31 =>
    m_spec_l32Turn_j3  k1 t0 true t12 t14 o9 o13 x31)
  else (m_spec_l32Turn_j3  k1 t0 t11 t12 t14 o9 o13 o1029)
def m_spec_l32Turn_l1 : Nat → (List S_impl_Tally) → Bool → Int → S_impl_Tally → (List S_impl_Tally) → Option (List S_impl_Tally)
  | 0, _, _, _, _, _ => none
  | n1 + 1, t0, t11, t12, o9, o1029 =>
    bif decide (t12 < (t0.length : Int)) then ((at? t0 t12).bind fun x22 =>
    lt (x22) fun y23 =>
    (m_spec_RowOrder y23.Key o9.Key).bind fun x25 =>
    bif decide (x25 > (0 : Int)) then (m_spec_l32Turn_j2  (m_spec_l32Turn_l1  n1) t0 t11 t12 x25 (!t11) o9 y23 o1029)
    else (m_spec_l32Turn_j2  (m_spec_l32Turn_l1  n1) t0 t11 t12 x25 false o9 y23 o1029))
    else (m_spec_l32Turn_j7  t11 o9 o1029)
def m_spec_l32Turn_j1 (t0 : (List S_impl_Tally)) (o9 : S_impl_Tally) : Option (List S_impl_Tally) :=
  m_spec_l32Turn_l1  (((t0.length : Int) - (0 : Int)).toNat + 1) t0 false (0 : Int) o9 ([] : (List S_impl_Tally))
def m_spec_l32Turn (a0 : (List S_impl_Tally)) (a1 : S_impl_Value) (a2 : S_impl_Value) (a3 : Int) : Option (List S_impl_Tally) :=
  lt ((⟨([a1] : (List S_impl_Value)), a3, (0 : Int), (0 : Int)⟩ : S_impl_Tally)) fun y3 =>
  bif (a2.Kind == (1 : Int)) then (lt ({ y3 with Many := a3 }) fun y8 =>
    (ckI (a3 * a2.N)).bind fun x9 =>
    lt ({ y8 with Sum := x9 }) fun y10 =>
    m_spec_l32Turn_j1  a0 y10)
  else (m_spec_l32Turn_j1  a0 y3)
theorem c_spec_l32Turn (a0 : (List S_impl_Tally)) (a1 : S_impl_Value) (a2 : S_impl_Value) (a3 : Int) (r : (List S_impl_Tally)) (h : m_spec_l32Turn a0 a1 a2 a3 = some r) : Ret Try.prog f_spec_l32Turn [e_Limpl_Tally a0, e_impl_Value a1, e_impl_Value a2, e_int a3] (.nw 4 (r.map e_impl_Tally) false) := by
  refine Does.goG [] F_spec_l32Turn rfl e_spec_l32Turn n_spec_l32Turn rfl (rvs := [.tmp 8]) rfl rfl ?_
  intro w0 ok0 lent ρ0
  refine LWP.seq_k fun N1 hN1 => ?_
  refine LWP.region (l := [_,_,_]) ?_
  refine LWo.boxF (e_impl_Value a1) rfl rfl rfl (hn := ?_)
  refine LWo.boxF (e_impl_Value a2) rfl rfl rfl (hn := ?_)
  refine LWo.assign _ rfl (hn := ?_)
  refine LWo.ownNil 8 1008 4 rfl rfl rfl ?_
  refine LWo.known 8 (.own 1008 0 ([] : (List S_impl_Tally)).length) rfl ?_
  refine LWo.nil (hN1 _ ?_)
  refine LWP.seq_k fun N2 hN2 => ?_
  refine LWP.region (l := [_,_,_,_,_,_]) ?_
  refine LWo.loadN ((e_impl_Value a1)).cells g_impl_Value s_impl_Value rfl (Nat.le_of_ble_eq_true rfl) rfl (hn := ?_)
  refine LWo.lit (ops := [_]) [(e_impl_Value a1)] u_Limpl_Value s_impl_Value z_impl_Value rfl rfl rfl rfl rfl rfl (hn := ?_)
  refine LWo.move (e_int a3) rfl (hn := ?_)
  refine LWo.build_impl_Tally (parts := [_, _]) (⟨([a1] : (List S_impl_Value)), a3, (0 : Int), (0 : Int)⟩ : S_impl_Tally) rfl rfl rfl .refl (hn := ?_)
  refine LWo.alloc_impl_Tally 9 rfl (hn := ?_)
  refine lk h fun y3 e3 h => ?_
  refine LWo.storeW (y := (⟨[], (0 : Int), (0 : Int), (0 : Int)⟩ : S_impl_Tally)) y3 s_impl_Tally rfl rfl rfl rfl rfl rfl (by rw [e3]; exact .refl) rfl (hn := ?_)
  refine LWo.nil (hN2 _ ?_)
  refine LWP.join (α := (List S_impl_Tally) × S_impl_Tally) (fun z : (List S_impl_Tally) × S_impl_Tally => [(0, (e_Limpl_Tally z.1)), (9, (.ptr 9 0 0))]) (fun z : (List S_impl_Tally) × S_impl_Tally => [(9, (vob 4 e_impl_Tally z.2))]) (fun z : (List S_impl_Tally) × S_impl_Tally => m_spec_l32Turn_j1  z.1 z.2) r (fun _ => by simp [hkeys]) ?_ ?_
  ·rintro ⟨t0, o9⟩ h
   replace h : m_spec_l32Turn_j1  t0 o9 = some _ := h
   refine LWP.seq_k fun N11 hN11 => ?_
   refine LWP.region (l := [_,_]) ?_
   refine LWo.lit0 1029 u_Limpl_Tally s_impl_Tally z_impl_Tally (hn := ?_)
   refine LWo.known 29 (.own 1029 0 ([] : (List S_impl_Tally)).length) rfl ?_
   refine LWo.assign (.own 1029 0 (([] : (List S_impl_Tally))).length) rfl (hn := ?_)
   refine LWo.nil (hN11 _ ?_)
   refine LWP.seq_k fun N12 hN12 => ?_
   refine LWP.region (l := [_]) ?_
   refine LWo.assign (e_bool false) rfl (hn := ?_)
   refine LWo.nil (hN12 _ ?_)
   refine LWP.join (α := Bool × S_impl_Tally × (List S_impl_Tally)) (fun z : Bool × S_impl_Tally × (List S_impl_Tally) => [(9, (.ptr 9 0 0)), (10, (.own 1029 0 (z.2.2).length)), (11, (e_bool z.1))]) (fun z : Bool × S_impl_Tally × (List S_impl_Tally) => [(9, (vob 4 e_impl_Tally z.2.1)), (1029, (lob 4 e_impl_Tally z.2.2))]) (fun z : Bool × S_impl_Tally × (List S_impl_Tally) => m_spec_l32Turn_j7  z.1 z.2.1 z.2.2) r (fun _ => by simp [hkeys]) ?_ ?_
   ·rintro ⟨t11, o9, o1029⟩ h
    replace h : m_spec_l32Turn_j7  t11 o9 o1029 = some _ := h
    refine LWP.join (α := (List S_impl_Tally)) (fun z : (List S_impl_Tally) => [(10, (.own 1029 0 (z).length))]) (fun z : (List S_impl_Tally) => [(1029, (lob 4 e_impl_Tally z))]) (fun z : (List S_impl_Tally) => m_spec_l32Turn_j8  z) r (fun _ => by simp [hkeys]) ?_ ?_
    ·rintro o1029 h
     replace h : m_spec_l32Turn_j8  o1029 = some _ := h
     refine LWP.seq_k fun N54 hN54 => ?_
     refine LWP.region (l := [_,_]) ?_
     refine LWo.move (.own 1029 0 (o1029).length) rfl (hn := ?_)
     refine LWo.assign (.own 1029 0 (o1029).length) rfl (hn := ?_)
     refine LWo.nil (hN54 _ ?_)
     obtain rfl := Option.some.inj h
     refine LWP.ret (QG.mk (.inr rfl) (.cons (.tmp (x := (.own 1029 0 (o1029).length)) rfl) (.nil)) (RetOK.one0 (.nwM rfl rfl) (by decide)) rfl rfl)
    ·intro N50 hN50
     refine LWP.seq_k fun N51 hN51 => ?_
     refine LWP.region (l := [_,_]) ?_
     refine LWo.move (e_bool t11) rfl (hn := ?_)
     refine LWo.not rfl (hn := ?_)
     refine LWo.nil (hN51 _ ?_)
     refine LWP.cond_split rfl (fun h52 => ?_) (fun h52 => ?_)
     ·have h := bT h52 h
      refine LWP.region (l := [_,_,_,_,_]) ?_
      refine LWo.move (.own 1029 0 (o1029).length) rfl (hn := ?_)
      refine LWo.loadVN ((e_impl_Tally o9)).cells  g_impl_Tally s_impl_Tally rfl rfl rfl rfl (hn := ?_)
      refine LWo.lit (ops := [_]) [(e_impl_Tally o9)] u_Limpl_Tally s_impl_Tally z_impl_Tally rfl rfl rfl rfl rfl rfl (hn := ?_)
      refine bk h fun x53 e53 h => ?_
      refine LWo.appendM (f := e_impl_Tally) e53 rfl u_Limpl_Tally u_Limpl_Tally (fun _ h => by cases h) s_impl_Tally i_impl_Tally rfl rfl rfl (.sl rfl) rfl rfl (hn := ?_)
      refine LWo.assign (.own 1029 0 (x53).length) rfl (hn := ?_)
      refine LWo.nil (hN50 x53 _ ⟨rfl, trivial⟩ ⟨rfl, trivial⟩ h)
     ·have h := bF h52 h
      refine LWP.skip (hN50 o1029 _ ⟨rfl, trivial⟩ ⟨rfl, trivial⟩ h)
   ·intro N13 hN13
    refine LWP.seq_k fun N14 hN14 => ?_
    refine LWP.region (l := [_]) ?_
    refine LWo.assign (e_int (0 : Int)) rfl (hn := ?_)
    refine LWo.nil (hN14 _ ?_)
    refine LWP.block ?_
    refine LWP.loopM (α := (List S_impl_Tally) × Bool × Int × S_impl_Tally × (List S_impl_Tally)) (fun z : (List S_impl_Tally) × Bool × Int × S_impl_Tally × (List S_impl_Tally) => [(0, (e_Limpl_Tally z.1)), (9, (.ptr 9 0 0)), (10, (.own 1029 0 (z.2.2.2.2).length)), (11, (e_bool z.2.1)), (12, (e_int z.2.2.1))]) (fun z : (List S_impl_Tally) × Bool × Int × S_impl_Tally × (List S_impl_Tally) => [(9, (vob 4 e_impl_Tally z.2.2.2.1)), (1029, (lob 4 e_impl_Tally z.2.2.2.2))]) (fun n1 (z : (List S_impl_Tally) × Bool × Int × S_impl_Tally × (List S_impl_Tally)) => m_spec_l32Turn_l1  n1 z.1 z.2.1 z.2.2.1 z.2.2.2.1 z.2.2.2.2) r _ (t0, false, (0 : Int), o9, ([] : (List S_impl_Tally))) h (fun _ => rfl) (fun _ => by simp [hkeys]) ⟨rfl, rfl, rfl, rfl, rfl, trivial⟩ ⟨rfl, rfl, trivial⟩ ?_
    rintro n1 ⟨t0, t11, t12, o9, o1029⟩ h N15 hN15
    replace h : m_spec_l32Turn_l1  (n1 + 1) t0 t11 t12 o9 o1029 = some _ := h
    refine LWP.seq_k fun N17 hN17 => ?_
    refine LWP.seq_k fun N18 hN18 => ?_
    refine LWP.region (l := [_,_,_,_]) ?_
    refine LWo.move (e_int t12) rfl (hn := ?_)
    refine LWo.move (e_Limpl_Tally t0) rfl (hn := ?_)
    refine LWo.lenM (f := e_impl_Tally) (l := t0) u_Limpl_Tally rfl (hn := ?_)
    refine LWo.int _ rfl rfl rfl (hn := ?_)
    refine LWo.nil (hN18 _ ?_)
    refine LWP.cond_split rfl (fun h19 => ?_) (fun h19 => ?_)
    ·have h := bT h19 h
     refine LWP.skip (hN17 _ ?_)
     refine LWP.join (α := (List S_impl_Tally) × Bool × Int × S_impl_Tally × (List S_impl_Tally)) (fun z : (List S_impl_Tally) × Bool × Int × S_impl_Tally × (List S_impl_Tally) => [(0, (e_Limpl_Tally z.1)), (9, (.ptr 9 0 0)), (10, (.own 1029 0 (z.2.2.2.2).length)), (11, (e_bool z.2.1)), (12, (e_int z.2.2.1))]) (fun z : (List S_impl_Tally) × Bool × Int × S_impl_Tally × (List S_impl_Tally) => [(9, (vob 4 e_impl_Tally z.2.2.2.1)), (1029, (lob 4 e_impl_Tally z.2.2.2.2))]) (fun z : (List S_impl_Tally) × Bool × Int × S_impl_Tally × (List S_impl_Tally) => m_spec_l32Turn_j6  (m_spec_l32Turn_l1  n1) z.1 z.2.1 z.2.2.1 z.2.2.2.1 z.2.2.2.2) r (fun _ => by simp [hkeys]) ?_ ?_
     ·rintro ⟨t0, t11, t12, o9, o1029⟩ h
      replace h : m_spec_l32Turn_j6  (m_spec_l32Turn_l1  n1) t0 t11 t12 o9 o1029 = some _ := h
      refine LWP.region (l := [_,_,_]) ?_
      refine LWo.move (e_int t12) rfl (hn := ?_)
      refine bk h fun x49 e49 h => ?_
      refine LWo.int _ rfl rfl (add_ck e49) (hn := ?_)
      refine LWo.assign (e_int x49) rfl (hn := ?_)
      refine LWo.nil (hN15 (t0, t11, x49, o9, o1029) _ ⟨rfl, rfl, rfl, rfl, rfl, trivial⟩ ⟨rfl, rfl, trivial⟩ h)
     ·intro N20 hN20
      refine LWP.block ?_
      refine LWP.seq_k fun N21 hN21 => ?_
      refine LWP.region (l := [_,_,_,_,_,_]) ?_
      refine LWo.move (e_Limpl_Tally t0) rfl (hn := ?_)
      refine LWo.move (e_int t12) rfl (hn := ?_)
      refine bk h fun x22 e22 h => ?_
      refine LWo.indexM (f := e_impl_Tally) e22 u_Limpl_Tally s_impl_Tally rfl rfl (hn := ?_)
      refine LWo.loadN ((e_impl_Tally x22)).cells g_impl_Tally s_impl_Tally rfl (Nat.le_of_ble_eq_true rfl) rfl (hn := ?_)
      refine LWo.alloc_impl_Tally 13 rfl (hn := ?_)
      refine lk h fun y23 e23 h => ?_
      refine LWo.storeW (y := (⟨[], (0 : Int), (0 : Int), (0 : Int)⟩ : S_impl_Tally)) y23 s_impl_Tally rfl rfl rfl rfl rfl rfl (by rw [e23]; exact .refl) rfl (hn := ?_)
      refine LWo.nil (hN21 _ ?_)
      refine LWP.seq_k fun N24 hN24 => ?_
      refine LWP.region (l := [_,_,_,_,_,_]) ?_
      refine LWo.fieldPtr u_impl_Tally rfl s_Limpl_Value rfl rfl (hn := ?_)
      refine LWo.loadV1 (e_Limpl_Value y23.Key)  g_Limpl_Value rfl rfl rfl (hn := ?_)
      refine LWo.fieldPtr u_impl_Tally rfl s_Limpl_Value rfl rfl (hn := ?_)
      refine LWo.loadV1 (e_Limpl_Value o9.Key)  g_Limpl_Value rfl rfl rfl (hn := ?_)
      refine bk h fun x25 e25 h => ?_
      refine LWo.vcall rfl rfl (c_spec_RowOrder _ _ _ e25) (.same (.same (.nil))) (hn := ?_)
      refine LWo.assign (e_int x25) rfl (hn := ?_)
      refine LWo.nil (hN24 _ ?_)
      refine LWP.join (α := (List S_impl_Tally) × Bool × Int × Int × S_impl_Tally × S_impl_Tally × (List S_impl_Tally)) (fun z : (List S_impl_Tally) × Bool × Int × Int × S_impl_Tally × S_impl_Tally × (List S_impl_Tally) => [(0, (e_Limpl_Tally z.1)), (9, (.ptr 9 0 0)), (10, (.own 1029 0 (z.2.2.2.2.2.2).length)), (11, (e_bool z.2.1)), (12, (e_int z.2.2.1)), (13, (.ptr 13 0 0)), (14, (e_int z.2.2.2.1))]) (fun z : (List S_impl_Tally) × Bool × Int × Int × S_impl_Tally × S_impl_Tally × (List S_impl_Tally) => [(9, (vob 4 e_impl_Tally z.2.2.2.2.1)), (13, (vob 4 e_impl_Tally z.2.2.2.2.2.1)), (1029, (lob 4 e_impl_Tally z.2.2.2.2.2.2))]) (fun z : (List S_impl_Tally) × Bool × Int × Int × S_impl_Tally × S_impl_Tally × (List S_impl_Tally) => m_spec_l32Turn_j3  (m_spec_l32Turn_l1  n1) z.1 z.2.1 z.2.2.1 z.2.2.2.1 z.2.2.2.2.1 z.2.2.2.2.2.1 z.2.2.2.2.2.2) r (fun _ => by simp [hkeys]) ?_ ?_
      ·rintro ⟨t0, t11, t12, t14, o9, o13, o1029⟩ h
       replace h : m_spec_l32Turn_j3  (m_spec_l32Turn_l1  n1) t0 t11 t12 t14 o9 o13 o1029 = some _ := h
       refine LWP.join (α := (List S_impl_Tally) × Bool × Int × S_impl_Tally × S_impl_Tally × (List S_impl_Tally)) (fun z : (List S_impl_Tally) × Bool × Int × S_impl_Tally × S_impl_Tally × (List S_impl_Tally) => [(0, (e_Limpl_Tally z.1)), (9, (.ptr 9 0 0)), (10, (.own 1029 0 (z.2.2.2.2.2).length)), (11, (e_bool z.2.1)), (12, (e_int z.2.2.1)), (13, (.ptr 13 0 0))]) (fun z : (List S_impl_Tally) × Bool × Int × S_impl_Tally × S_impl_Tally × (List S_impl_Tally) => [(9, (vob 4 e_impl_Tally z.2.2.2.1)), (13, (vob 4 e_impl_Tally z.2.2.2.2.1)), (1029, (lob 4 e_impl_Tally z.2.2.2.2.2))]) (fun z : (List S_impl_Tally) × Bool × Int × S_impl_Tally × S_impl_Tally × (List S_impl_Tally) => m_spec_l32Turn_j4  (m_spec_l32Turn_l1  n1) z.1 z.2.1 z.2.2.1 z.2.2.2.1 z.2.2.2.2.1 z.2.2.2.2.2) r (fun _ => by simp [hkeys]) ?_ ?_
       ·rintro ⟨t0, t11, t12, o9, o13, o1029⟩ h
        replace h : m_spec_l32Turn_j4  (m_spec_l32Turn_l1  n1) t0 t11 t12 o9 o13 o1029 = some _ := h
        refine LWP.join (α := (List S_impl_Tally) × Bool × Int × Bool × S_impl_Tally × S_impl_Tally × (List S_impl_Tally)) (fun z : (List S_impl_Tally) × Bool × Int × Bool × S_impl_Tally × S_impl_Tally × (List S_impl_Tally) => [(0, (e_Limpl_Tally z.1)), (9, (.ptr 9 0 0)), (10, (.own 1029 0 (z.2.2.2.2.2.2).length)), (11, (e_bool z.2.1)), (12, (e_int z.2.2.1)), (13, (.ptr 13 0 0)), (87, (e_bool z.2.2.2.1))]) (fun z : (List S_impl_Tally) × Bool × Int × Bool × S_impl_Tally × S_impl_Tally × (List S_impl_Tally) => [(9, (vob 4 e_impl_Tally z.2.2.2.2.1)), (13, (vob 4 e_impl_Tally z.2.2.2.2.2.1)), (1029, (lob 4 e_impl_Tally z.2.2.2.2.2.2))]) (fun z : (List S_impl_Tally) × Bool × Int × Bool × S_impl_Tally × S_impl_Tally × (List S_impl_Tally) => m_spec_l32Turn_j5  (m_spec_l32Turn_l1  n1) z.1 z.2.1 z.2.2.1 z.2.2.2.1 z.2.2.2.2.1 z.2.2.2.2.2.1 z.2.2.2.2.2.2) r (fun _ => by simp [hkeys]) ?_ ?_
        ·rintro ⟨t0, t11, t12, t87, o9, o13, o1029⟩ h
         replace h : m_spec_l32Turn_j5  (m_spec_l32Turn_l1  n1) t0 t11 t12 t87 o9 o13 o1029 = some _ := h
         refine LWP.cond_split rfl (fun h47 => ?_) (fun h47 => ?_)
         ·have h := bT h47 h
          refine LWP.region (l := [_,_,_,_,_]) ?_
          refine LWo.move (.own 1029 0 (o1029).length) rfl (hn := ?_)
          refine LWo.loadVN ((e_impl_Tally o13)).cells  g_impl_Tally s_impl_Tally rfl rfl rfl rfl (hn := ?_)
          refine LWo.lit (ops := [_]) [(e_impl_Tally o13)] u_Limpl_Tally s_impl_Tally z_impl_Tally rfl rfl rfl rfl rfl rfl (hn := ?_)
          refine bk h fun x48 e48 h => ?_
          refine LWo.appendM (f := e_impl_Tally) e48 rfl u_Limpl_Tally u_Limpl_Tally (fun _ h => by cases h) s_impl_Tally i_impl_Tally rfl rfl rfl (.sl rfl) rfl rfl (hn := ?_)
          refine LWo.assign (.own 1029 0 (x48).length) rfl (hn := ?_)
          refine LWo.nil (hN20 (t0, t11, t12, o9, x48) _ ⟨rfl, rfl, rfl, rfl, rfl, trivial⟩ ⟨rfl, rfl, trivial⟩ h)
         ·have h := bF h47 h
          refine LWP.skip (hN20 (t0, t11, t12, o9, o1029) _ ⟨rfl, rfl, rfl, rfl, rfl, trivial⟩ ⟨rfl, rfl, trivial⟩ h)
        ·intro N44 hN44
         refine LWP.region (l := [_,_,_,_,_,_,_,_,_,_,_,_,_]) ?_
         refine LWo.fieldPtr u_impl_Tally rfl s_int rfl rfl (hn := ?_)
         refine LWo.loadV1 (e_int o13.Rows)  g_int rfl rfl rfl (hn := ?_)
         refine LWo.int _ rfl rfl rfl (hn := ?_)
         refine LWo.move (e_bool (o13.Rows != (0 : Int))) rfl (hn := ?_)
         refine LWo.byCases (t := 78) _ rfl (fun h45 => ?_) (fun h45 => ?_)
         ·have h := bT h45 h
          refine LWo.guardNU (t := 78) rfl h45 rfl rfl rfl rfl rfl ?_
          refine LWo.guardNU (t := 78) rfl h45 rfl rfl rfl rfl rfl ?_
          refine LWo.guardNU (t := 78) rfl h45 rfl rfl rfl rfl rfl ?_
          refine LWo.pickTM (e_bool true) rfl h45 rfl (hn := ?_)
          refine LWo.move (e_bool true) rfl (hn := ?_)
          refine LWo.guardNU (t := 83) rfl rfl rfl rfl rfl rfl rfl ?_
          refine LWo.guardNU (t := 83) rfl rfl rfl rfl rfl rfl rfl ?_
          refine LWo.guardNU (t := 83) rfl rfl rfl rfl rfl rfl rfl ?_
          refine LWo.pickTM (e_bool true) rfl rfl rfl (hn := ?_)
          refine LWo.nil (hN44 (t0, t11, t12, true, o9, o13, o1029) _ ⟨rfl, rfl, rfl, rfl, rfl, rfl, rfl, trivial⟩ ⟨rfl, rfl, rfl, trivial⟩ h)
         ·have h := bF h45 h
          refine LWo.guardY (t := 78) rfl h45 rfl rfl ?_
          refine LWo.fieldPtr u_impl_Tally rfl s_int rfl rfl (hn := ?_)
          refine LWo.guardY (t := 78) rfl h45 rfl rfl ?_
          refine LWo.loadV1 (e_int o13.Many)  g_int rfl rfl rfl (hn := ?_)
          refine LWo.guardY (t := 78) rfl h45 rfl rfl ?_
          refine LWo.int _ rfl rfl rfl (hn := ?_)
          refine LWo.pickFM (e_bool (o13.Many != (0 : Int))) rfl h45 rfl (hn := ?_)
          refine LWo.move (e_bool (o13.Many != (0 : Int))) rfl (hn := ?_)
          refine LWo.byCases (t := 83) _ rfl (fun h46 => ?_) (fun h46 => ?_)
          ·have h := bT h46 h
           refine LWo.guardNU (t := 83) rfl h46 rfl rfl rfl rfl rfl ?_
           refine LWo.guardNU (t := 83) rfl h46 rfl rfl rfl rfl rfl ?_
           refine LWo.guardNU (t := 83) rfl h46 rfl rfl rfl rfl rfl ?_
           refine LWo.pickTM (e_bool true) rfl h46 rfl (hn := ?_)
           refine LWo.nil (hN44 (t0, t11, t12, true, o9, o13, o1029) _ ⟨rfl, rfl, rfl, rfl, rfl, rfl, rfl, trivial⟩ ⟨rfl, rfl, rfl, trivial⟩ h)
          ·have h := bF h46 h
           refine LWo.guardY (t := 83) rfl h46 rfl rfl ?_
           refine LWo.fieldPtr u_impl_Tally rfl s_int rfl rfl (hn := ?_)
           refine LWo.guardY (t := 83) rfl h46 rfl rfl ?_
           refine LWo.loadV1 (e_int o13.Sum)  g_int rfl rfl rfl (hn := ?_)
           refine LWo.guardY (t := 83) rfl h46 rfl rfl ?_
           refine LWo.int _ rfl rfl rfl (hn := ?_)
           refine LWo.pickFM (e_bool (o13.Sum != (0 : Int))) rfl h46 rfl (hn := ?_)
           refine LWo.nil (hN44 (t0, t11, t12, (o13.Sum != (0 : Int)), o9, o13, o1029) _ ⟨rfl, rfl, rfl, rfl, rfl, rfl, rfl, trivial⟩ ⟨rfl, rfl, rfl, trivial⟩ h)
       ·intro N32 hN32
        refine LWP.seq_k fun N33 hN33 => ?_
        refine LWP.region (l := [_,_]) ?_
        refine LWo.move (e_int t14) rfl (hn := ?_)
        refine LWo.int _ rfl rfl rfl (hn := ?_)
        refine LWo.nil (hN33 _ ?_)
        refine LWP.cond_split rfl (fun h34 => ?_) (fun h34 => ?_)
        ·have h := bT h34 h
         refine LWP.seq_k fun N35 hN35 => ?_
         refine LWP.region (l := [_,_,_,_,_,_,_]) ?_
         refine LWo.fieldPtr u_impl_Tally rfl s_int rfl rfl (hn := ?_)
         refine LWo.loadV1 (e_int o13.Rows)  g_int rfl rfl rfl (hn := ?_)
         refine LWo.fieldPtr u_impl_Tally rfl s_int rfl rfl (hn := ?_)
         refine LWo.loadV1 (e_int o9.Rows)  g_int rfl rfl rfl (hn := ?_)
         refine bk h fun x36 e36 h => ?_
         refine LWo.int _ rfl rfl (add_ck e36) (hn := ?_)
         refine LWo.fieldPtr u_impl_Tally rfl s_int rfl rfl (hn := ?_)
         refine lk h fun y37 e37 h => ?_
         refine LWo.storeW (y := o13) y37 s_int rfl rfl rfl rfl rfl rfl (by rw [e37]; exact .refl) rfl (hn := ?_)
         refine LWo.nil (hN35 _ ?_)
         refine LWP.seq_k fun N38 hN38 => ?_
         refine LWP.region (l := [_,_,_,_,_,_,_]) ?_
         refine LWo.fieldPtr u_impl_Tally rfl s_int rfl rfl (hn := ?_)
         refine LWo.loadV1 (e_int y37.Many)  g_int rfl rfl rfl (hn := ?_)
         refine LWo.fieldPtr u_impl_Tally rfl s_int rfl rfl (hn := ?_)
         refine LWo.loadV1 (e_int o9.Many)  g_int rfl rfl rfl (hn := ?_)
         refine bk h fun x39 e39 h => ?_
         refine LWo.int _ rfl rfl (add_ck e39) (hn := ?_)
         refine LWo.fieldPtr u_impl_Tally rfl s_int rfl rfl (hn := ?_)
         refine lk h fun y40 e40 h => ?_
         refine LWo.storeW (y := y37) y40 s_int rfl rfl rfl rfl rfl rfl (by rw [e40]; exact .refl) rfl (hn := ?_)
         refine LWo.nil (hN38 _ ?_)
         refine LWP.seq_k fun N41 hN41 => ?_
         refine LWP.region (l := [_,_,_,_,_,_,_]) ?_
         refine LWo.fieldPtr u_impl_Tally rfl s_int rfl rfl (hn := ?_)
         refine LWo.loadV1 (e_int y40.Sum)  g_int rfl rfl rfl (hn := ?_)
         refine LWo.fieldPtr u_impl_Tally rfl s_int rfl rfl (hn := ?_)
         refine LWo.loadV1 (e_int o9.Sum)  g_int rfl rfl rfl (hn := ?_)
         refine bk h fun x42 e42 h => ?_
         refine LWo.int _ rfl rfl (add_ck e42) (hn := ?_)
         refine LWo.fieldPtr u_impl_Tally rfl s_int rfl rfl (hn := ?_)
         refine lk h fun y43 e43 h => ?_
         refine LWo.storeW (y := y40) y43 s_int rfl rfl rfl rfl rfl rfl (by rw [e43]; exact .refl) rfl (hn := ?_)
         refine LWo.nil (hN41 _ ?_)
         refine LWP.region (l := [_]) ?_
         refine LWo.assign (e_bool true) rfl (hn := ?_)
         refine LWo.nil (hN32 (t0, true, t12, o9, y43, o1029) _ ⟨rfl, rfl, rfl, rfl, rfl, rfl, trivial⟩ ⟨rfl, rfl, rfl, trivial⟩ h)
        ·have h := bF h34 h
         refine LWP.skip (hN32 (t0, t11, t12, o9, o13, o1029) _ ⟨rfl, rfl, rfl, rfl, rfl, rfl, trivial⟩ ⟨rfl, rfl, rfl, trivial⟩ h)
      ·intro N26 hN26
       refine LWP.join (α := (List S_impl_Tally) × Bool × Int × Int × Bool × S_impl_Tally × S_impl_Tally × (List S_impl_Tally)) (fun z : (List S_impl_Tally) × Bool × Int × Int × Bool × S_impl_Tally × S_impl_Tally × (List S_impl_Tally) => [(0, (e_Limpl_Tally z.1)), (9, (.ptr 9 0 0)), (10, (.own 1029 0 (z.2.2.2.2.2.2.2).length)), (11, (e_bool z.2.1)), (12, (e_int z.2.2.1)), (13, (.ptr 13 0 0)), (14, (e_int z.2.2.2.1)), (50, (e_bool z.2.2.2.2.1))]) (fun z : (List S_impl_Tally) × Bool × Int × Int × Bool × S_impl_Tally × S_impl_Tally × (List S_impl_Tally) => [(9, (vob 4 e_impl_Tally z.2.2.2.2.2.1)), (13, (vob 4 e_impl_Tally z.2.2.2.2.2.2.1)), (1029, (lob 4 e_impl_Tally z.2.2.2.2.2.2.2))]) (fun z : (List S_impl_Tally) × Bool × Int × Int × Bool × S_impl_Tally × S_impl_Tally × (List S_impl_Tally) => m_spec_l32Turn_j2  (m_spec_l32Turn_l1  n1) z.1 z.2.1 z.2.2.1 z.2.2.2.1 z.2.2.2.2.1 z.2.2.2.2.2.1 z.2.2.2.2.2.2.1 z.2.2.2.2.2.2.2) r (fun _ => by simp [hkeys]) ?_ ?_
       ·rintro ⟨t0, t11, t12, t14, t50, o9, o13, o1029⟩ h
        replace h : m_spec_l32Turn_j2  (m_spec_l32Turn_l1  n1) t0 t11 t12 t14 t50 o9 o13 o1029 = some _ := h
        refine LWP.cond_split rfl (fun h29 => ?_) (fun h29 => ?_)
        ·have h := bT h29 h
         refine LWP.seq_k fun N30 hN30 => ?_
         refine LWP.region (l := [_,_,_,_,_]) ?_
         refine LWo.move (.own 1029 0 (o1029).length) rfl (hn := ?_)
         refine LWo.loadVN ((e_impl_Tally o9)).cells  g_impl_Tally s_impl_Tally rfl rfl rfl rfl (hn := ?_)
         refine LWo.lit (ops := [_]) [(e_impl_Tally o9)] u_Limpl_Tally s_impl_Tally z_impl_Tally rfl rfl rfl rfl rfl rfl (hn := ?_)
         refine bk h fun x31 e31 h => ?_
         refine LWo.appendM (f := e_impl_Tally) e31 rfl u_Limpl_Tally u_Limpl_Tally (fun _ h => by cases h) s_impl_Tally i_impl_Tally rfl rfl rfl (.sl rfl) rfl rfl (hn := ?_)
         refine LWo.assign (.own 1029 0 (x31).length) rfl (hn := ?_)
         refine LWo.nil (hN30 _ ?_)
         refine LWP.region (l := [_]) ?_
         refine LWo.assign (e_bool true) rfl (hn := ?_)
         refine LWo.nil (hN26 (t0, true, t12, t14, o9, o13, x31) _ ⟨rfl, rfl, rfl, rfl, rfl, rfl, rfl, trivial⟩ ⟨rfl, rfl, rfl, trivial⟩ h)
        ·have h := bF h29 h
         refine LWP.skip (hN26 (t0, t11, t12, t14, o9, o13, o1029) _ ⟨rfl, rfl, rfl, rfl, rfl, rfl, rfl, trivial⟩ ⟨rfl, rfl, rfl, trivial⟩ h)
       ·intro N27 hN27
        refine LWP.region (l := [_,_,_,_,_,_]) ?_
        refine LWo.move (e_int x25) rfl (hn := ?_)
        refine LWo.int _ rfl rfl rfl (hn := ?_)
        refine LWo.move (e_bool (decide (x25 > (0 : Int)))) rfl (hn := ?_)
        refine LWo.byCases (t := 47) _ rfl (fun h28 => ?_) (fun h28 => ?_)
        ·have h := bT h28 h
         refine LWo.guardY (t := 47) rfl h28 rfl rfl ?_
         refine LWo.move (e_bool t11) rfl (hn := ?_)
         refine LWo.guardY (t := 47) rfl h28 rfl rfl ?_
         refine LWo.not rfl (hn := ?_)
         refine LWo.pickTM (e_bool (!t11)) rfl h28 rfl (hn := ?_)
         refine LWo.nil (hN27 (t0, t11, t12, x25, (!t11), o9, y23, o1029) _ ⟨rfl, rfl, rfl, rfl, rfl, rfl, rfl, rfl, trivial⟩ ⟨rfl, rfl, rfl, trivial⟩ h)
        ·have h := bF h28 h
         refine LWo.guardNU (t := 47) rfl h28 rfl rfl rfl rfl rfl ?_
         refine LWo.guardNU (t := 47) rfl h28 rfl rfl rfl rfl rfl ?_
         refine LWo.pickFM (e_bool false) rfl h28 rfl (hn := ?_)
         refine LWo.nil (hN27 (t0, t11, t12, x25, false, o9, y23, o1029) _ ⟨rfl, rfl, rfl, rfl, rfl, rfl, rfl, rfl, trivial⟩ ⟨rfl, rfl, rfl, trivial⟩ h)
    ·have h := bF h19 h
     refine LWP.exit (hN13 (t11, o9, o1029) _ ⟨rfl, rfl, rfl, trivial⟩ ⟨rfl, rfl, trivial⟩ h)
  ·intro N4 hN4
   refine LWP.seq_k fun N5 hN5 => ?_
   refine LWP.region (l := [_,_,_]) ?_
   refine LWo.fieldAddr _ u_impl_Value rfl s_int rfl rfl (hn := ?_)
   refine LWo.load1 (c := (e_int a2.Kind)) g_int rfl (hn := ?_)
   refine LWo.int _ rfl rfl rfl (hn := ?_)
   refine LWo.nil (hN5 _ ?_)
   refine LWP.cond_split rfl (fun h6 => ?_) (fun h6 => ?_)
   ·have h := bT h6 h
    refine LWP.seq_k fun N7 hN7 => ?_
    refine LWP.region (l := [_,_,_]) ?_
    refine LWo.move (e_int a3) rfl (hn := ?_)
    refine LWo.fieldPtr u_impl_Tally rfl s_int rfl rfl (hn := ?_)
    refine lk h fun y8 e8 h => ?_
    refine LWo.storeW (y := y3) y8 s_int rfl rfl rfl rfl rfl rfl (by rw [e8]; exact .refl) rfl (hn := ?_)
    refine LWo.nil (hN7 _ ?_)
    refine LWP.region (l := [_,_,_,_,_,_]) ?_
    refine LWo.move (e_int a3) rfl (hn := ?_)
    refine LWo.fieldAddr _ u_impl_Value rfl s_int rfl rfl (hn := ?_)
    refine LWo.load1 (c := (e_int a2.N)) g_int rfl (hn := ?_)
    refine bk h fun x9 e9 h => ?_
    refine LWo.int _ rfl rfl (mul_ck e9) (hn := ?_)
    refine LWo.fieldPtr u_impl_Tally rfl s_int rfl rfl (hn := ?_)
    refine lk h fun y10 e10 h => ?_
    refine LWo.storeW (y := y8) y10 s_int rfl rfl rfl rfl rfl rfl (by rw [e10]; exact .refl) rfl (hn := ?_)
    refine LWo.nil (hN4 (a0, y10) _ ⟨rfl, rfl, trivial⟩ ⟨rfl, trivial⟩ h)
   ·have h := bF h6 h
    refine LWP.skip (hN4 (a0, y3) _ ⟨rfl, rfl, trivial⟩ ⟨rfl, trivial⟩ h)

def m_spec_TalliesOf_j3 (o1006 : (List S_impl_Tally)) : Option (List S_impl_Tally) :=
  some o1006
def m_spec_TalliesOf_l2 : Nat → (List (List S_impl_Value)) → Int → (List S_impl_Tally) → Option (List S_impl_Tally)
  | 0, _, _, _ => none
  | n2 + 1, t0, t5, o1006 =>
    bif decide (t5 < (t0.length : Int)) then ((at? t0 t5).bind fun x26 =>
    (at? x26 (0 : Int)).bind fun x27 =>
    (at? t0 t5).bind fun x28 =>
    (at? x28 (1 : Int)).bind fun x29 =>
    (m_spec_l32Turn o1006 x27 x29 (1 : Int)).bind fun x30 =>
    (ckI (t5 + (1 : Int))).bind fun x31 =>
    (m_spec_TalliesOf_l2  n2) t0 x31 x30)
    else (m_spec_TalliesOf_j3  o1006)
def m_spec_TalliesOf_j2 (t0 : (List (List S_impl_Value))) (o1006 : (List S_impl_Tally)) : Option (List S_impl_Tally) :=
  m_spec_TalliesOf_l2  (((t0.length : Int) - (0 : Int)).toNat + 1) t0 (0 : Int) o1006
def m_spec_TalliesOf_j1 (k1 : (List (List S_impl_Value)) → Int → (List S_impl_Tally) → Option (List S_impl_Tally)) (t0 : (List (List S_impl_Value))) (t4 : Int) (t23 : Bool) (o1006 : (List S_impl_Tally)) : Option (List S_impl_Tally) :=
  bif t23 then (some ([] : (List S_impl_Tally)))
  else ((ckI (t4 + (1 : Int))).bind fun x17 =>
  k1 t0 x17 o1006)
def m_spec_TalliesOf_l1 : Nat → (List (List S_impl_Value)) → Int → (List S_impl_Tally) → Option (List S_impl_Tally)
  | 0, _, _, _ => none
  | n1 + 1, t0, t4, o1006 =>
    bif decide (t4 < (t0.length : Int)) then ((at? t0 t4).bind fun x12 =>
    (m_spec_l32Row x12).bind fun x13 =>
    bif (!x13) then (m_spec_TalliesOf_j1  (m_spec_TalliesOf_l1  n1) t0 t4 true o1006)
    else (m_spec_TalliesOf_j1  (m_spec_TalliesOf_l1  n1) t0 t4 (decide ((t0.length : Int) > (100 : Int))) o1006))
    else (m_spec_TalliesOf_j2  t0 o1006)
def m_spec_TalliesOf (a0 : (List (List S_impl_Value))) : Option (List S_impl_Tally) :=
  m_spec_TalliesOf_l1  (((a0.length : Int) - (0 : Int)).toNat + 1) a0 (0 : Int) ([] : (List S_impl_Tally))
theorem c_spec_TalliesOf (a0 : (List (List S_impl_Value))) (r : (List S_impl_Tally)) (h : m_spec_TalliesOf a0 = some r) : Ret Try.prog f_spec_TalliesOf [e_LLimpl_Value a0] (.nw 4 (r.map e_impl_Tally) false) := by
  refine Does.goG [] F_spec_TalliesOf rfl e_spec_TalliesOf n_spec_TalliesOf rfl (rvs := [.tmp 2]) rfl rfl ?_
  intro w0 ok0 lent ρ0
  refine LWP.seq_k fun N1 hN1 => ?_
  refine LWP.region (l := [_]) ?_
  refine LWo.assign _ rfl (hn := ?_)
  refine LWo.ownNil 2 1002 4 rfl rfl rfl ?_
  refine LWo.known 2 (.own 1002 0 ([] : (List S_impl_Tally)).length) rfl ?_
  refine LWo.nil (hN1 _ ?_)
  refine LWP.seq_k fun N2 hN2 => ?_
  refine LWP.region (l := [_,_]) ?_
  refine LWo.lit0 1006 u_Limpl_Tally s_impl_Tally z_impl_Tally (hn := ?_)
  refine LWo.known 6 (.own 1006 0 ([] : (List S_impl_Tally)).length) rfl ?_
  refine LWo.assign (.own 1006 0 (([] : (List S_impl_Tally))).length) rfl (hn := ?_)
  refine LWo.nil (hN2 _ ?_)
  refine LWP.join (α := (List (List S_impl_Value)) × (List S_impl_Tally)) (fun z : (List (List S_impl_Value)) × (List S_impl_Tally) => [(0, (e_LLimpl_Value z.1)), (3, (.own 1006 0 (z.2).length))]) (fun z : (List (List S_impl_Value)) × (List S_impl_Tally) => [(1006, (lob 4 e_impl_Tally z.2))]) (fun z : (List (List S_impl_Value)) × (List S_impl_Tally) => m_spec_TalliesOf_j2  z.1 z.2) r (fun _ => by simp [hkeys]) ?_ ?_
  ·rintro ⟨t0, o1006⟩ h
   replace h : m_spec_TalliesOf_j2  t0 o1006 = some _ := h
   refine LWP.join (α := (List S_impl_Tally)) (fun z : (List S_impl_Tally) => [(3, (.own 1006 0 (z).length))]) (fun z : (List S_impl_Tally) => [(1006, (lob 4 e_impl_Tally z))]) (fun z : (List S_impl_Tally) => m_spec_TalliesOf_j3  z) r (fun _ => by simp [hkeys]) ?_ ?_
   ·rintro o1006 h
    replace h : m_spec_TalliesOf_j3  o1006 = some _ := h
    refine LWP.seq_k fun N32 hN32 => ?_
    refine LWP.region (l := [_,_]) ?_
    refine LWo.move (.own 1006 0 (o1006).length) rfl (hn := ?_)
    refine LWo.assign (.own 1006 0 (o1006).length) rfl (hn := ?_)
    refine LWo.nil (hN32 _ ?_)
    obtain rfl := Option.some.inj h
    refine LWP.ret (QG.mk (.inr rfl) (.cons (.tmp (x := (.own 1006 0 (o1006).length)) rfl) (.nil)) (RetOK.one0 (.nwM rfl rfl) (by decide)) rfl rfl)
   ·intro N18 hN18
    refine LWP.seq_k fun N19 hN19 => ?_
    refine LWP.region (l := [_]) ?_
    refine LWo.assign (e_int (0 : Int)) rfl (hn := ?_)
    refine LWo.nil (hN19 _ ?_)
    refine LWP.block ?_
    refine LWP.loopM (α := (List (List S_impl_Value)) × Int × (List S_impl_Tally)) (fun z : (List (List S_impl_Value)) × Int × (List S_impl_Tally) => [(0, (e_LLimpl_Value z.1)), (3, (.own 1006 0 (z.2.2).length)), (5, (e_int z.2.1))]) (fun z : (List (List S_impl_Value)) × Int × (List S_impl_Tally) => [(1006, (lob 4 e_impl_Tally z.2.2))]) (fun n2 (z : (List (List S_impl_Value)) × Int × (List S_impl_Tally)) => m_spec_TalliesOf_l2  n2 z.1 z.2.1 z.2.2) r _ (t0, (0 : Int), o1006) h (fun _ => rfl) (fun _ => by simp [hkeys]) ⟨rfl, rfl, rfl, trivial⟩ ⟨rfl, trivial⟩ ?_
    rintro n2 ⟨t0, t5, o1006⟩ h N20 hN20
    replace h : m_spec_TalliesOf_l2  (n2 + 1) t0 t5 o1006 = some _ := h
    refine LWP.seq_k fun N22 hN22 => ?_
    refine LWP.seq_k fun N23 hN23 => ?_
    refine LWP.region (l := [_,_,_,_]) ?_
    refine LWo.move (e_int t5) rfl (hn := ?_)
    refine LWo.move (e_LLimpl_Value t0) rfl (hn := ?_)
    refine LWo.lenM (f := e_Limpl_Value) (l := t0) u_LLimpl_Value rfl (hn := ?_)
    refine LWo.int _ rfl rfl rfl (hn := ?_)
    refine LWo.nil (hN23 _ ?_)
    refine LWP.cond_split rfl (fun h24 => ?_) (fun h24 => ?_)
    ·have h := bT h24 h
     refine LWP.skip (hN22 _ ?_)
     refine LWP.seq_k fun N25 hN25 => ?_
     refine LWP.block ?_
     refine LWP.frzL (f := e_impl_Tally) (l := o1006) [3] 1006 rfl rfl ⟨rfl, trivial⟩ ?_
     refine bk h fun x26 e26 h => ?_
     refine bk h fun x27 e27 h => ?_
     refine bk h fun x28 e28 h => ?_
     refine bk h fun x29 e29 h => ?_
     refine bk h fun x30 e30 h => ?_
     refine LWP.drawF (l := [_,_,_,_,_,_,_,_,_,_,_,_,_,_,_]) [(1044, 1044)] [0, 3, 5] [([3], []), ([0], []), ([5], []), ([32, 33], []), ([34], []), ([35], []), ([36], []), ([0], []), ([5], []), ([38, 39], []), ([40], []), ([41], []), ([42], []), ([31, 37, 43], []), ([44], [])] [0, 3, 5] [1044] mixed (by kernel_rfl) rfl (by decide) ?_
     refine dq 31 rfl (fun _ g u h => LWo.move (e_Limpl_Tally o1006) u.1 (hn := .nil (zn g))) ?_
     refine dq 32 rfl (fun _ g u h => LWo.move (e_LLimpl_Value t0) u.1 (hn := .nil (zn g))) ?_
     refine dq 33 rfl (fun _ g u h => LWo.move (e_int t5) u.1 (hn := .nil (zn g))) ?_
     refine dq 34 rfl (fun _ g u h => LWo.indexM (f := e_Limpl_Value) e26 u_LLimpl_Value s_Limpl_Value u.1 u.2.1 (hn := .nil (zn g))) ?_
     refine dq 35 rfl (fun _ g u h => LWo.load1 (c := (e_Limpl_Value x26)) g_Limpl_Value u.1 (hn := .nil (zn g))) ?_
     refine dq 36 rfl (fun _ g u h => LWo.indexM (f := e_impl_Value) e27 u_Limpl_Value s_impl_Value u.1 rfl (hn := .nil (zn g))) ?_
     refine dq 37 rfl (fun _ g u h => LWo.loadN ((e_impl_Value x27)).cells g_impl_Value s_impl_Value u.1 (Nat.le_of_ble_eq_true rfl) rfl (hn := .nil (zn g))) ?_
     refine dq 38 rfl (fun _ g u h => LWo.move (e_LLimpl_Value t0) u.1 (hn := .nil (zn g))) ?_
     refine dq 39 rfl (fun _ g u h => LWo.move (e_int t5) u.1 (hn := .nil (zn g))) ?_
     refine dq 40 rfl (fun _ g u h => LWo.indexM (f := e_Limpl_Value) e28 u_LLimpl_Value s_Limpl_Value u.1 u.2.1 (hn := .nil (zn g))) ?_
     refine dq 41 rfl (fun _ g u h => LWo.load1 (c := (e_Limpl_Value x28)) g_Limpl_Value u.1 (hn := .nil (zn g))) ?_
     refine dq 42 rfl (fun _ g u h => LWo.indexM (f := e_impl_Value) e29 u_Limpl_Value s_impl_Value u.1 rfl (hn := .nil (zn g))) ?_
     refine dq 43 rfl (fun _ g u h => LWo.loadN ((e_impl_Value x29)).cells g_impl_Value s_impl_Value u.1 (Nat.le_of_ble_eq_true rfl) rfl (hn := .nil (zn g))) ?_
     refine ⟨rfl, .make 44 _ 1044 _, (by exact (goodC rfl goodN)), fun _ g u h => LWo.ncall (e := e_impl_Tally) 1044 rfl (av4 u.1 u.2.1 u.2.2.1 rfl) (c_spec_l32Turn _ _ _ _ _ e30) (.same (.same (.same (.same (.nil))))) (lone_of g rfl) (hn := LWo.nil ⟨rfl, .inl rfl, Ef.good_ok (e := .make 44 _ 1044 _) (by exact (goodC rfl goodN)) g⟩), ?_⟩
     refine dq 3 rfl (fun _ g u h => LWo.assign (.own 1044 0 (x30).length) u.1 (hn := .nil (zn g))) ?_
     refine ⟨rfl, by kernel_rfl, hN25 _ ?_⟩
     refine LWP.region (l := [_,_,_]) ?_
     refine LWo.move (e_int t5) rfl (hn := ?_)
     refine bk h fun x31 e31 h => ?_
     refine LWo.int _ rfl rfl (add_ck e31) (hn := ?_)
     refine LWo.assign (e_int x31) rfl (hn := ?_)
     refine LWo.rekey 3 1044 1006 rfl rfl rfl rfl rfl rfl ?_
     refine LWo.nil (hN20 (t0, x31, x30) _ ⟨rfl, rfl, rfl, trivial⟩ ⟨rfl, trivial⟩ h)
    ·have h := bF h24 h
     refine LWP.exit (hN18 o1006 _ ⟨rfl, trivial⟩ ⟨rfl, trivial⟩ h)
  ·intro N3 hN3
   refine LWP.seq_k fun N4 hN4 => ?_
   refine LWP.region (l := [_]) ?_
   refine LWo.assign (e_int (0 : Int)) rfl (hn := ?_)
   refine LWo.nil (hN4 _ ?_)
   refine LWP.block ?_
   refine LWP.loopM (α := (List (List S_impl_Value)) × Int × (List S_impl_Tally)) (fun z : (List (List S_impl_Value)) × Int × (List S_impl_Tally) => [(0, (e_LLimpl_Value z.1)), (3, (.own 1006 0 (z.2.2).length)), (4, (e_int z.2.1))]) (fun z : (List (List S_impl_Value)) × Int × (List S_impl_Tally) => [(1006, (lob 4 e_impl_Tally z.2.2))]) (fun n1 (z : (List (List S_impl_Value)) × Int × (List S_impl_Tally)) => m_spec_TalliesOf_l1  n1 z.1 z.2.1 z.2.2) r _ (a0, (0 : Int), ([] : (List S_impl_Tally))) h (fun _ => rfl) (fun _ => by simp [hkeys]) ⟨rfl, rfl, rfl, trivial⟩ ⟨rfl, trivial⟩ ?_
   rintro n1 ⟨t0, t4, o1006⟩ h N5 hN5
   replace h : m_spec_TalliesOf_l1  (n1 + 1) t0 t4 o1006 = some _ := h
   refine LWP.seq_k fun N7 hN7 => ?_
   refine LWP.seq_k fun N8 hN8 => ?_
   refine LWP.region (l := [_,_,_,_]) ?_
   refine LWo.move (e_int t4) rfl (hn := ?_)
   refine LWo.move (e_LLimpl_Value t0) rfl (hn := ?_)
   refine LWo.lenM (f := e_Limpl_Value) (l := t0) u_LLimpl_Value rfl (hn := ?_)
   refine LWo.int _ rfl rfl rfl (hn := ?_)
   refine LWo.nil (hN8 _ ?_)
   refine LWP.cond_split rfl (fun h9 => ?_) (fun h9 => ?_)
   ·have h := bT h9 h
    refine LWP.skip (hN7 _ ?_)
    refine LWP.seq_k fun N10 hN10 => ?_
    refine LWP.block ?_
    refine LWP.join (α := (List (List S_impl_Value)) × Int × Bool × (List S_impl_Tally)) (fun z : (List (List S_impl_Value)) × Int × Bool × (List S_impl_Tally) => [(0, (e_LLimpl_Value z.1)), (3, (.own 1006 0 (z.2.2.2).length)), (4, (e_int z.2.1)), (23, (e_bool z.2.2.1))]) (fun z : (List (List S_impl_Value)) × Int × Bool × (List S_impl_Tally) => [(1006, (lob 4 e_impl_Tally z.2.2.2))]) (fun z : (List (List S_impl_Value)) × Int × Bool × (List S_impl_Tally) => m_spec_TalliesOf_j1  (m_spec_TalliesOf_l1  n1) z.1 z.2.1 z.2.2.1 z.2.2.2) r (fun _ => by simp [hkeys]) ?_ ?_
    ·rintro ⟨t0, t4, t23, o1006⟩ h
     replace h : m_spec_TalliesOf_j1  (m_spec_TalliesOf_l1  n1) t0 t4 t23 o1006 = some _ := h
     refine LWP.cond_split rfl (fun h15 => ?_) (fun h15 => ?_)
     ·have h := bT h15 h
      refine LWP.seq_k fun N16 hN16 => ?_
      refine LWP.region (l := [_,_]) ?_
      refine LWo.lit0 1024 u_Limpl_Tally s_impl_Tally z_impl_Tally (hn := ?_)
      refine LWo.known 24 (.own 1024 0 ([] : (List S_impl_Tally)).length) rfl ?_
      refine LWo.assign (.own 1024 0 (([] : (List S_impl_Tally))).length) rfl (hn := ?_)
      refine LWo.nil (hN16 _ ?_)
      obtain rfl := Option.some.inj h
      refine LWP.ret (QG.mk (.inr rfl) (.cons (.tmp (x := (.own 1024 0 (([] : (List S_impl_Tally))).length)) rfl) (.nil)) (RetOK.one0 (.nwM rfl rfl) (by decide)) rfl rfl)
     ·have h := bF h15 h
      refine LWP.skip (hN10 _ ?_)
      refine LWP.region (l := [_,_,_]) ?_
      refine LWo.move (e_int t4) rfl (hn := ?_)
      refine bk h fun x17 e17 h => ?_
      refine LWo.int _ rfl rfl (add_ck e17) (hn := ?_)
      refine LWo.assign (e_int x17) rfl (hn := ?_)
      refine LWo.nil (hN5 (t0, x17, o1006) _ ⟨rfl, rfl, rfl, trivial⟩ ⟨rfl, trivial⟩ h)
    ·intro N11 hN11
     refine LWP.region (l := [_,_,_,_,_,_,_,_,_,_,_]) ?_
     refine LWo.move (e_LLimpl_Value t0) rfl (hn := ?_)
     refine LWo.move (e_int t4) rfl (hn := ?_)
     refine bk h fun x12 e12 h => ?_
     refine LWo.indexM (f := e_Limpl_Value) e12 u_LLimpl_Value s_Limpl_Value rfl rfl (hn := ?_)
     refine LWo.load1 (c := (e_Limpl_Value x12)) g_Limpl_Value rfl (hn := ?_)
     refine bk h fun x13 e13 h => ?_
     refine LWo.vcall rfl rfl (c_spec_l32Row _ _ e13) (.same (.nil)) (hn := ?_)
     refine LWo.not rfl (hn := ?_)
     refine LWo.move (e_bool (!x13)) rfl (hn := ?_)
     refine LWo.byCases (t := 19) _ rfl (fun h14 => ?_) (fun h14 => ?_)
     ·have h := bT h14 h
      refine LWo.guardNU (t := 19) rfl h14 rfl rfl rfl rfl rfl ?_
      refine LWo.guardNU (t := 19) rfl h14 rfl rfl rfl rfl rfl ?_
      refine LWo.guardNU (t := 19) rfl h14 rfl rfl rfl rfl rfl ?_
      refine LWo.pickTM (e_bool true) rfl h14 rfl (hn := ?_)
      refine LWo.nil (hN11 (t0, t4, true, o1006) _ ⟨rfl, rfl, rfl, rfl, trivial⟩ ⟨rfl, trivial⟩ h)
     ·have h := bF h14 h
      refine LWo.guardY (t := 19) rfl h14 rfl rfl ?_
      refine LWo.move (e_LLimpl_Value t0) rfl (hn := ?_)
      refine LWo.guardY (t := 19) rfl h14 rfl rfl ?_
      refine LWo.lenM (f := e_Limpl_Value) (l := t0) u_LLimpl_Value rfl (hn := ?_)
      refine LWo.guardY (t := 19) rfl h14 rfl rfl ?_
      refine LWo.int _ rfl rfl rfl (hn := ?_)
      refine LWo.pickFM (e_bool (decide ((t0.length : Int) > (100 : Int)))) rfl h14 rfl (hn := ?_)
      refine LWo.nil (hN11 (t0, t4, decide ((t0.length : Int) > (100 : Int)), o1006) _ ⟨rfl, rfl, rfl, rfl, trivial⟩ ⟨rfl, trivial⟩ h)
   ·have h := bF h9 h
    refine LWP.exit (hN3 (t0, o1006) _ ⟨rfl, rfl, trivial⟩ ⟨rfl, trivial⟩ h)
end Go.Proofs.Ytkgmomocjkmipaa
