/- Mirrors of functions, and that the functions return what the mirrors say. -/
import Derived.Test.YtgepipglchpabaaXW4
set_option linter.unusedVariables false
set_option linter.unusedSimpArgs false
set_option linter.unnecessarySimpa false
namespace Go.Proofs.Ytgepipglchpabaa
open Go.Proofs Go.Lift Go.RowKit
def m_spec_l4Sum_j1 (t5 : Int) (t23 : Bool) (o4 : S_impl_Value) : Option S_impl_Value :=
  bif t23 then (lt ((⟨(0 : Int), (0 : Int), (⟨#[]⟩ : ByteArray)⟩ : S_impl_Value)) fun y11 =>
    some y11)
  else (lt ((⟨(1 : Int), t5, (⟨#[]⟩ : ByteArray)⟩ : S_impl_Value)) fun y13 =>
  some y13)
def m_spec_l4Sum (a0 : S_impl_Value) (a1 : S_impl_Value) : Option S_impl_Value :=
  (ckI (a0.N + a1.N)).bind fun x3 =>
  bif (a0.Kind == (0 : Int)) then (m_spec_l4Sum_j1  x3 true (⟨(0 : Int), (0 : Int), (⟨#[]⟩ : ByteArray)⟩ : S_impl_Value))
  else (bif (a1.Kind == (0 : Int)) then (m_spec_l4Sum_j1  x3 true (⟨(0 : Int), (0 : Int), (⟨#[]⟩ : ByteArray)⟩ : S_impl_Value))
    else ((m_spec_l1In x3 (-9999 : Int) (9999 : Int)).bind fun x8 =>
      m_spec_l4Sum_j1  x3 (!x8) (⟨(0 : Int), (0 : Int), (⟨#[]⟩ : ByteArray)⟩ : S_impl_Value)))
theorem c_spec_l4Sum (a0 : S_impl_Value) (a1 : S_impl_Value) (r : S_impl_Value) (h : m_spec_l4Sum a0 a1 = some r) : Ret Try.prog f_spec_l4Sum [e_impl_Value a0, e_impl_Value a1] (e_impl_Value r) := by
  refine Does.goG [] F_spec_l4Sum rfl e_spec_l4Sum n_spec_l4Sum rfl (rvs := [.cell 4 t_impl_Value]) rfl rfl ?_
  intro w0 ok0 lent ρ0
  refine LWP.seq_k fun N1 hN1 => ?_
  refine LWP.region (l := [_,_,_]) ?_
  refine LWo.boxF (e_impl_Value a0) rfl rfl rfl (hn := ?_)
  refine LWo.boxF (e_impl_Value a1) rfl rfl rfl (hn := ?_)
  refine LWo.alloc_impl_Value 4 rfl (hn := ?_)
  refine LWo.nil (hN1 _ ?_)
  refine LWP.seq_k fun N2 hN2 => ?_
  refine LWP.region (l := [_,_,_,_,_,_]) ?_
  refine LWo.fieldAddr _ u_impl_Value rfl s_int rfl rfl (hn := ?_)
  refine LWo.load1 (c := (e_int a0.N)) g_int rfl (hn := ?_)
  refine LWo.fieldAddr _ u_impl_Value rfl s_int rfl rfl (hn := ?_)
  refine LWo.load1 (c := (e_int a1.N)) g_int rfl (hn := ?_)
  refine bk h fun x3 e3 h => ?_
  refine LWo.int _ rfl rfl (add_ck e3) (hn := ?_)
  refine LWo.assign (e_int x3) rfl (hn := ?_)
  refine LWo.nil (hN2 _ ?_)
  refine LWP.seq_k fun N4 hN4 => ?_
  refine LWP.join (α := Int × Bool × S_impl_Value) (fun z : Int × Bool × S_impl_Value => [(4, (.ptr 4 0 0)), (5, (e_int z.1)), (23, (e_bool z.2.1))]) (fun z : Int × Bool × S_impl_Value => [(4, (vob 3 e_impl_Value z.2.2))]) (fun z : Int × Bool × S_impl_Value => m_spec_l4Sum_j1  z.1 z.2.1 z.2.2) r (fun _ => by simp [hkeys]) ?_ ?_
  ·rintro ⟨t5, t23, o4⟩ h
   replace h : m_spec_l4Sum_j1  t5 t23 o4 = some _ := h
   refine LWP.cond_split rfl (fun h9 => ?_) (fun h9 => ?_)
   ·have h := bT h9 h
    refine LWP.seq_k fun N10 hN10 => ?_
    refine LWP.region (l := [_,_]) ?_
    refine LWo.build_impl_Value (parts := []) (⟨(0 : Int), (0 : Int), (⟨#[]⟩ : ByteArray)⟩ : S_impl_Value) rfl rfl rfl .refl (hn := ?_)
    refine lk h fun y11 e11 h => ?_
    refine LWo.storeW (y := o4) y11 s_impl_Value rfl rfl rfl rfl rfl rfl (by rw [e11]; exact .refl) rfl (hn := ?_)
    refine LWo.nil (hN10 _ ?_)
    obtain rfl := Option.some.inj h
    refine LWP.ret (QG.mk (.inr rfl) (.cons (.cellN (ys := (e_impl_Value y11).cells) g_impl_Value s_impl_Value rfl rfl rfl rfl rfl (fun _ _ => rfl)) (.nil)) (RetOK.one0 (.pure rfl) (by decide)) rfl rfl)
   ·have h := bF h9 h
    refine LWP.skip (hN4 _ ?_)
    refine LWP.seq_k fun N12 hN12 => ?_
    refine LWP.region (l := [_,_,_]) ?_
    refine LWo.move (e_int t5) rfl (hn := ?_)
    refine LWo.build_impl_Value (parts := [_, _]) (⟨(1 : Int), t5, (⟨#[]⟩ : ByteArray)⟩ : S_impl_Value) rfl rfl rfl .refl (hn := ?_)
    refine lk h fun y13 e13 h => ?_
    refine LWo.storeW (y := o4) y13 s_impl_Value rfl rfl rfl rfl rfl rfl (by rw [e13]; exact .refl) rfl (hn := ?_)
    refine LWo.nil (hN12 _ ?_)
    obtain rfl := Option.some.inj h
    refine LWP.ret (QG.mk (.inr rfl) (.cons (.cellN (ys := (e_impl_Value y13).cells) g_impl_Value s_impl_Value rfl rfl rfl rfl rfl (fun _ _ => rfl)) (.nil)) (RetOK.one0 (.pure rfl) (by decide)) rfl rfl)
  ·intro N5 hN5
   refine LWP.region (l := [_,_,_,_,_,_,_,_,_,_,_,_,_]) ?_
   refine LWo.fieldAddr _ u_impl_Value rfl s_int rfl rfl (hn := ?_)
   refine LWo.load1 (c := (e_int a0.Kind)) g_int rfl (hn := ?_)
   refine LWo.int _ rfl rfl rfl (hn := ?_)
   refine LWo.move (e_bool (a0.Kind == (0 : Int))) rfl (hn := ?_)
   refine LWo.byCases (t := 14) _ rfl (fun h6 => ?_) (fun h6 => ?_)
   ·have h := bT h6 h
    refine LWo.guardNU (t := 14) rfl h6 rfl rfl rfl rfl rfl ?_
    refine LWo.guardNU (t := 14) rfl h6 rfl rfl rfl rfl rfl ?_
    refine LWo.guardNU (t := 14) rfl h6 rfl rfl rfl rfl rfl ?_
    refine LWo.pickTM (e_bool true) rfl h6 rfl (hn := ?_)
    refine LWo.move (e_bool true) rfl (hn := ?_)
    refine LWo.guardNU (t := 19) rfl rfl rfl rfl rfl rfl rfl ?_
    refine LWo.guardNU (t := 19) rfl rfl rfl rfl rfl rfl rfl ?_
    refine LWo.guardNU (t := 19) rfl rfl rfl rfl rfl rfl rfl ?_
    refine LWo.pickTM (e_bool true) rfl rfl rfl (hn := ?_)
    refine LWo.nil (hN5 (x3, true, (⟨(0 : Int), (0 : Int), (⟨#[]⟩ : ByteArray)⟩ : S_impl_Value)) _ ⟨rfl, rfl, rfl, trivial⟩ ⟨rfl, trivial⟩ h)
   ·have h := bF h6 h
    refine LWo.guardY (t := 14) rfl h6 rfl rfl ?_
    refine LWo.fieldAddr _ u_impl_Value rfl s_int rfl rfl (hn := ?_)
    refine LWo.guardY (t := 14) rfl h6 rfl rfl ?_
    refine LWo.load1 (c := (e_int a1.Kind)) g_int rfl (hn := ?_)
    refine LWo.guardY (t := 14) rfl h6 rfl rfl ?_
    refine LWo.int _ rfl rfl rfl (hn := ?_)
    refine LWo.pickFM (e_bool (a1.Kind == (0 : Int))) rfl h6 rfl (hn := ?_)
    refine LWo.move (e_bool (a1.Kind == (0 : Int))) rfl (hn := ?_)
    refine LWo.byCases (t := 19) _ rfl (fun h7 => ?_) (fun h7 => ?_)
    ·have h := bT h7 h
     refine LWo.guardNU (t := 19) rfl h7 rfl rfl rfl rfl rfl ?_
     refine LWo.guardNU (t := 19) rfl h7 rfl rfl rfl rfl rfl ?_
     refine LWo.guardNU (t := 19) rfl h7 rfl rfl rfl rfl rfl ?_
     refine LWo.pickTM (e_bool true) rfl h7 rfl (hn := ?_)
     refine LWo.nil (hN5 (x3, true, (⟨(0 : Int), (0 : Int), (⟨#[]⟩ : ByteArray)⟩ : S_impl_Value)) _ ⟨rfl, rfl, rfl, trivial⟩ ⟨rfl, trivial⟩ h)
    ·have h := bF h7 h
     refine LWo.guardY (t := 19) rfl h7 rfl rfl ?_
     refine LWo.move (e_int x3) rfl (hn := ?_)
     refine bk h fun x8 e8 h => ?_
     refine LWo.guardY (t := 19) rfl h7 rfl rfl ?_
     refine LWo.vcall rfl rfl (c_spec_l1In _ _ _ _ e8) (.same (.same (.same (.nil)))) (hn := ?_)
     refine LWo.guardY (t := 19) rfl h7 rfl rfl ?_
     refine LWo.not rfl (hn := ?_)
     refine LWo.pickFM (e_bool (!x8)) rfl h7 rfl (hn := ?_)
     refine LWo.nil (hN5 (x3, (!x8), (⟨(0 : Int), (0 : Int), (⟨#[]⟩ : ByteArray)⟩ : S_impl_Value)) _ ⟨rfl, rfl, rfl, trivial⟩ ⟨rfl, trivial⟩ h)

def m_spec_l1Less (a0 : Int) (a1 : Int) : Option Int :=
  bif decide (a0 < a1) then (some (1 : Int))
  else (some (0 : Int))
theorem c_spec_l1Less (a0 : Int) (a1 : Int) (r : Int) (h : m_spec_l1Less a0 a1 = some r) : Ret Try.prog f_spec_l1Less [e_int a0, e_int a1] (e_int r) := by
  refine Does.goG [] F_spec_l1Less rfl e_spec_l1Less n_spec_l1Less rfl (rvs := [.tmp 4]) rfl rfl ?_
  intro w0 ok0 lent ρ0
  refine LWP.seq_k fun N1 hN1 => ?_
  refine LWP.region (l := [_]) ?_
  refine LWo.assign (e_int (0 : Int)) rfl (hn := ?_)
  refine LWo.nil (hN1 _ ?_)
  refine LWP.seq_k fun N2 hN2 => ?_
  refine LWP.seq_k fun N3 hN3 => ?_
  refine LWP.region (l := [_,_,_]) ?_
  refine LWo.move (e_int a0) rfl (hn := ?_)
  refine LWo.move (e_int a1) rfl (hn := ?_)
  refine LWo.int _ rfl rfl rfl (hn := ?_)
  refine LWo.nil (hN3 _ ?_)
  refine LWP.cond_split rfl (fun h4 => ?_) (fun h4 => ?_)
  ·have h := bT h4 h
   refine LWP.seq_k fun N5 hN5 => ?_
   refine LWP.region (l := [_]) ?_
   refine LWo.assign (e_int (1 : Int)) rfl (hn := ?_)
   refine LWo.nil (hN5 _ ?_)
   obtain rfl := Option.some.inj h
   refine LWP.ret (QG.mk (.inr rfl) (.cons (.tmp (x := (e_int (1 : Int))) rfl) (.nil)) (RetOK.one0 (.pure rfl) (by decide)) rfl rfl)
  ·have h := bF h4 h
   refine LWP.skip (hN2 _ ?_)
   refine LWP.seq_k fun N6 hN6 => ?_
   refine LWP.region (l := [_]) ?_
   refine LWo.assign (e_int (0 : Int)) rfl (hn := ?_)
   refine LWo.nil (hN6 _ ?_)
   obtain rfl := Option.some.inj h
   refine LWP.ret (QG.mk (.inr rfl) (.cons (.tmp (x := (e_int (0 : Int))) rfl) (.nil)) (RetOK.one0 (.pure rfl) (by decide)) rfl rfl)

def m_spec_l1Cmp (a0 : ByteArray) (a1 : ByteArray) : Option Int :=
  bif (sLt a0 a1) then (some (-1 : Int))
  else (bif (!(sLt a0 a1 || sEq a0 a1)) then (some (1 : Int))
  else (some (0 : Int)))
theorem c_spec_l1Cmp (a0 : ByteArray) (a1 : ByteArray) (r : Int) (h : m_spec_l1Cmp a0 a1 = some r) : Ret Try.prog f_spec_l1Cmp [e_string a0, e_string a1] (e_int r) := by
  refine Does.goG [] F_spec_l1Cmp rfl e_spec_l1Cmp n_spec_l1Cmp rfl (rvs := [.tmp 4]) rfl rfl ?_
  intro w0 ok0 lent ρ0
  refine LWP.seq_k fun N1 hN1 => ?_
  refine LWP.region (l := [_]) ?_
  refine LWo.assign (e_int (0 : Int)) rfl (hn := ?_)
  refine LWo.nil (hN1 _ ?_)
  refine LWP.seq_k fun N2 hN2 => ?_
  refine LWP.seq_k fun N3 hN3 => ?_
  refine LWP.region (l := [_,_,_]) ?_
  refine LWo.move (e_string a0) rfl (hn := ?_)
  refine LWo.move (e_string a1) rfl (hn := ?_)
  refine LWo.str _ rfl rfl rfl (hn := ?_)
  refine LWo.nil (hN3 _ ?_)
  refine LWP.cond_split rfl (fun h4 => ?_) (fun h4 => ?_)
  ·have h := bT h4 h
   refine LWP.seq_k fun N5 hN5 => ?_
   refine LWP.region (l := [_]) ?_
   refine LWo.assign (e_int (-1 : Int)) rfl (hn := ?_)
   refine LWo.nil (hN5 _ ?_)
   obtain rfl := Option.some.inj h
   refine LWP.ret (QG.mk (.inr rfl) (.cons (.tmp (x := (e_int (-1 : Int))) rfl) (.nil)) (RetOK.one0 (.pure rfl) (by decide)) rfl rfl)
  ·have h := bF h4 h
   refine LWP.skip (hN2 _ ?_)
   refine LWP.seq_k fun N6 hN6 => ?_
   refine LWP.seq_k fun N7 hN7 => ?_
   refine LWP.region (l := [_,_,_]) ?_
   refine LWo.move (e_string a0) rfl (hn := ?_)
   refine LWo.move (e_string a1) rfl (hn := ?_)
   refine LWo.str _ rfl rfl rfl (hn := ?_)
   refine LWo.nil (hN7 _ ?_)
   refine LWP.cond_split rfl (fun h8 => ?_) (fun h8 => ?_)
   ·have h := bT h8 h
    refine LWP.seq_k fun N9 hN9 => ?_
    refine LWP.region (l := [_]) ?_
    refine LWo.assign (e_int (1 : Int)) rfl (hn := ?_)
    refine LWo.nil (hN9 _ ?_)
    obtain rfl := Option.some.inj h
    refine LWP.ret (QG.mk (.inr rfl) (.cons (.tmp (x := (e_int (1 : Int))) rfl) (.nil)) (RetOK.one0 (.pure rfl) (by decide)) rfl rfl)
   ·have h := bF h8 h
    refine LWP.skip (hN6 _ ?_)
    refine LWP.seq_k fun N10 hN10 => ?_
    refine LWP.region (l := [_]) ?_
    refine LWo.assign (e_int (0 : Int)) rfl (hn := ?_)
    refine LWo.nil (hN10 _ ?_)
    obtain rfl := Option.some.inj h
    refine LWP.ret (QG.mk (.inr rfl) (.cons (.tmp (x := (e_int (0 : Int))) rfl) (.nil)) (RetOK.one0 (.pure rfl) (by decide)) rfl rfl)

def m_spec_ValueOrder_j1 (t2 : S_impl_Value) (t3 : S_impl_Value) (t12 : Bool) : Option Int :=
  bif t12 then (some (0 : Int))
  else (bif (t2.Kind != t3.Kind) then ((m_spec_l1Less t3.Kind t2.Kind).bind fun x13 =>
  (ckI ((2 : Int) * x13)).bind fun x14 =>
  (ckI (x14 - (1 : Int))).bind fun x15 =>
  some x15)
  else (bif (t2.N != t3.N) then ((m_spec_l1Less t3.N t2.N).bind fun x19 =>
    (ckI ((2 : Int) * x19)).bind fun x20 =>
    (ckI (x20 - (1 : Int))).bind fun x21 =>
    some x21)
  else ((m_spec_l1Cmp t2.S t3.S).bind fun x23 =>
  some x23)))
def m_spec_ValueOrder (a0 : S_impl_Value) (a1 : S_impl_Value) : Option Int :=
  (m_spec_ValueOk a0).bind fun x4 =>
  bif (!x4) then (m_spec_ValueOrder_j1  a0 a1 true)
  else ((m_spec_ValueOk a1).bind fun x6 =>
    m_spec_ValueOrder_j1  a0 a1 (!x6))
theorem c_spec_ValueOrder (a0 : S_impl_Value) (a1 : S_impl_Value) (r : Int) (h : m_spec_ValueOrder a0 a1 = some r) : Ret Try.prog f_spec_ValueOrder [e_impl_Value a0, e_impl_Value a1] (e_int r) := by
  refine Does.goG [] F_spec_ValueOrder rfl e_spec_ValueOrder n_spec_ValueOrder rfl (rvs := [.tmp 4]) rfl rfl ?_
  intro w0 ok0 lent ρ0
  refine LWP.seq_k fun N1 hN1 => ?_
  refine LWP.region (l := [_,_,_]) ?_
  refine LWo.boxF (e_impl_Value a0) rfl rfl rfl (hn := ?_)
  refine LWo.boxF (e_impl_Value a1) rfl rfl rfl (hn := ?_)
  refine LWo.assign (e_int (0 : Int)) rfl (hn := ?_)
  refine LWo.nil (hN1 _ ?_)
  refine LWP.seq_k fun N2 hN2 => ?_
  refine LWP.join (α := S_impl_Value × S_impl_Value × Bool) (fun z : S_impl_Value × S_impl_Value × Bool => [(2, (.fp (e_impl_Value z.1).cells)), (3, (.fp (e_impl_Value z.2.1).cells)), (12, (e_bool z.2.2))]) (fun z : S_impl_Value × S_impl_Value × Bool => []) (fun z : S_impl_Value × S_impl_Value × Bool => m_spec_ValueOrder_j1  z.1 z.2.1 z.2.2) r (fun _ => by simp [hkeys]) ?_ ?_
  ·rintro ⟨t2, t3, t12⟩ h
   replace h : m_spec_ValueOrder_j1  t2 t3 t12 = some _ := h
   refine LWP.cond_split rfl (fun h7 => ?_) (fun h7 => ?_)
   ·have h := bT h7 h
    refine LWP.seq_k fun N8 hN8 => ?_
    refine LWP.region (l := [_]) ?_
    refine LWo.assign (e_int (0 : Int)) rfl (hn := ?_)
    refine LWo.nil (hN8 _ ?_)
    obtain rfl := Option.some.inj h
    refine LWP.ret (QG.mk (.inr rfl) (.cons (.tmp (x := (e_int (0 : Int))) rfl) (.nil)) (RetOK.one0 (.pure rfl) (by decide)) rfl rfl)
   ·have h := bF h7 h
    refine LWP.skip (hN2 _ ?_)
    refine LWP.seq_k fun N9 hN9 => ?_
    refine LWP.block ?_
    refine LWP.seq_k fun N10 hN10 => ?_
    refine LWP.region (l := [_,_,_,_,_,_]) ?_
    refine LWo.fieldAddr _ u_impl_Value rfl s_int rfl rfl (hn := ?_)
    refine LWo.load1 (c := (e_int t2.Kind)) g_int rfl (hn := ?_)
    refine LWo.fieldAddr _ u_impl_Value rfl s_int rfl rfl (hn := ?_)
    refine LWo.load1 (c := (e_int t3.Kind)) g_int rfl (hn := ?_)
    refine LWo.int _ rfl rfl rfl (hn := ?_)
    refine LWo.assign (e_bool (t2.Kind != t3.Kind)) rfl (hn := ?_)
    refine LWo.nil (hN10 _ ?_)
    refine LWP.cond_split rfl (fun h11 => ?_) (fun h11 => ?_)
    ·have h := bT h11 h
     refine LWP.seq_k fun N12 hN12 => ?_
     refine LWP.region (l := [_,_,_,_,_,_,_,_]) ?_
     refine LWo.fieldAddr _ u_impl_Value rfl s_int rfl rfl (hn := ?_)
     refine LWo.load1 (c := (e_int t3.Kind)) g_int rfl (hn := ?_)
     refine LWo.fieldAddr _ u_impl_Value rfl s_int rfl rfl (hn := ?_)
     refine LWo.load1 (c := (e_int t2.Kind)) g_int rfl (hn := ?_)
     refine bk h fun x13 e13 h => ?_
     refine LWo.vcall rfl rfl (c_spec_l1Less _ _ _ e13) (.same (.same (.nil))) (hn := ?_)
     refine bk h fun x14 e14 h => ?_
     refine LWo.int _ rfl rfl (mul_ck e14) (hn := ?_)
     refine bk h fun x15 e15 h => ?_
     refine LWo.int _ rfl rfl (sub_ck e15) (hn := ?_)
     refine LWo.assign (e_int x15) rfl (hn := ?_)
     refine LWo.nil (hN12 _ ?_)
     obtain rfl := Option.some.inj h
     refine LWP.ret (QG.mk (.inr rfl) (.cons (.tmp (x := (e_int x15)) rfl) (.nil)) (RetOK.one0 (.pure rfl) (by decide)) rfl rfl)
    ·have h := bF h11 h
     refine LWP.seq_k fun N16 hN16 => ?_
     refine LWP.region (l := [_,_,_,_,_,_]) ?_
     refine LWo.fieldAddr _ u_impl_Value rfl s_int rfl rfl (hn := ?_)
     refine LWo.load1 (c := (e_int t2.N)) g_int rfl (hn := ?_)
     refine LWo.fieldAddr _ u_impl_Value rfl s_int rfl rfl (hn := ?_)
     refine LWo.load1 (c := (e_int t3.N)) g_int rfl (hn := ?_)
     refine LWo.int _ rfl rfl rfl (hn := ?_)
     refine LWo.assign (e_bool (t2.N != t3.N)) rfl (hn := ?_)
     refine LWo.nil (hN16 _ ?_)
     refine LWP.cond_split rfl (fun h17 => ?_) (fun h17 => ?_)
     ·have h := bT h17 h
      refine LWP.seq_k fun N18 hN18 => ?_
      refine LWP.region (l := [_,_,_,_,_,_,_,_]) ?_
      refine LWo.fieldAddr _ u_impl_Value rfl s_int rfl rfl (hn := ?_)
      refine LWo.load1 (c := (e_int t3.N)) g_int rfl (hn := ?_)
      refine LWo.fieldAddr _ u_impl_Value rfl s_int rfl rfl (hn := ?_)
      refine LWo.load1 (c := (e_int t2.N)) g_int rfl (hn := ?_)
      refine bk h fun x19 e19 h => ?_
      refine LWo.vcall rfl rfl (c_spec_l1Less _ _ _ e19) (.same (.same (.nil))) (hn := ?_)
      refine bk h fun x20 e20 h => ?_
      refine LWo.int _ rfl rfl (mul_ck e20) (hn := ?_)
      refine bk h fun x21 e21 h => ?_
      refine LWo.int _ rfl rfl (sub_ck e21) (hn := ?_)
      refine LWo.assign (e_int x21) rfl (hn := ?_)
      refine LWo.nil (hN18 _ ?_)
      obtain rfl := Option.some.inj h
      refine LWP.ret (QG.mk (.inr rfl) (.cons (.tmp (x := (e_int x21)) rfl) (.nil)) (RetOK.one0 (.pure rfl) (by decide)) rfl rfl)
     ·have h := bF h17 h
      refine LWP.skip (hN9 _ ?_)
      refine LWP.seq_k fun N22 hN22 => ?_
      refine LWP.region (l := [_,_,_,_,_,_]) ?_
      refine LWo.fieldAddr _ u_impl_Value rfl s_string rfl rfl (hn := ?_)
      refine LWo.load1 (c := (e_string t2.S)) g_string rfl (hn := ?_)
      refine LWo.fieldAddr _ u_impl_Value rfl s_string rfl rfl (hn := ?_)
      refine LWo.load1 (c := (e_string t3.S)) g_string rfl (hn := ?_)
      refine bk h fun x23 e23 h => ?_
      refine LWo.vcall rfl rfl (c_spec_l1Cmp _ _ _ e23) (.same (.same (.nil))) (hn := ?_)
      refine LWo.assign (e_int x23) rfl (hn := ?_)
      refine LWo.nil (hN22 _ ?_)
      obtain rfl := Option.some.inj h
      refine LWP.ret (QG.mk (.inr rfl) (.cons (.tmp (x := (e_int x23)) rfl) (.nil)) (RetOK.one0 (.pure rfl) (by decide)) rfl rfl)
  ·intro N3 hN3
   refine LWP.region (l := [_,_,_,_,_,_,_,_]) ?_
   refine LWo.loadN ((e_impl_Value a0)).cells g_impl_Value s_impl_Value rfl (Nat.le_of_ble_eq_true rfl) rfl (hn := ?_)
   refine bk h fun x4 e4 h => ?_
   refine LWo.vcall rfl rfl (c_spec_ValueOk _ _ e4) (.same (.nil)) (hn := ?_)
   refine LWo.not rfl (hn := ?_)
   refine LWo.move (e_bool (!x4)) rfl (hn := ?_)
   refine LWo.byCases (t := 8) _ rfl (fun h5 => ?_) (fun h5 => ?_)
   ·have h := bT h5 h
    refine LWo.guardNU (t := 8) rfl h5 rfl rfl rfl rfl rfl ?_
    refine LWo.guardNU (t := 8) rfl h5 rfl rfl rfl rfl rfl ?_
    refine LWo.guardNU (t := 8) rfl h5 rfl rfl rfl rfl rfl ?_
    refine LWo.pickTM (e_bool true) rfl h5 rfl (hn := ?_)
    refine LWo.nil (hN3 (a0, a1, true) _ ⟨rfl, rfl, rfl, trivial⟩ trivial h)
   ·have h := bF h5 h
    refine LWo.guardY (t := 8) rfl h5 rfl rfl ?_
    refine LWo.loadN ((e_impl_Value a1)).cells g_impl_Value s_impl_Value rfl (Nat.le_of_ble_eq_true rfl) rfl (hn := ?_)
    refine bk h fun x6 e6 h => ?_
    refine LWo.guardY (t := 8) rfl h5 rfl rfl ?_
    refine LWo.vcall rfl rfl (c_spec_ValueOk _ _ e6) (.same (.nil)) (hn := ?_)
    refine LWo.guardY (t := 8) rfl h5 rfl rfl ?_
    refine LWo.not rfl (hn := ?_)
    refine LWo.pickFM (e_bool (!x6)) rfl h5 rfl (hn := ?_)
    refine LWo.nil (hN3 (a0, a1, (!x6)) _ ⟨rfl, rfl, rfl, trivial⟩ trivial h)

def m_spec_l2Bool (a0 : Bool) : Option Int :=
  bif a0 then (some (1 : Int))
  else (some (0 : Int))
theorem c_spec_l2Bool (a0 : Bool) (r : Int) (h : m_spec_l2Bool a0 = some r) : Ret Try.prog f_spec_l2Bool [e_bool a0] (e_int r) := by
  refine Does.goG [] F_spec_l2Bool rfl e_spec_l2Bool n_spec_l2Bool rfl (rvs := [.tmp 2]) rfl rfl ?_
  intro w0 ok0 lent ρ0
  refine LWP.seq_k fun N1 hN1 => ?_
  refine LWP.region (l := [_]) ?_
  refine LWo.assign (e_int (0 : Int)) rfl (hn := ?_)
  refine LWo.nil (hN1 _ ?_)
  refine LWP.seq_k fun N2 hN2 => ?_
  refine LWP.seq_k fun N3 hN3 => ?_
  refine LWP.region (l := [_]) ?_
  refine LWo.move (e_bool a0) rfl (hn := ?_)
  refine LWo.nil (hN3 _ ?_)
  refine LWP.cond_split rfl (fun h4 => ?_) (fun h4 => ?_)
  ·have h := bT h4 h
   refine LWP.seq_k fun N5 hN5 => ?_
   refine LWP.region (l := [_]) ?_
   refine LWo.assign (e_int (1 : Int)) rfl (hn := ?_)
   refine LWo.nil (hN5 _ ?_)
   obtain rfl := Option.some.inj h
   refine LWP.ret (QG.mk (.inr rfl) (.cons (.tmp (x := (e_int (1 : Int))) rfl) (.nil)) (RetOK.one0 (.pure rfl) (by decide)) rfl rfl)
  ·have h := bF h4 h
   refine LWP.skip (hN2 _ ?_)
   refine LWP.seq_k fun N6 hN6 => ?_
   refine LWP.region (l := [_]) ?_
   refine LWo.assign (e_int (0 : Int)) rfl (hn := ?_)
   refine LWo.nil (hN6 _ ?_)
   obtain rfl := Option.some.inj h
   refine LWP.ret (QG.mk (.inr rfl) (.cons (.tmp (x := (e_int (0 : Int))) rfl) (.nil)) (RetOK.one0 (.pure rfl) (by decide)) rfl rfl)

def m_spec_Compare_j2 (t0 : Int) (t4 : S_impl_Value) (t5 : S_impl_Value) (t21 : Bool) : Option Int :=
  bif t21 then (some (2 : Int))
  else (bif (t4.Kind != t5.Kind) then (some (-1 : Int))
    else (bif (t0 == (1 : Int)) then ((m_spec_ValueOrder t4 t5).bind fun x21 =>
        (m_spec_l2Bool (x21 == (0 : Int))).bind fun x22 =>
        some x22)
      else (bif (t0 == (2 : Int)) then ((m_spec_ValueOrder t4 t5).bind fun x26 =>
          (m_spec_l2Bool (x26 != (0 : Int))).bind fun x27 =>
          some x27)
        else (bif (t0 == (3 : Int)) then ((m_spec_ValueOrder t4 t5).bind fun x31 =>
            (m_spec_l2Bool (decide (x31 < (0 : Int)))).bind fun x32 =>
            some x32)
          else ((m_spec_ValueOrder t4 t5).bind fun x34 =>
  (m_spec_l2Bool (decide (x34 ≤ (0 : Int)))).bind fun x35 =>
  some x35)))))
def m_spec_Compare_j1 (t0 : Int) (t4 : S_impl_Value) (t5 : S_impl_Value) (t7 : Bool) : Option Int :=
  bif t7 then (some (-1 : Int))
  else (bif (t4.Kind == (0 : Int)) then (m_spec_Compare_j2  t0 t4 t5 true)
    else (m_spec_Compare_j2  t0 t4 t5 (t5.Kind == (0 : Int))))
def m_spec_Compare (a0 : Int) (a1 : S_impl_Value) (a2 : S_impl_Value) : Option Int :=
  (m_spec_l1In a0 (1 : Int) (4 : Int)).bind fun x4 =>
  bif (!x4) then (m_spec_Compare_j1  a0 a1 a2 true)
  else ((m_spec_ValueOk a1).bind fun x6 =>
    bif (!x6) then (m_spec_Compare_j1  a0 a1 a2 true)
    else ((m_spec_ValueOk a2).bind fun x8 =>
      m_spec_Compare_j1  a0 a1 a2 (!x8)))
theorem c_spec_Compare (a0 : Int) (a1 : S_impl_Value) (a2 : S_impl_Value) (r : Int) (h : m_spec_Compare a0 a1 a2 = some r) : Ret Try.prog f_spec_Compare [e_int a0, e_impl_Value a1, e_impl_Value a2] (e_int r) := by
  refine Does.goG [] F_spec_Compare rfl e_spec_Compare n_spec_Compare rfl (rvs := [.tmp 6]) rfl rfl ?_
  intro w0 ok0 lent ρ0
  refine LWP.seq_k fun N1 hN1 => ?_
  refine LWP.region (l := [_,_,_]) ?_
  refine LWo.boxF (e_impl_Value a1) rfl rfl rfl (hn := ?_)
  refine LWo.boxF (e_impl_Value a2) rfl rfl rfl (hn := ?_)
  refine LWo.assign (e_int (0 : Int)) rfl (hn := ?_)
  refine LWo.nil (hN1 _ ?_)
  refine LWP.seq_k fun N2 hN2 => ?_
  refine LWP.block ?_
  refine LWP.join (α := Int × S_impl_Value × S_impl_Value × Bool) (fun z : Int × S_impl_Value × S_impl_Value × Bool => [(0, (e_int z.1)), (4, (.fp (e_impl_Value z.2.1).cells)), (5, (.fp (e_impl_Value z.2.2.1).cells)), (7, (e_bool z.2.2.2))]) (fun z : Int × S_impl_Value × S_impl_Value × Bool => []) (fun z : Int × S_impl_Value × S_impl_Value × Bool => m_spec_Compare_j1  z.1 z.2.1 z.2.2.1 z.2.2.2) r (fun _ => by simp [hkeys]) ?_ ?_
  ·rintro ⟨t0, t4, t5, t7⟩ h
   replace h : m_spec_Compare_j1  t0 t4 t5 t7 = some _ := h
   refine LWP.cond_split rfl (fun h9 => ?_) (fun h9 => ?_)
   ·have h := bT h9 h
    refine LWP.seq_k fun N10 hN10 => ?_
    refine LWP.region (l := [_]) ?_
    refine LWo.assign (e_int (-1 : Int)) rfl (hn := ?_)
    refine LWo.nil (hN10 _ ?_)
    obtain rfl := Option.some.inj h
    refine LWP.ret (QG.mk (.inr rfl) (.cons (.tmp (x := (e_int (-1 : Int))) rfl) (.nil)) (RetOK.one0 (.pure rfl) (by decide)) rfl rfl)
   ·have h := bF h9 h
    refine LWP.join (α := Int × S_impl_Value × S_impl_Value × Bool) (fun z : Int × S_impl_Value × S_impl_Value × Bool => [(0, (e_int z.1)), (4, (.fp (e_impl_Value z.2.1).cells)), (5, (.fp (e_impl_Value z.2.2.1).cells)), (21, (e_bool z.2.2.2))]) (fun z : Int × S_impl_Value × S_impl_Value × Bool => []) (fun z : Int × S_impl_Value × S_impl_Value × Bool => m_spec_Compare_j2  z.1 z.2.1 z.2.2.1 z.2.2.2) r (fun _ => by simp [hkeys]) ?_ ?_
    ·rintro ⟨t0, t4, t5, t21⟩ h
     replace h : m_spec_Compare_j2  t0 t4 t5 t21 = some _ := h
     refine LWP.cond_split rfl (fun h13 => ?_) (fun h13 => ?_)
     ·have h := bT h13 h
      refine LWP.seq_k fun N14 hN14 => ?_
      refine LWP.region (l := [_]) ?_
      refine LWo.assign (e_int (2 : Int)) rfl (hn := ?_)
      refine LWo.nil (hN14 _ ?_)
      obtain rfl := Option.some.inj h
      refine LWP.ret (QG.mk (.inr rfl) (.cons (.tmp (x := (e_int (2 : Int))) rfl) (.nil)) (RetOK.one0 (.pure rfl) (by decide)) rfl rfl)
     ·have h := bF h13 h
      refine LWP.seq_k fun N15 hN15 => ?_
      refine LWP.region (l := [_,_,_,_,_,_]) ?_
      refine LWo.fieldAddr _ u_impl_Value rfl s_int rfl rfl (hn := ?_)
      refine LWo.load1 (c := (e_int t4.Kind)) g_int rfl (hn := ?_)
      refine LWo.fieldAddr _ u_impl_Value rfl s_int rfl rfl (hn := ?_)
      refine LWo.load1 (c := (e_int t5.Kind)) g_int rfl (hn := ?_)
      refine LWo.int _ rfl rfl rfl (hn := ?_)
      refine LWo.assign (e_bool (t4.Kind != t5.Kind)) rfl (hn := ?_)
      refine LWo.nil (hN15 _ ?_)
      refine LWP.cond_split rfl (fun h16 => ?_) (fun h16 => ?_)
      ·have h := bT h16 h
       refine LWP.seq_k fun N17 hN17 => ?_
       refine LWP.region (l := [_]) ?_
       refine LWo.assign (e_int (-1 : Int)) rfl (hn := ?_)
       refine LWo.nil (hN17 _ ?_)
       obtain rfl := Option.some.inj h
       refine LWP.ret (QG.mk (.inr rfl) (.cons (.tmp (x := (e_int (-1 : Int))) rfl) (.nil)) (RetOK.one0 (.pure rfl) (by decide)) rfl rfl)
      ·have h := bF h16 h
       refine LWP.seq_k fun N18 hN18 => ?_
       refine LWP.region (l := [_,_,_]) ?_
       refine LWo.move (e_int t0) rfl (hn := ?_)
       refine LWo.int _ rfl rfl rfl (hn := ?_)
       refine LWo.assign (e_bool (t0 == (1 : Int))) rfl (hn := ?_)
       refine LWo.nil (hN18 _ ?_)
       refine LWP.cond_split rfl (fun h19 => ?_) (fun h19 => ?_)
       ·have h := bT h19 h
        refine LWP.seq_k fun N20 hN20 => ?_
        refine LWP.region (l := [_,_,_,_,_,_]) ?_
        refine LWo.loadN ((e_impl_Value t4)).cells g_impl_Value s_impl_Value rfl (Nat.le_of_ble_eq_true rfl) rfl (hn := ?_)
        refine LWo.loadN ((e_impl_Value t5)).cells g_impl_Value s_impl_Value rfl (Nat.le_of_ble_eq_true rfl) rfl (hn := ?_)
        refine bk h fun x21 e21 h => ?_
        refine LWo.vcall rfl rfl (c_spec_ValueOrder _ _ _ e21) (.same (.same (.nil))) (hn := ?_)
        refine LWo.int _ rfl rfl rfl (hn := ?_)
        refine bk h fun x22 e22 h => ?_
        refine LWo.vcall rfl rfl (c_spec_l2Bool _ _ e22) (.same (.nil)) (hn := ?_)
        refine LWo.assign (e_int x22) rfl (hn := ?_)
        refine LWo.nil (hN20 _ ?_)
        obtain rfl := Option.some.inj h
        refine LWP.ret (QG.mk (.inr rfl) (.cons (.tmp (x := (e_int x22)) rfl) (.nil)) (RetOK.one0 (.pure rfl) (by decide)) rfl rfl)
       ·have h := bF h19 h
        refine LWP.seq_k fun N23 hN23 => ?_
        refine LWP.region (l := [_,_,_]) ?_
        refine LWo.move (e_int t0) rfl (hn := ?_)
        refine LWo.int _ rfl rfl rfl (hn := ?_)
        refine LWo.assign (e_bool (t0 == (2 : Int))) rfl (hn := ?_)
        refine LWo.nil (hN23 _ ?_)
        refine LWP.cond_split rfl (fun h24 => ?_) (fun h24 => ?_)
        ·have h := bT h24 h
         refine LWP.seq_k fun N25 hN25 => ?_
         refine LWP.region (l := [_,_,_,_,_,_]) ?_
         refine LWo.loadN ((e_impl_Value t4)).cells g_impl_Value s_impl_Value rfl (Nat.le_of_ble_eq_true rfl) rfl (hn := ?_)
         refine LWo.loadN ((e_impl_Value t5)).cells g_impl_Value s_impl_Value rfl (Nat.le_of_ble_eq_true rfl) rfl (hn := ?_)
         refine bk h fun x26 e26 h => ?_
         refine LWo.vcall rfl rfl (c_spec_ValueOrder _ _ _ e26) (.same (.same (.nil))) (hn := ?_)
         refine LWo.int _ rfl rfl rfl (hn := ?_)
         refine bk h fun x27 e27 h => ?_
         refine LWo.vcall rfl rfl (c_spec_l2Bool _ _ e27) (.same (.nil)) (hn := ?_)
         refine LWo.assign (e_int x27) rfl (hn := ?_)
         refine LWo.nil (hN25 _ ?_)
         obtain rfl := Option.some.inj h
         refine LWP.ret (QG.mk (.inr rfl) (.cons (.tmp (x := (e_int x27)) rfl) (.nil)) (RetOK.one0 (.pure rfl) (by decide)) rfl rfl)
        ·have h := bF h24 h
         refine LWP.seq_k fun N28 hN28 => ?_
         refine LWP.region (l := [_,_,_]) ?_
         refine LWo.move (e_int t0) rfl (hn := ?_)
         refine LWo.int _ rfl rfl rfl (hn := ?_)
         refine LWo.assign (e_bool (t0 == (3 : Int))) rfl (hn := ?_)
         refine LWo.nil (hN28 _ ?_)
         refine LWP.cond_split rfl (fun h29 => ?_) (fun h29 => ?_)
         ·have h := bT h29 h
          refine LWP.seq_k fun N30 hN30 => ?_
          refine LWP.region (l := [_,_,_,_,_,_]) ?_
          refine LWo.loadN ((e_impl_Value t4)).cells g_impl_Value s_impl_Value rfl (Nat.le_of_ble_eq_true rfl) rfl (hn := ?_)
          refine LWo.loadN ((e_impl_Value t5)).cells g_impl_Value s_impl_Value rfl (Nat.le_of_ble_eq_true rfl) rfl (hn := ?_)
          refine bk h fun x31 e31 h => ?_
          refine LWo.vcall rfl rfl (c_spec_ValueOrder _ _ _ e31) (.same (.same (.nil))) (hn := ?_)
          refine LWo.int _ rfl rfl rfl (hn := ?_)
          refine bk h fun x32 e32 h => ?_
          refine LWo.vcall rfl rfl (c_spec_l2Bool _ _ e32) (.same (.nil)) (hn := ?_)
          refine LWo.assign (e_int x32) rfl (hn := ?_)
          refine LWo.nil (hN30 _ ?_)
          obtain rfl := Option.some.inj h
          refine LWP.ret (QG.mk (.inr rfl) (.cons (.tmp (x := (e_int x32)) rfl) (.nil)) (RetOK.one0 (.pure rfl) (by decide)) rfl rfl)
         ·have h := bF h29 h
          refine LWP.skip (hN2 _ ?_)
          refine LWP.seq_k fun N33 hN33 => ?_
          refine LWP.region (l := [_,_,_,_,_,_]) ?_
          refine LWo.loadN ((e_impl_Value t4)).cells g_impl_Value s_impl_Value rfl (Nat.le_of_ble_eq_true rfl) rfl (hn := ?_)
          refine LWo.loadN ((e_impl_Value t5)).cells g_impl_Value s_impl_Value rfl (Nat.le_of_ble_eq_true rfl) rfl (hn := ?_)
          refine bk h fun x34 e34 h => ?_
          refine LWo.vcall rfl rfl (c_spec_ValueOrder _ _ _ e34) (.same (.same (.nil))) (hn := ?_)
          refine LWo.int _ rfl rfl rfl (hn := ?_)
          refine bk h fun x35 e35 h => ?_
          refine LWo.vcall rfl rfl (c_spec_l2Bool _ _ e35) (.same (.nil)) (hn := ?_)
          refine LWo.assign (e_int x35) rfl (hn := ?_)
          refine LWo.nil (hN33 _ ?_)
          obtain rfl := Option.some.inj h
          refine LWP.ret (QG.mk (.inr rfl) (.cons (.tmp (x := (e_int x35)) rfl) (.nil)) (RetOK.one0 (.pure rfl) (by decide)) rfl rfl)
    ·intro N11 hN11
     refine LWP.region (l := [_,_,_,_,_,_,_,_,_]) ?_
     refine LWo.fieldAddr _ u_impl_Value rfl s_int rfl rfl (hn := ?_)
     refine LWo.load1 (c := (e_int t4.Kind)) g_int rfl (hn := ?_)
     refine LWo.int _ rfl rfl rfl (hn := ?_)
     refine LWo.move (e_bool (t4.Kind == (0 : Int))) rfl (hn := ?_)
     refine LWo.byCases (t := 25) _ rfl (fun h12 => ?_) (fun h12 => ?_)
     ·have h := bT h12 h
      refine LWo.guardNU (t := 25) rfl h12 rfl rfl rfl rfl rfl ?_
      refine LWo.guardNU (t := 25) rfl h12 rfl rfl rfl rfl rfl ?_
      refine LWo.guardNU (t := 25) rfl h12 rfl rfl rfl rfl rfl ?_
      refine LWo.pickTM (e_bool true) rfl h12 rfl (hn := ?_)
      refine LWo.assign (e_bool true) rfl (hn := ?_)
      refine LWo.nil (hN11 (t0, t4, t5, true) _ ⟨rfl, rfl, rfl, rfl, trivial⟩ trivial h)
     ·have h := bF h12 h
      refine LWo.guardY (t := 25) rfl h12 rfl rfl ?_
      refine LWo.fieldAddr _ u_impl_Value rfl s_int rfl rfl (hn := ?_)
      refine LWo.guardY (t := 25) rfl h12 rfl rfl ?_
      refine LWo.load1 (c := (e_int t5.Kind)) g_int rfl (hn := ?_)
      refine LWo.guardY (t := 25) rfl h12 rfl rfl ?_
      refine LWo.int _ rfl rfl rfl (hn := ?_)
      refine LWo.pickFM (e_bool (t5.Kind == (0 : Int))) rfl h12 rfl (hn := ?_)
      refine LWo.assign (e_bool (t5.Kind == (0 : Int))) rfl (hn := ?_)
      refine LWo.nil (hN11 (t0, t4, t5, (t5.Kind == (0 : Int))) _ ⟨rfl, rfl, rfl, rfl, trivial⟩ trivial h)
  ·intro N3 hN3
   refine LWP.region (l := [_,_,_,_,_,_,_,_,_,_,_,_,_,_]) ?_
   refine LWo.move (e_int a0) rfl (hn := ?_)
   refine bk h fun x4 e4 h => ?_
   refine LWo.vcall rfl rfl (c_spec_l1In _ _ _ _ e4) (.same (.same (.same (.nil)))) (hn := ?_)
   refine LWo.not rfl (hn := ?_)
   refine LWo.move (e_bool (!x4)) rfl (hn := ?_)
   refine LWo.byCases (t := 11) _ rfl (fun h5 => ?_) (fun h5 => ?_)
   ·have h := bT h5 h
    refine LWo.guardNU (t := 11) rfl h5 rfl rfl rfl rfl rfl ?_
    refine LWo.guardNU (t := 11) rfl h5 rfl rfl rfl rfl rfl ?_
    refine LWo.guardNU (t := 11) rfl h5 rfl rfl rfl rfl rfl ?_
    refine LWo.pickTM (e_bool true) rfl h5 rfl (hn := ?_)
    refine LWo.move (e_bool true) rfl (hn := ?_)
    refine LWo.guardNU (t := 16) rfl rfl rfl rfl rfl rfl rfl ?_
    refine LWo.guardNU (t := 16) rfl rfl rfl rfl rfl rfl rfl ?_
    refine LWo.guardNU (t := 16) rfl rfl rfl rfl rfl rfl rfl ?_
    refine LWo.pickTM (e_bool true) rfl rfl rfl (hn := ?_)
    refine LWo.assign (e_bool true) rfl (hn := ?_)
    refine LWo.nil (hN3 (a0, a1, a2, true) _ ⟨rfl, rfl, rfl, rfl, trivial⟩ trivial h)
   ·have h := bF h5 h
    refine LWo.guardY (t := 11) rfl h5 rfl rfl ?_
    refine LWo.loadN ((e_impl_Value a1)).cells g_impl_Value s_impl_Value rfl (Nat.le_of_ble_eq_true rfl) rfl (hn := ?_)
    refine bk h fun x6 e6 h => ?_
    refine LWo.guardY (t := 11) rfl h5 rfl rfl ?_
    refine LWo.vcall rfl rfl (c_spec_ValueOk _ _ e6) (.same (.nil)) (hn := ?_)
    refine LWo.guardY (t := 11) rfl h5 rfl rfl ?_
    refine LWo.not rfl (hn := ?_)
    refine LWo.pickFM (e_bool (!x6)) rfl h5 rfl (hn := ?_)
    refine LWo.move (e_bool (!x6)) rfl (hn := ?_)
    refine LWo.byCases (t := 16) _ rfl (fun h7 => ?_) (fun h7 => ?_)
    ·have h := bT h7 h
     refine LWo.guardNU (t := 16) rfl h7 rfl rfl rfl rfl rfl ?_
     refine LWo.guardNU (t := 16) rfl h7 rfl rfl rfl rfl rfl ?_
     refine LWo.guardNU (t := 16) rfl h7 rfl rfl rfl rfl rfl ?_
     refine LWo.pickTM (e_bool true) rfl h7 rfl (hn := ?_)
     refine LWo.assign (e_bool true) rfl (hn := ?_)
     refine LWo.nil (hN3 (a0, a1, a2, true) _ ⟨rfl, rfl, rfl, rfl, trivial⟩ trivial h)
    ·have h := bF h7 h
     refine LWo.guardY (t := 16) rfl h7 rfl rfl ?_
     refine LWo.loadN ((e_impl_Value a2)).cells g_impl_Value s_impl_Value rfl (Nat.le_of_ble_eq_true rfl) rfl (hn := ?_)
     refine bk h fun x8 e8 h => ?_
     refine LWo.guardY (t := 16) rfl h7 rfl rfl ?_
     refine LWo.vcall rfl rfl (c_spec_ValueOk _ _ e8) (.same (.nil)) (hn := ?_)
     refine LWo.guardY (t := 16) rfl h7 rfl rfl ?_
     refine LWo.not rfl (hn := ?_)
     refine LWo.pickFM (e_bool (!x8)) rfl h7 rfl (hn := ?_)
     refine LWo.assign (e_bool (!x8)) rfl (hn := ?_)
     refine LWo.nil (hN3 (a0, a1, a2, (!x8)) _ ⟨rfl, rfl, rfl, rfl, trivial⟩ trivial h)

def m_spec_ValueOf_j1 (t0 : Int) (t8 : Bool) (o2 : S_impl_Value) : Option S_impl_Value :=
  bif t8 then (lt ((⟨(3 : Int), t0, (⟨#[]⟩ : ByteArray)⟩ : S_impl_Value)) fun y7 =>
    some y7)
  else (lt ((⟨(0 : Int), (0 : Int), (⟨#[]⟩ : ByteArray)⟩ : S_impl_Value)) fun y9 =>
  some y9)
def m_spec_ValueOf (a0 : Int) : Option S_impl_Value :=
  bif (a0 == (0 : Int)) then (m_spec_ValueOf_j1  a0 true (⟨(0 : Int), (0 : Int), (⟨#[]⟩ : ByteArray)⟩ : S_impl_Value))
  else (m_spec_ValueOf_j1  a0 (a0 == (1 : Int)) (⟨(0 : Int), (0 : Int), (⟨#[]⟩ : ByteArray)⟩ : S_impl_Value))
theorem c_spec_ValueOf (a0 : Int) (r : S_impl_Value) (h : m_spec_ValueOf a0 = some r) : Ret Try.prog f_spec_ValueOf [e_int a0] (e_impl_Value r) := by
  refine Does.goG [] F_spec_ValueOf rfl e_spec_ValueOf n_spec_ValueOf rfl (rvs := [.cell 2 t_impl_Value]) rfl rfl ?_
  intro w0 ok0 lent ρ0
  refine LWP.seq_k fun N1 hN1 => ?_
  refine LWP.region (l := [_]) ?_
  refine LWo.alloc_impl_Value 2 rfl (hn := ?_)
  refine LWo.nil (hN1 _ ?_)
  refine LWP.seq_k fun N2 hN2 => ?_
  refine LWP.join (α := Int × Bool × S_impl_Value) (fun z : Int × Bool × S_impl_Value => [(0, (e_int z.1)), (2, (.ptr 2 0 0)), (8, (e_bool z.2.1))]) (fun z : Int × Bool × S_impl_Value => [(2, (vob 3 e_impl_Value z.2.2))]) (fun z : Int × Bool × S_impl_Value => m_spec_ValueOf_j1  z.1 z.2.1 z.2.2) r (fun _ => by simp [hkeys]) ?_ ?_
  ·rintro ⟨t0, t8, o2⟩ h
   replace h : m_spec_ValueOf_j1  t0 t8 o2 = some _ := h
   refine LWP.cond_split rfl (fun h5 => ?_) (fun h5 => ?_)
   ·have h := bT h5 h
    refine LWP.seq_k fun N6 hN6 => ?_
    refine LWP.region (l := [_,_,_]) ?_
    refine LWo.move (e_int t0) rfl (hn := ?_)
    refine LWo.build_impl_Value (parts := [_, _]) (⟨(3 : Int), t0, (⟨#[]⟩ : ByteArray)⟩ : S_impl_Value) rfl rfl rfl .refl (hn := ?_)
    refine lk h fun y7 e7 h => ?_
    refine LWo.storeW (y := o2) y7 s_impl_Value rfl rfl rfl rfl rfl rfl (by rw [e7]; exact .refl) rfl (hn := ?_)
    refine LWo.nil (hN6 _ ?_)
    obtain rfl := Option.some.inj h
    refine LWP.ret (QG.mk (.inr rfl) (.cons (.cellN (ys := (e_impl_Value y7).cells) g_impl_Value s_impl_Value rfl rfl rfl rfl rfl (fun _ _ => rfl)) (.nil)) (RetOK.one0 (.pure rfl) (by decide)) rfl rfl)
   ·have h := bF h5 h
    refine LWP.skip (hN2 _ ?_)
    refine LWP.seq_k fun N8 hN8 => ?_
    refine LWP.region (l := [_,_]) ?_
    refine LWo.build_impl_Value (parts := []) (⟨(0 : Int), (0 : Int), (⟨#[]⟩ : ByteArray)⟩ : S_impl_Value) rfl rfl rfl .refl (hn := ?_)
    refine lk h fun y9 e9 h => ?_
    refine LWo.storeW (y := o2) y9 s_impl_Value rfl rfl rfl rfl rfl rfl (by rw [e9]; exact .refl) rfl (hn := ?_)
    refine LWo.nil (hN8 _ ?_)
    obtain rfl := Option.some.inj h
    refine LWP.ret (QG.mk (.inr rfl) (.cons (.cellN (ys := (e_impl_Value y9).cells) g_impl_Value s_impl_Value rfl rfl rfl rfl rfl (fun _ _ => rfl)) (.nil)) (RetOK.one0 (.pure rfl) (by decide)) rfl rfl)
  ·intro N3 hN3
   refine LWP.region (l := [_,_,_,_,_,_]) ?_
   refine LWo.move (e_int a0) rfl (hn := ?_)
   refine LWo.int _ rfl rfl rfl (hn := ?_)
   refine LWo.move (e_bool (a0 == (0 : Int))) rfl (hn := ?_)
   refine LWo.byCases (t := 5) _ rfl (fun h4 => ?_) (fun h4 => ?_)
   ·have h := bT h4 h
    refine LWo.guardNU (t := 5) rfl h4 rfl rfl rfl rfl rfl ?_
    refine LWo.guardNU (t := 5) rfl h4 rfl rfl rfl rfl rfl ?_
    refine LWo.pickTM (e_bool true) rfl h4 rfl (hn := ?_)
    refine LWo.nil (hN3 (a0, true, (⟨(0 : Int), (0 : Int), (⟨#[]⟩ : ByteArray)⟩ : S_impl_Value)) _ ⟨rfl, rfl, rfl, trivial⟩ ⟨rfl, trivial⟩ h)
   ·have h := bF h4 h
    refine LWo.guardY (t := 5) rfl h4 rfl rfl ?_
    refine LWo.move (e_int a0) rfl (hn := ?_)
    refine LWo.guardY (t := 5) rfl h4 rfl rfl ?_
    refine LWo.int _ rfl rfl rfl (hn := ?_)
    refine LWo.pickFM (e_bool (a0 == (1 : Int))) rfl h4 rfl (hn := ?_)
    refine LWo.nil (hN3 (a0, (a0 == (1 : Int)), (⟨(0 : Int), (0 : Int), (⟨#[]⟩ : ByteArray)⟩ : S_impl_Value)) _ ⟨rfl, rfl, rfl, trivial⟩ ⟨rfl, trivial⟩ h)

def m_spec_TruthOf_j1 (t1 : S_impl_Value) (t3 : Bool) : Option Int :=
  bif t3 then (some (-1 : Int))
  else (bif (t1.Kind == (0 : Int)) then (some (2 : Int))
    else (some t1.N))
def m_spec_TruthOf (a0 : S_impl_Value) : Option Int :=
  (m_spec_ValueOk a0).bind fun x4 =>
  bif (!x4) then (m_spec_TruthOf_j1  a0 true)
  else (bif (a0.Kind == (1 : Int)) then (m_spec_TruthOf_j1  a0 true)
    else (m_spec_TruthOf_j1  a0 (a0.Kind == (2 : Int))))
theorem c_spec_TruthOf (a0 : S_impl_Value) (r : Int) (h : m_spec_TruthOf a0 = some r) : Ret Try.prog f_spec_TruthOf [e_impl_Value a0] (e_int r) := by
  refine Does.goG [] F_spec_TruthOf rfl e_spec_TruthOf n_spec_TruthOf rfl (rvs := [.tmp 2]) rfl rfl ?_
  intro w0 ok0 lent ρ0
  refine LWP.seq_k fun N1 hN1 => ?_
  refine LWP.region (l := [_,_]) ?_
  refine LWo.boxF (e_impl_Value a0) rfl rfl rfl (hn := ?_)
  refine LWo.assign (e_int (0 : Int)) rfl (hn := ?_)
  refine LWo.nil (hN1 _ ?_)
  refine LWP.seq_k fun N2 hN2 => ?_
  refine LWP.block ?_
  refine LWP.join (α := S_impl_Value × Bool) (fun z : S_impl_Value × Bool => [(1, (.fp (e_impl_Value z.1).cells)), (3, (e_bool z.2))]) (fun z : S_impl_Value × Bool => []) (fun z : S_impl_Value × Bool => m_spec_TruthOf_j1  z.1 z.2) r (fun _ => by simp [hkeys]) ?_ ?_
  ·rintro ⟨t1, t3⟩ h
   replace h : m_spec_TruthOf_j1  t1 t3 = some _ := h
   refine LWP.cond_split rfl (fun h7 => ?_) (fun h7 => ?_)
   ·have h := bT h7 h
    refine LWP.seq_k fun N8 hN8 => ?_
    refine LWP.region (l := [_]) ?_
    refine LWo.assign (e_int (-1 : Int)) rfl (hn := ?_)
    refine LWo.nil (hN8 _ ?_)
    obtain rfl := Option.some.inj h
    refine LWP.ret (QG.mk (.inr rfl) (.cons (.tmp (x := (e_int (-1 : Int))) rfl) (.nil)) (RetOK.one0 (.pure rfl) (by decide)) rfl rfl)
   ·have h := bF h7 h
    refine LWP.seq_k fun N9 hN9 => ?_
    refine LWP.region (l := [_,_,_,_]) ?_
    refine LWo.fieldAddr _ u_impl_Value rfl s_int rfl rfl (hn := ?_)
    refine LWo.load1 (c := (e_int t1.Kind)) g_int rfl (hn := ?_)
    refine LWo.int _ rfl rfl rfl (hn := ?_)
    refine LWo.assign (e_bool (t1.Kind == (0 : Int))) rfl (hn := ?_)
    refine LWo.nil (hN9 _ ?_)
    refine LWP.cond_split rfl (fun h10 => ?_) (fun h10 => ?_)
    ·have h := bT h10 h
     refine LWP.seq_k fun N11 hN11 => ?_
     refine LWP.region (l := [_]) ?_
     refine LWo.assign (e_int (2 : Int)) rfl (hn := ?_)
     refine LWo.nil (hN11 _ ?_)
     obtain rfl := Option.some.inj h
     refine LWP.ret (QG.mk (.inr rfl) (.cons (.tmp (x := (e_int (2 : Int))) rfl) (.nil)) (RetOK.one0 (.pure rfl) (by decide)) rfl rfl)
    ·have h := bF h10 h
     refine LWP.skip (hN2 _ ?_)
     refine LWP.seq_k fun N12 hN12 => ?_
     refine LWP.region (l := [_,_,_]) ?_
     refine LWo.fieldAddr _ u_impl_Value rfl s_int rfl rfl (hn := ?_)
     refine LWo.load1 (c := (e_int t1.N)) g_int rfl (hn := ?_)
     refine LWo.assign (e_int t1.N) rfl (hn := ?_)
     refine LWo.nil (hN12 _ ?_)
     obtain rfl := Option.some.inj h
     refine LWP.ret (QG.mk (.inr rfl) (.cons (.tmp (x := (e_int t1.N)) rfl) (.nil)) (RetOK.one0 (.pure rfl) (by decide)) rfl rfl)
  ·intro N3 hN3
   refine LWP.region (l := [_,_,_,_,_,_,_,_,_,_,_,_,_,_]) ?_
   refine LWo.loadN ((e_impl_Value a0)).cells g_impl_Value s_impl_Value rfl (Nat.le_of_ble_eq_true rfl) rfl (hn := ?_)
   refine bk h fun x4 e4 h => ?_
   refine LWo.vcall rfl rfl (c_spec_ValueOk _ _ e4) (.same (.nil)) (hn := ?_)
   refine LWo.not rfl (hn := ?_)
   refine LWo.move (e_bool (!x4)) rfl (hn := ?_)
   refine LWo.byCases (t := 7) _ rfl (fun h5 => ?_) (fun h5 => ?_)
   ·have h := bT h5 h
    refine LWo.guardNU (t := 7) rfl h5 rfl rfl rfl rfl rfl ?_
    refine LWo.guardNU (t := 7) rfl h5 rfl rfl rfl rfl rfl ?_
    refine LWo.guardNU (t := 7) rfl h5 rfl rfl rfl rfl rfl ?_
    refine LWo.pickTM (e_bool true) rfl h5 rfl (hn := ?_)
    refine LWo.move (e_bool true) rfl (hn := ?_)
    refine LWo.guardNU (t := 12) rfl rfl rfl rfl rfl rfl rfl ?_
    refine LWo.guardNU (t := 12) rfl rfl rfl rfl rfl rfl rfl ?_
    refine LWo.guardNU (t := 12) rfl rfl rfl rfl rfl rfl rfl ?_
    refine LWo.pickTM (e_bool true) rfl rfl rfl (hn := ?_)
    refine LWo.assign (e_bool true) rfl (hn := ?_)
    refine LWo.nil (hN3 (a0, true) _ ⟨rfl, rfl, trivial⟩ trivial h)
   ·have h := bF h5 h
    refine LWo.guardY (t := 7) rfl h5 rfl rfl ?_
    refine LWo.fieldAddr _ u_impl_Value rfl s_int rfl rfl (hn := ?_)
    refine LWo.guardY (t := 7) rfl h5 rfl rfl ?_
    refine LWo.load1 (c := (e_int a0.Kind)) g_int rfl (hn := ?_)
    refine LWo.guardY (t := 7) rfl h5 rfl rfl ?_
    refine LWo.int _ rfl rfl rfl (hn := ?_)
    refine LWo.pickFM (e_bool (a0.Kind == (1 : Int))) rfl h5 rfl (hn := ?_)
    refine LWo.move (e_bool (a0.Kind == (1 : Int))) rfl (hn := ?_)
    refine LWo.byCases (t := 12) _ rfl (fun h6 => ?_) (fun h6 => ?_)
    ·have h := bT h6 h
     refine LWo.guardNU (t := 12) rfl h6 rfl rfl rfl rfl rfl ?_
     refine LWo.guardNU (t := 12) rfl h6 rfl rfl rfl rfl rfl ?_
     refine LWo.guardNU (t := 12) rfl h6 rfl rfl rfl rfl rfl ?_
     refine LWo.pickTM (e_bool true) rfl h6 rfl (hn := ?_)
     refine LWo.assign (e_bool true) rfl (hn := ?_)
     refine LWo.nil (hN3 (a0, true) _ ⟨rfl, rfl, trivial⟩ trivial h)
    ·have h := bF h6 h
     refine LWo.guardY (t := 12) rfl h6 rfl rfl ?_
     refine LWo.fieldAddr _ u_impl_Value rfl s_int rfl rfl (hn := ?_)
     refine LWo.guardY (t := 12) rfl h6 rfl rfl ?_
     refine LWo.load1 (c := (e_int a0.Kind)) g_int rfl (hn := ?_)
     refine LWo.guardY (t := 12) rfl h6 rfl rfl ?_
     refine LWo.int _ rfl rfl rfl (hn := ?_)
     refine LWo.pickFM (e_bool (a0.Kind == (2 : Int))) rfl h6 rfl (hn := ?_)
     refine LWo.assign (e_bool (a0.Kind == (2 : Int))) rfl (hn := ?_)
     refine LWo.nil (hN3 (a0, (a0.Kind == (2 : Int))) _ ⟨rfl, rfl, trivial⟩ trivial h)

def m_spec_TruthOk (a0 : Int) : Option Bool :=
  (m_spec_l1In a0 (0 : Int) (2 : Int)).bind fun x3 =>
  some x3
theorem c_spec_TruthOk (a0 : Int) (r : Bool) (h : m_spec_TruthOk a0 = some r) : Ret Try.prog f_spec_TruthOk [e_int a0] (e_bool r) := by
  refine Does.goG [] F_spec_TruthOk rfl e_spec_TruthOk n_spec_TruthOk rfl (rvs := [.tmp 2]) rfl rfl ?_
  intro w0 ok0 lent ρ0
  refine LWP.seq_k fun N1 hN1 => ?_
  refine LWP.region (l := [_]) ?_
  refine LWo.assign (e_bool false) rfl (hn := ?_)
  refine LWo.nil (hN1 _ ?_)
  refine LWP.seq_k fun N2 hN2 => ?_
  refine LWP.region (l := [_,_,_]) ?_
  refine LWo.move (e_int a0) rfl (hn := ?_)
  refine bk h fun x3 e3 h => ?_
  refine LWo.vcall rfl rfl (c_spec_l1In _ _ _ _ e3) (.same (.same (.same (.nil)))) (hn := ?_)
  refine LWo.assign (e_bool x3) rfl (hn := ?_)
  refine LWo.nil (hN2 _ ?_)
  obtain rfl := Option.some.inj h
  refine LWP.ret (QG.mk (.inr rfl) (.cons (.tmp (x := (e_bool x3)) rfl) (.nil)) (RetOK.one0 (.pure rfl) (by decide)) rfl rfl)

def m_spec_l2Sure (a0 : Int) : Option Int :=
  (at? ([(0 : Int), (2 : Int), (1 : Int)] : (List Int)) a0).bind fun x3 =>
  some x3
theorem c_spec_l2Sure (a0 : Int) (r : Int) (h : m_spec_l2Sure a0 = some r) : Ret Try.prog f_spec_l2Sure [e_int a0] (e_int r) := by
  refine Does.goG [] F_spec_l2Sure rfl e_spec_l2Sure n_spec_l2Sure rfl (rvs := [.tmp 2]) rfl rfl ?_
  intro w0 ok0 lent ρ0
  refine LWP.seq_k fun N1 hN1 => ?_
  refine LWP.region (l := [_]) ?_
  refine LWo.assign (e_int (0 : Int)) rfl (hn := ?_)
  refine LWo.nil (hN1 _ ?_)
  refine LWP.seq_k fun N2 hN2 => ?_
  refine LWP.region (l := [_,_,_,_,_]) ?_
  refine LWo.lit (ops := [_, _, _]) [(e_int (0 : Int)), (e_int (2 : Int)), (e_int (1 : Int))] u_Lint s_int z_int rfl rfl rfl rfl rfl rfl (hn := ?_)
  refine LWo.move (e_int a0) rfl (hn := ?_)
  refine bk h fun x3 e3 h => ?_
  refine LWo.indexM (f := e_int) e3 u_Lint s_int rfl rfl (hn := ?_)
  refine LWo.load1 (c := (e_int x3)) g_int rfl (hn := ?_)
  refine LWo.assign (e_int x3) rfl (hn := ?_)
  refine LWo.nil (hN2 _ ?_)
  obtain rfl := Option.some.inj h
  refine LWP.ret (QG.mk (.inr rfl) (.cons (.tmp (x := (e_int x3)) rfl) (.nil)) (RetOK.one0 (.pure rfl) (by decide)) rfl rfl)

def m_spec_AndOf_j1 (t0 : Int) (t1 : Int) (t12 : Bool) : Option Int :=
  bif t12 then (some (-1 : Int))
  else ((m_spec_l2Sure t0).bind fun x10 =>
  (m_spec_l2Sure t1).bind fun x11 =>
  (m_spec_l2Sure (minI x10 x11)).bind fun x12 =>
  some x12)
def m_spec_AndOf (a0 : Int) (a1 : Int) : Option Int :=
  (m_spec_TruthOk a0).bind fun x4 =>
  bif (!x4) then (m_spec_AndOf_j1  a0 a1 true)
  else ((m_spec_TruthOk a1).bind fun x6 =>
    m_spec_AndOf_j1  a0 a1 (!x6))
theorem c_spec_AndOf (a0 : Int) (a1 : Int) (r : Int) (h : m_spec_AndOf a0 a1 = some r) : Ret Try.prog f_spec_AndOf [e_int a0, e_int a1] (e_int r) := by
  refine Does.goG [] F_spec_AndOf rfl e_spec_AndOf n_spec_AndOf rfl (rvs := [.tmp 4]) rfl rfl ?_
  intro w0 ok0 lent ρ0
  refine LWP.seq_k fun N1 hN1 => ?_
  refine LWP.region (l := [_]) ?_
  refine LWo.assign (e_int (0 : Int)) rfl (hn := ?_)
  refine LWo.nil (hN1 _ ?_)
  refine LWP.seq_k fun N2 hN2 => ?_
  refine LWP.join (α := Int × Int × Bool) (fun z : Int × Int × Bool => [(0, (e_int z.1)), (1, (e_int z.2.1)), (12, (e_bool z.2.2))]) (fun z : Int × Int × Bool => []) (fun z : Int × Int × Bool => m_spec_AndOf_j1  z.1 z.2.1 z.2.2) r (fun _ => by simp [hkeys]) ?_ ?_
  ·rintro ⟨t0, t1, t12⟩ h
   replace h : m_spec_AndOf_j1  t0 t1 t12 = some _ := h
   refine LWP.cond_split rfl (fun h7 => ?_) (fun h7 => ?_)
   ·have h := bT h7 h
    refine LWP.seq_k fun N8 hN8 => ?_
    refine LWP.region (l := [_]) ?_
    refine LWo.assign (e_int (-1 : Int)) rfl (hn := ?_)
    refine LWo.nil (hN8 _ ?_)
    obtain rfl := Option.some.inj h
    refine LWP.ret (QG.mk (.inr rfl) (.cons (.tmp (x := (e_int (-1 : Int))) rfl) (.nil)) (RetOK.one0 (.pure rfl) (by decide)) rfl rfl)
   ·have h := bF h7 h
    refine LWP.skip (hN2 _ ?_)
    refine LWP.seq_k fun N9 hN9 => ?_
    refine LWP.region (l := [_,_,_,_,_,_,_]) ?_
    refine LWo.move (e_int t0) rfl (hn := ?_)
    refine bk h fun x10 e10 h => ?_
    refine LWo.vcall rfl rfl (c_spec_l2Sure _ _ e10) (.same (.nil)) (hn := ?_)
    refine LWo.move (e_int t1) rfl (hn := ?_)
    refine bk h fun x11 e11 h => ?_
    refine LWo.vcall rfl rfl (c_spec_l2Sure _ _ e11) (.same (.nil)) (hn := ?_)
    refine LWo.min2 rfl rfl (hn := ?_)
    refine bk h fun x12 e12 h => ?_
    refine LWo.vcall rfl rfl (c_spec_l2Sure _ _ e12) (.same (.nil)) (hn := ?_)
    refine LWo.assign (e_int x12) rfl (hn := ?_)
    refine LWo.nil (hN9 _ ?_)
    obtain rfl := Option.some.inj h
    refine LWP.ret (QG.mk (.inr rfl) (.cons (.tmp (x := (e_int x12)) rfl) (.nil)) (RetOK.one0 (.pure rfl) (by decide)) rfl rfl)
  ·intro N3 hN3
   refine LWP.region (l := [_,_,_,_,_,_,_,_]) ?_
   refine LWo.move (e_int a0) rfl (hn := ?_)
   refine bk h fun x4 e4 h => ?_
   refine LWo.vcall rfl rfl (c_spec_TruthOk _ _ e4) (.same (.nil)) (hn := ?_)
   refine LWo.not rfl (hn := ?_)
   refine LWo.move (e_bool (!x4)) rfl (hn := ?_)
   refine LWo.byCases (t := 8) _ rfl (fun h5 => ?_) (fun h5 => ?_)
   ·have h := bT h5 h
    refine LWo.guardNU (t := 8) rfl h5 rfl rfl rfl rfl rfl ?_
    refine LWo.guardNU (t := 8) rfl h5 rfl rfl rfl rfl rfl ?_
    refine LWo.guardNU (t := 8) rfl h5 rfl rfl rfl rfl rfl ?_
    refine LWo.pickTM (e_bool true) rfl h5 rfl (hn := ?_)
    refine LWo.nil (hN3 (a0, a1, true) _ ⟨rfl, rfl, rfl, trivial⟩ trivial h)
   ·have h := bF h5 h
    refine LWo.guardY (t := 8) rfl h5 rfl rfl ?_
    refine LWo.move (e_int a1) rfl (hn := ?_)
    refine bk h fun x6 e6 h => ?_
    refine LWo.guardY (t := 8) rfl h5 rfl rfl ?_
    refine LWo.vcall rfl rfl (c_spec_TruthOk _ _ e6) (.same (.nil)) (hn := ?_)
    refine LWo.guardY (t := 8) rfl h5 rfl rfl ?_
    refine LWo.not rfl (hn := ?_)
    refine LWo.pickFM (e_bool (!x6)) rfl h5 rfl (hn := ?_)
    refine LWo.nil (hN3 (a0, a1, (!x6)) _ ⟨rfl, rfl, rfl, trivial⟩ trivial h)

def m_spec_OrOf_j1 (t0 : Int) (t1 : Int) (t12 : Bool) : Option Int :=
  bif t12 then (some (-1 : Int))
  else ((m_spec_l2Sure t0).bind fun x10 =>
  (m_spec_l2Sure t1).bind fun x11 =>
  (m_spec_l2Sure (maxI x10 x11)).bind fun x12 =>
  some x12)
def m_spec_OrOf (a0 : Int) (a1 : Int) : Option Int :=
  (m_spec_TruthOk a0).bind fun x4 =>
  bif (!x4) then (m_spec_OrOf_j1  a0 a1 true)
  else ((m_spec_TruthOk a1).bind fun x6 =>
    m_spec_OrOf_j1  a0 a1 (!x6))
theorem c_spec_OrOf (a0 : Int) (a1 : Int) (r : Int) (h : m_spec_OrOf a0 a1 = some r) : Ret Try.prog f_spec_OrOf [e_int a0, e_int a1] (e_int r) := by
  refine Does.goG [] F_spec_OrOf rfl e_spec_OrOf n_spec_OrOf rfl (rvs := [.tmp 4]) rfl rfl ?_
  intro w0 ok0 lent ρ0
  refine LWP.seq_k fun N1 hN1 => ?_
  refine LWP.region (l := [_]) ?_
  refine LWo.assign (e_int (0 : Int)) rfl (hn := ?_)
  refine LWo.nil (hN1 _ ?_)
  refine LWP.seq_k fun N2 hN2 => ?_
  refine LWP.join (α := Int × Int × Bool) (fun z : Int × Int × Bool => [(0, (e_int z.1)), (1, (e_int z.2.1)), (12, (e_bool z.2.2))]) (fun z : Int × Int × Bool => []) (fun z : Int × Int × Bool => m_spec_OrOf_j1  z.1 z.2.1 z.2.2) r (fun _ => by simp [hkeys]) ?_ ?_
  ·rintro ⟨t0, t1, t12⟩ h
   replace h : m_spec_OrOf_j1  t0 t1 t12 = some _ := h
   refine LWP.cond_split rfl (fun h7 => ?_) (fun h7 => ?_)
   ·have h := bT h7 h
    refine LWP.seq_k fun N8 hN8 => ?_
    refine LWP.region (l := [_]) ?_
    refine LWo.assign (e_int (-1 : Int)) rfl (hn := ?_)
    refine LWo.nil (hN8 _ ?_)
    obtain rfl := Option.some.inj h
    refine LWP.ret (QG.mk (.inr rfl) (.cons (.tmp (x := (e_int (-1 : Int))) rfl) (.nil)) (RetOK.one0 (.pure rfl) (by decide)) rfl rfl)
   ·have h := bF h7 h
    refine LWP.skip (hN2 _ ?_)
    refine LWP.seq_k fun N9 hN9 => ?_
    refine LWP.region (l := [_,_,_,_,_,_,_]) ?_
    refine LWo.move (e_int t0) rfl (hn := ?_)
    refine bk h fun x10 e10 h => ?_
    refine LWo.vcall rfl rfl (c_spec_l2Sure _ _ e10) (.same (.nil)) (hn := ?_)
    refine LWo.move (e_int t1) rfl (hn := ?_)
    refine bk h fun x11 e11 h => ?_
    refine LWo.vcall rfl rfl (c_spec_l2Sure _ _ e11) (.same (.nil)) (hn := ?_)
    refine LWo.max2 rfl rfl (hn := ?_)
    refine bk h fun x12 e12 h => ?_
    refine LWo.vcall rfl rfl (c_spec_l2Sure _ _ e12) (.same (.nil)) (hn := ?_)
    refine LWo.assign (e_int x12) rfl (hn := ?_)
    refine LWo.nil (hN9 _ ?_)
    obtain rfl := Option.some.inj h
    refine LWP.ret (QG.mk (.inr rfl) (.cons (.tmp (x := (e_int x12)) rfl) (.nil)) (RetOK.one0 (.pure rfl) (by decide)) rfl rfl)
  ·intro N3 hN3
   refine LWP.region (l := [_,_,_,_,_,_,_,_]) ?_
   refine LWo.move (e_int a0) rfl (hn := ?_)
   refine bk h fun x4 e4 h => ?_
   refine LWo.vcall rfl rfl (c_spec_TruthOk _ _ e4) (.same (.nil)) (hn := ?_)
   refine LWo.not rfl (hn := ?_)
   refine LWo.move (e_bool (!x4)) rfl (hn := ?_)
   refine LWo.byCases (t := 8) _ rfl (fun h5 => ?_) (fun h5 => ?_)
   ·have h := bT h5 h
    refine LWo.guardNU (t := 8) rfl h5 rfl rfl rfl rfl rfl ?_
    refine LWo.guardNU (t := 8) rfl h5 rfl rfl rfl rfl rfl ?_
    refine LWo.guardNU (t := 8) rfl h5 rfl rfl rfl rfl rfl ?_
    refine LWo.pickTM (e_bool true) rfl h5 rfl (hn := ?_)
    refine LWo.nil (hN3 (a0, a1, true) _ ⟨rfl, rfl, rfl, trivial⟩ trivial h)
   ·have h := bF h5 h
    refine LWo.guardY (t := 8) rfl h5 rfl rfl ?_
    refine LWo.move (e_int a1) rfl (hn := ?_)
    refine bk h fun x6 e6 h => ?_
    refine LWo.guardY (t := 8) rfl h5 rfl rfl ?_
    refine LWo.vcall rfl rfl (c_spec_TruthOk _ _ e6) (.same (.nil)) (hn := ?_)
    refine LWo.guardY (t := 8) rfl h5 rfl rfl ?_
    refine LWo.not rfl (hn := ?_)
    refine LWo.pickFM (e_bool (!x6)) rfl h5 rfl (hn := ?_)
    refine LWo.nil (hN3 (a0, a1, (!x6)) _ ⟨rfl, rfl, rfl, trivial⟩ trivial h)

def m_spec_NotOf (a0 : Int) : Option Int :=
  (m_spec_TruthOk a0).bind fun x4 =>
  bif (!x4) then (some (-1 : Int))
  else ((m_spec_l2Sure a0).bind fun x8 =>
  (ckI ((2 : Int) - x8)).bind fun x9 =>
  (m_spec_l2Sure x9).bind fun x10 =>
  some x10)
theorem c_spec_NotOf (a0 : Int) (r : Int) (h : m_spec_NotOf a0 = some r) : Ret Try.prog f_spec_NotOf [e_int a0] (e_int r) := by
  refine Does.goG [] F_spec_NotOf rfl e_spec_NotOf n_spec_NotOf rfl (rvs := [.tmp 2]) rfl rfl ?_
  intro w0 ok0 lent ρ0
  refine LWP.seq_k fun N1 hN1 => ?_
  refine LWP.region (l := [_]) ?_
  refine LWo.assign (e_int (0 : Int)) rfl (hn := ?_)
  refine LWo.nil (hN1 _ ?_)
  refine LWP.seq_k fun N2 hN2 => ?_
  refine LWP.seq_k fun N3 hN3 => ?_
  refine LWP.region (l := [_,_,_]) ?_
  refine LWo.move (e_int a0) rfl (hn := ?_)
  refine bk h fun x4 e4 h => ?_
  refine LWo.vcall rfl rfl (c_spec_TruthOk _ _ e4) (.same (.nil)) (hn := ?_)
  refine LWo.not rfl (hn := ?_)
  refine LWo.nil (hN3 _ ?_)
  refine LWP.cond_split rfl (fun h5 => ?_) (fun h5 => ?_)
  ·have h := bT h5 h
   refine LWP.seq_k fun N6 hN6 => ?_
   refine LWP.region (l := [_]) ?_
   refine LWo.assign (e_int (-1 : Int)) rfl (hn := ?_)
   refine LWo.nil (hN6 _ ?_)
   obtain rfl := Option.some.inj h
   refine LWP.ret (QG.mk (.inr rfl) (.cons (.tmp (x := (e_int (-1 : Int))) rfl) (.nil)) (RetOK.one0 (.pure rfl) (by decide)) rfl rfl)
  ·have h := bF h5 h
   refine LWP.skip (hN2 _ ?_)
   refine LWP.seq_k fun N7 hN7 => ?_
   refine LWP.region (l := [_,_,_,_,_]) ?_
   refine LWo.move (e_int a0) rfl (hn := ?_)
   refine bk h fun x8 e8 h => ?_
   refine LWo.vcall rfl rfl (c_spec_l2Sure _ _ e8) (.same (.nil)) (hn := ?_)
   refine bk h fun x9 e9 h => ?_
   refine LWo.int _ rfl rfl (sub_ck e9) (hn := ?_)
   refine bk h fun x10 e10 h => ?_
   refine LWo.vcall rfl rfl (c_spec_l2Sure _ _ e10) (.same (.nil)) (hn := ?_)
   refine LWo.assign (e_int x10) rfl (hn := ?_)
   refine LWo.nil (hN7 _ ?_)
   obtain rfl := Option.some.inj h
   refine LWP.ret (QG.mk (.inr rfl) (.cons (.tmp (x := (e_int x10)) rfl) (.nil)) (RetOK.one0 (.pure rfl) (by decide)) rfl rfl)

def m_spec_l4Do (a0 : (List S_impl_Value)) (o0 : (List S_impl_Value)) (a2 : S_impl_Part) : Option (List S_impl_Value) :=
  bif (a2.Kind == (1 : Int)) then ((app? o0 ([a2.V] : (List S_impl_Value))).bind fun x8 =>
    some x8)
  else (bif (a2.Kind == (2 : Int)) then ((at? a0 a2.N).bind fun x12 =>
      (app? o0 ([x12] : (List S_impl_Value))).bind fun x13 =>
      some x13)
    else (bif (a2.Kind == (3 : Int)) then ((ckI ((o0.length : Int) - (2 : Int))).bind fun x17 =>
        (rng? (0 : Int) x17 ((o0).length)).bind fun u18 =>
        (ckI ((o0.length : Int) - (2 : Int))).bind fun x19 =>
        (at? o0 x19).bind fun x20 =>
        (at? o0 x19).bind fun x21 =>
        (ckI ((o0.length : Int) - (1 : Int))).bind fun x22 =>
        (at? o0 x22).bind fun x23 =>
        (at? o0 x22).bind fun x24 =>
        (m_spec_l4Sum x21 x24).bind fun x25 =>
        (appT? o0 ((x17).toNat) ([x25] : (List S_impl_Value))).bind fun x26 =>
        some x26)
      else (bif (a2.Kind == (4 : Int)) then ((ckI ((o0.length : Int) - (2 : Int))).bind fun x30 =>
          (rng? (0 : Int) x30 ((o0).length)).bind fun u31 =>
          (ckI ((o0.length : Int) - (2 : Int))).bind fun x32 =>
          (at? o0 x32).bind fun x33 =>
          (at? o0 x32).bind fun x34 =>
          (ckI ((o0.length : Int) - (1 : Int))).bind fun x35 =>
          (at? o0 x35).bind fun x36 =>
          (at? o0 x35).bind fun x37 =>
          (m_spec_Compare a2.N x34 x37).bind fun x38 =>
          (m_spec_ValueOf x38).bind fun x39 =>
          (appT? o0 ((x30).toNat) ([x39] : (List S_impl_Value))).bind fun x40 =>
          some x40)
        else (bif (a2.Kind == (5 : Int)) then ((ckI ((o0.length : Int) - (2 : Int))).bind fun x44 =>
            (rng? (0 : Int) x44 ((o0).length)).bind fun u45 =>
            (ckI ((o0.length : Int) - (2 : Int))).bind fun x46 =>
            (at? o0 x46).bind fun x47 =>
            (at? o0 x46).bind fun x48 =>
            (m_spec_TruthOf x48).bind fun x49 =>
            (ckI ((o0.length : Int) - (1 : Int))).bind fun x50 =>
            (at? o0 x50).bind fun x51 =>
            (at? o0 x50).bind fun x52 =>
            (m_spec_TruthOf x52).bind fun x53 =>
            (m_spec_AndOf x49 x53).bind fun x54 =>
            (m_spec_ValueOf x54).bind fun x55 =>
            (appT? o0 ((x44).toNat) ([x55] : (List S_impl_Value))).bind fun x56 =>
            some x56)
          else (bif (a2.Kind == (6 : Int)) then ((ckI ((o0.length : Int) - (2 : Int))).bind fun x60 =>
              (rng? (0 : Int) x60 ((o0).length)).bind fun u61 =>
              (ckI ((o0.length : Int) - (2 : Int))).bind fun x62 =>
              (at? o0 x62).bind fun x63 =>
              (at? o0 x62).bind fun x64 =>
              (m_spec_TruthOf x64).bind fun x65 =>
              (ckI ((o0.length : Int) - (1 : Int))).bind fun x66 =>
              (at? o0 x66).bind fun x67 =>
              (at? o0 x66).bind fun x68 =>
              (m_spec_TruthOf x68).bind fun x69 =>
              (m_spec_OrOf x65 x69).bind fun x70 =>
              (m_spec_ValueOf x70).bind fun x71 =>
              (appT? o0 ((x60).toNat) ([x71] : (List S_impl_Value))).bind fun x72 =>
              some x72)
            else (bif (a2.Kind == (7 : Int)) then ((ckI ((o0.length : Int) - (1 : Int))).bind fun x76 =>
                (rng? (0 : Int) x76 ((o0).length)).bind fun u77 =>
                (ckI ((o0.length : Int) - (1 : Int))).bind fun x78 =>
                (at? o0 x78).bind fun x79 =>
                (at? o0 x78).bind fun x80 =>
                (m_spec_TruthOf x80).bind fun x81 =>
                (m_spec_NotOf x81).bind fun x82 =>
                (m_spec_ValueOf x82).bind fun x83 =>
                (appT? o0 ((x76).toNat) ([x83] : (List S_impl_Value))).bind fun x84 =>
                some x84)
              else ((ckI ((o0.length : Int) - (1 : Int))).bind fun x86 =>
  (rng? (0 : Int) x86 ((o0).length)).bind fun u87 =>
  (ckI ((o0.length : Int) - (1 : Int))).bind fun x88 =>
  (at? o0 x88).bind fun x89 =>
  (at? o0 x88).bind fun x90 =>
  (m_spec_l2Bool (x90.Kind == (0 : Int))).bind fun x91 =>
  (m_spec_ValueOf x91).bind fun x92 =>
  (appT? o0 ((x86).toNat) ([x92] : (List S_impl_Value))).bind fun x93 =>
  some x93)))))))
theorem c_spec_l4Do (a0 : (List S_impl_Value)) (o0 : (List S_impl_Value)) (a2 : S_impl_Part) (r : (List S_impl_Value)) (h : m_spec_l4Do a0 o0 a2 = some r) : Does Try.prog f_spec_l4Do [e_Limpl_Value a0, .own 0 0 o0.length, e_impl_Part a2] [(0, (lob 3 e_impl_Value o0))] (fun x hh => x = .nw 3 (r.map e_impl_Value) false ∧ hh = []) := by
  refine Does.goG [0] F_spec_l4Do rfl e_spec_l4Do n_spec_l4Do rfl (rvs := [.tmp 6]) rfl rfl ?_
  intro w0 ok0 lent ρ0
  refine LWP.rekey 1 0 1001 rfl rfl rfl rfl rfl rfl ?_
  refine LWP.tell [(0, (e_Limpl_Value a0)), (1, (.own 1001 0 (o0).length)), (2, (e_impl_Part a2))] [(1001, (lob 3 e_impl_Value o0))] ⟨rfl, rfl, rfl, trivial⟩ ⟨rfl, trivial⟩ (by simp [hkeys]) ?_
  refine LWP.seq_k fun N1 hN1 => ?_
  refine LWP.region (l := [_,_]) ?_
  refine LWo.boxF (e_impl_Part a2) rfl rfl rfl (hn := ?_)
  refine LWo.assign _ rfl (hn := ?_)
  refine LWo.ownNil 6 1006 3 rfl rfl rfl ?_
  refine LWo.known 6 (.own 1006 0 ([] : (List S_impl_Value)).length) rfl ?_
  refine LWo.nil (hN1 _ ?_)
  refine LWP.seq_k fun N2 hN2 => ?_
  refine LWP.region (l := [_,_,_]) ?_
  refine LWo.move (.own 1001 0 (o0).length) rfl (hn := ?_)
  refine LWo.lenO u_Limpl_Value rfl (hn := ?_)
  refine LWo.assign (e_int (o0.length : Int)) rfl (hn := ?_)
  refine LWo.nil (hN2 _ ?_)
  refine LWP.seq_k fun N3 hN3 => ?_
  refine LWP.seq_k fun N4 hN4 => ?_
  refine LWP.region (l := [_,_]) ?_
  refine LWo.fieldAddr _ u_impl_Part rfl s_int rfl rfl (hn := ?_)
  refine LWo.load1 (c := (e_int a2.Kind)) g_int rfl (hn := ?_)
  refine LWo.nil (hN4 _ ?_)
  refine LWP.block ?_
  refine LWP.seq_k fun N5 hN5 => ?_
  refine LWP.region (l := [_,_]) ?_
  refine LWo.int _ rfl rfl rfl (hn := ?_)
  refine LWo.assign (e_bool (a2.Kind == (1 : Int))) rfl (hn := ?_)
  refine LWo.nil (hN5 _ ?_)
  refine LWP.cond_split rfl (fun h6 => ?_) (fun h6 => ?_)
  ·have h := bT h6 h
   refine LWP.seq_k fun N7 hN7 => ?_
   refine LWP.region (l := [_,_,_,_,_,_]) ?_
   refine LWo.move (.own 1001 0 (o0).length) rfl (hn := ?_)
   refine LWo.fieldAddr _ u_impl_Part rfl s_impl_Value rfl rfl (hn := ?_)
   refine LWo.loadN ((e_impl_Value a2.V)).cells g_impl_Value s_impl_Value rfl (Nat.le_of_ble_eq_true rfl) rfl (hn := ?_)
   refine LWo.lit (ops := [_]) [(e_impl_Value a2.V)] u_Limpl_Value s_impl_Value z_impl_Value rfl rfl rfl rfl rfl rfl (hn := ?_)
   refine bk h fun x8 e8 h => ?_
   refine LWo.appendM (f := e_impl_Value) e8 rfl u_Limpl_Value u_Limpl_Value (fun _ h => by cases h) s_impl_Value i_impl_Value rfl rfl rfl (.sl rfl) rfl rfl (hn := ?_)
   refine LWo.assign (.own 1001 0 (x8).length) rfl (hn := ?_)
   refine LWo.nil (hN7 _ ?_)
   obtain rfl := Option.some.inj h
   refine LWP.ret (QG.mk (.inr rfl) (.cons (.tmp (x := (.own 1001 0 (x8).length)) rfl) (.nil)) (RetOK.one0 (.nwM rfl rfl) (by decide)) rfl rfl)
  ·have h := bF h6 h
   refine LWP.seq_k fun N9 hN9 => ?_
   refine LWP.region (l := [_,_]) ?_
   refine LWo.int _ rfl rfl rfl (hn := ?_)
   refine LWo.assign (e_bool (a2.Kind == (2 : Int))) rfl (hn := ?_)
   refine LWo.nil (hN9 _ ?_)
   refine LWP.cond_split rfl (fun h10 => ?_) (fun h10 => ?_)
   ·have h := bT h10 h
    refine LWP.seq_k fun N11 hN11 => ?_
    refine LWP.region (l := [_,_,_,_,_,_,_,_,_]) ?_
    refine LWo.move (.own 1001 0 (o0).length) rfl (hn := ?_)
    refine LWo.move (e_Limpl_Value a0) rfl (hn := ?_)
    refine LWo.fieldAddr _ u_impl_Part rfl s_int rfl rfl (hn := ?_)
    refine LWo.load1 (c := (e_int a2.N)) g_int rfl (hn := ?_)
    refine bk h fun x12 e12 h => ?_
    refine LWo.indexM (f := e_impl_Value) e12 u_Limpl_Value s_impl_Value rfl rfl (hn := ?_)
    refine LWo.loadN ((e_impl_Value x12)).cells g_impl_Value s_impl_Value rfl (Nat.le_of_ble_eq_true rfl) rfl (hn := ?_)
    refine LWo.lit (ops := [_]) [(e_impl_Value x12)] u_Limpl_Value s_impl_Value z_impl_Value rfl rfl rfl rfl rfl rfl (hn := ?_)
    refine bk h fun x13 e13 h => ?_
    refine LWo.appendM (f := e_impl_Value) e13 rfl u_Limpl_Value u_Limpl_Value (fun _ h => by cases h) s_impl_Value i_impl_Value rfl rfl rfl (.sl rfl) rfl rfl (hn := ?_)
    refine LWo.assign (.own 1001 0 (x13).length) rfl (hn := ?_)
    refine LWo.nil (hN11 _ ?_)
    obtain rfl := Option.some.inj h
    refine LWP.ret (QG.mk (.inr rfl) (.cons (.tmp (x := (.own 1001 0 (x13).length)) rfl) (.nil)) (RetOK.one0 (.nwM rfl rfl) (by decide)) rfl rfl)
   ·have h := bF h10 h
    refine LWP.seq_k fun N14 hN14 => ?_
    refine LWP.region (l := [_,_]) ?_
    refine LWo.int _ rfl rfl rfl (hn := ?_)
    refine LWo.assign (e_bool (a2.Kind == (3 : Int))) rfl (hn := ?_)
    refine LWo.nil (hN14 _ ?_)
    refine LWP.cond_split rfl (fun h15 => ?_) (fun h15 => ?_)
    ·have h := bT h15 h
     refine LWP.seq_k fun N16 hN16 => ?_
     refine bk h fun x17 e17 h => ?_
     refine bk h fun u18 e18 h => ?_
     refine bk h fun x19 e19 h => ?_
     refine bk h fun x20 e20 h => ?_
     refine bk h fun x21 e21 h => ?_
     refine bk h fun x22 e22 h => ?_
     refine bk h fun x23 e23 h => ?_
     refine bk h fun x24 e24 h => ?_
     refine bk h fun x25 e25 h => ?_
     refine bk h fun x26 e26 h => ?_
     refine LWP.drawF (l := [_,_,_,_,_,_,_,_,_,_,_,_,_,_,_,_,_,_]) [(1001, 1001)] [1, 7] [([1], []), ([7], []), ([32], []), ([31, 33], [1001]), ([1], []), ([7], []), ([36], []), ([35, 37], [1001]), ([38], [1001]), ([1], []), ([7], []), ([41], []), ([40, 42], [1001]), ([43], [1001]), ([39, 44], []), ([45], []), ([34, 46], [1001]), ([47], [])] [6] [1001] mixed (by kernel_rfl) rfl (by decide) ?_
     refine dq 31 rfl (fun _ g u h => LWo.move (.own 1001 0 (o0).length) u.1 (hn := .nil (zn g))) ?_
     refine dq 32 rfl (fun _ g u h => LWo.move (e_int (o0.length : Int)) u.1 (hn := .nil (zn g))) ?_
     refine dq 33 rfl (fun _ g u h => LWo.int _ u.1 rfl (sub_ck e17) (hn := .nil (zn g))) ?_
     refine dq 34 rfl (fun _ g u h => LWo.cutOM e18 u_Limpl_Value s_impl_Value u.1 h.1 rfl ⟨_, u.2.1⟩ (hn := .nil (zn g))) ?_
     refine dq 35 rfl (fun _ g u h => LWo.move (.own 1001 0 (o0).length) u.1 (hn := .nil (zn g))) ?_
     refine dq 36 rfl (fun _ g u h => LWo.move (e_int (o0.length : Int)) u.1 (hn := .nil (zn g))) ?_
     refine dq 37 rfl (fun _ g u h => LWo.int _ u.1 rfl (sub_ck e19) (hn := .nil (zn g))) ?_
     refine dq 38 rfl (fun _ g u h => LWo.indexO e20 rfl u_Limpl_Value s_impl_Value u.1 u.2.1 h.1 (hn := .nil (zn g))) ?_
     refine dq 39 rfl (fun _ g u h => LWo.loadON ((e_impl_Value x21)).cells e21 g_impl_Value s_impl_Value u.1 h.1 rfl rfl (hn := .nil (zn g))) ?_
     refine dq 40 rfl (fun _ g u h => LWo.move (.own 1001 0 (o0).length) u.1 (hn := .nil (zn g))) ?_
     refine dq 41 rfl (fun _ g u h => LWo.move (e_int (o0.length : Int)) u.1 (hn := .nil (zn g))) ?_
     refine dq 42 rfl (fun _ g u h => LWo.int _ u.1 rfl (sub_ck e22) (hn := .nil (zn g))) ?_
     refine dq 43 rfl (fun _ g u h => LWo.indexO e23 rfl u_Limpl_Value s_impl_Value u.1 u.2.1 h.1 (hn := .nil (zn g))) ?_
     refine dq 44 rfl (fun _ g u h => LWo.loadON ((e_impl_Value x24)).cells e24 g_impl_Value s_impl_Value u.1 h.1 rfl rfl (hn := .nil (zn g))) ?_
     refine dq 45 rfl (fun _ g u h => LWo.vcall rfl (av2 u.1 u.2.1) (c_spec_l4Sum _ _ _ e25) (.same (.same (.nil))) (hn := .nil (zn g))) ?_
     refine dq 46 rfl (fun _ g u h => LWo.lit (ops := [_]) [(e_impl_Value x25)] u_Limpl_Value s_impl_Value z_impl_Value (lv1 u.1) rfl rfl rfl rfl rfl (hn := .nil (zn g))) ?_
     refine ⟨rfl, .make 47 _ 1001 _, (by exact (goodC rfl goodN)), fun _ g u h => LWo.appendT (f := e_impl_Value) e26 u_Limpl_Value u_Limpl_Value (fun _ h => by cases h) s_impl_Value i_impl_Value rfl u.1 h.1 (.m (.sl u.2.1)) (lone_of g rfl) rfl (hn := LWo.nil ⟨rfl, .inl rfl, Ef.good_ok (e := .make 47 _ 1001 _) (by exact (goodC rfl goodN)) g⟩), ?_⟩
     refine dq 6 rfl (fun _ g u h => LWo.assign (.own 1001 0 (x26).length) u.1 (hn := .nil (zn g))) ?_
     refine ⟨rfl, by kernel_rfl, hN16 _ ?_⟩
     obtain rfl := Option.some.inj h
     refine LWP.ret (QG.mk (.inr rfl) (.cons (.tmp (x := (.own 1001 0 (x26).length)) rfl) (.nil)) (RetOK.one0 (.nwM rfl rfl) (by decide)) rfl rfl)
    ·have h := bF h15 h
     refine LWP.seq_k fun N27 hN27 => ?_
     refine LWP.region (l := [_,_]) ?_
     refine LWo.int _ rfl rfl rfl (hn := ?_)
     refine LWo.assign (e_bool (a2.Kind == (4 : Int))) rfl (hn := ?_)
     refine LWo.nil (hN27 _ ?_)
     refine LWP.cond_split rfl (fun h28 => ?_) (fun h28 => ?_)
     ·have h := bT h28 h
      refine LWP.seq_k fun N29 hN29 => ?_
      refine bk h fun x30 e30 h => ?_
      refine bk h fun u31 e31 h => ?_
      refine bk h fun x32 e32 h => ?_
      refine bk h fun x33 e33 h => ?_
      refine bk h fun x34 e34 h => ?_
      refine bk h fun x35 e35 h => ?_
      refine bk h fun x36 e36 h => ?_
      refine bk h fun x37 e37 h => ?_
      refine bk h fun x38 e38 h => ?_
      refine bk h fun x39 e39 h => ?_
      refine bk h fun x40 e40 h => ?_
      refine LWP.drawF (l := [_,_,_,_,_,_,_,_,_,_,_,_,_,_,_,_,_,_,_,_,_]) [(1001, 1001)] [1, 5, 7] [([1], []), ([7], []), ([51], []), ([50, 52], [1001]), ([5], []), ([54], []), ([1], []), ([7], []), ([57], []), ([56, 58], [1001]), ([59], [1001]), ([1], []), ([7], []), ([62], []), ([61, 63], [1001]), ([64], [1001]), ([55, 60, 65], []), ([66], []), ([67], []), ([53, 68], [1001]), ([69], [])] [6] [1001] mixed (by kernel_rfl) rfl (by decide) ?_
      refine dq 50 rfl (fun _ g u h => LWo.move (.own 1001 0 (o0).length) u.1 (hn := .nil (zn g))) ?_
      refine dq 51 rfl (fun _ g u h => LWo.move (e_int (o0.length : Int)) u.1 (hn := .nil (zn g))) ?_
      refine dq 52 rfl (fun _ g u h => LWo.int _ u.1 rfl (sub_ck e30) (hn := .nil (zn g))) ?_
      refine dq 53 rfl (fun _ g u h => LWo.cutOM e31 u_Limpl_Value s_impl_Value u.1 h.1 rfl ⟨_, u.2.1⟩ (hn := .nil (zn g))) ?_
      refine dq 54 rfl (fun _ g u h => LWo.fieldAddr _ u_impl_Part rfl s_int u.1 rfl (hn := .nil (zn g))) ?_
      refine dq 55 rfl (fun _ g u h => LWo.load1 (c := (e_int a2.N)) g_int u.1 (hn := .nil (zn g))) ?_
      refine dq 56 rfl (fun _ g u h => LWo.move (.own 1001 0 (o0).length) u.1 (hn := .nil (zn g))) ?_
      refine dq 57 rfl (fun _ g u h => LWo.move (e_int (o0.length : Int)) u.1 (hn := .nil (zn g))) ?_
      refine dq 58 rfl (fun _ g u h => LWo.int _ u.1 rfl (sub_ck e32) (hn := .nil (zn g))) ?_
      refine dq 59 rfl (fun _ g u h => LWo.indexO e33 rfl u_Limpl_Value s_impl_Value u.1 u.2.1 h.1 (hn := .nil (zn g))) ?_
      refine dq 60 rfl (fun _ g u h => LWo.loadON ((e_impl_Value x34)).cells e34 g_impl_Value s_impl_Value u.1 h.1 rfl rfl (hn := .nil (zn g))) ?_
      refine dq 61 rfl (fun _ g u h => LWo.move (.own 1001 0 (o0).length) u.1 (hn := .nil (zn g))) ?_
      refine dq 62 rfl (fun _ g u h => LWo.move (e_int (o0.length : Int)) u.1 (hn := .nil (zn g))) ?_
      refine dq 63 rfl (fun _ g u h => LWo.int _ u.1 rfl (sub_ck e35) (hn := .nil (zn g))) ?_
      refine dq 64 rfl (fun _ g u h => LWo.indexO e36 rfl u_Limpl_Value s_impl_Value u.1 u.2.1 h.1 (hn := .nil (zn g))) ?_
      refine dq 65 rfl (fun _ g u h => LWo.loadON ((e_impl_Value x37)).cells e37 g_impl_Value s_impl_Value u.1 h.1 rfl rfl (hn := .nil (zn g))) ?_
      refine dq 66 rfl (fun _ g u h => LWo.vcall rfl (av3 u.1 u.2.1 u.2.2.1) (c_spec_Compare _ _ _ _ e38) (.same (.same (.same (.nil)))) (hn := .nil (zn g))) ?_
      refine dq 67 rfl (fun _ g u h => LWo.vcall rfl (av1 u.1) (c_spec_ValueOf _ _ e39) (.same (.nil)) (hn := .nil (zn g))) ?_
      refine dq 68 rfl (fun _ g u h => LWo.lit (ops := [_]) [(e_impl_Value x39)] u_Limpl_Value s_impl_Value z_impl_Value (lv1 u.1) rfl rfl rfl rfl rfl (hn := .nil (zn g))) ?_
      refine ⟨rfl, .make 69 _ 1001 _, (by exact (goodC rfl goodN)), fun _ g u h => LWo.appendT (f := e_impl_Value) e40 u_Limpl_Value u_Limpl_Value (fun _ h => by cases h) s_impl_Value i_impl_Value rfl u.1 h.1 (.m (.sl u.2.1)) (lone_of g rfl) rfl (hn := LWo.nil ⟨rfl, .inl rfl, Ef.good_ok (e := .make 69 _ 1001 _) (by exact (goodC rfl goodN)) g⟩), ?_⟩
      refine dq 6 rfl (fun _ g u h => LWo.assign (.own 1001 0 (x40).length) u.1 (hn := .nil (zn g))) ?_
      refine ⟨rfl, by kernel_rfl, hN29 _ ?_⟩
      obtain rfl := Option.some.inj h
      refine LWP.ret (QG.mk (.inr rfl) (.cons (.tmp (x := (.own 1001 0 (x40).length)) rfl) (.nil)) (RetOK.one0 (.nwM rfl rfl) (by decide)) rfl rfl)
     ·have h := bF h28 h
      refine LWP.seq_k fun N41 hN41 => ?_
      refine LWP.region (l := [_,_]) ?_
      refine LWo.int _ rfl rfl rfl (hn := ?_)
      refine LWo.assign (e_bool (a2.Kind == (5 : Int))) rfl (hn := ?_)
      refine LWo.nil (hN41 _ ?_)
      refine LWP.cond_split rfl (fun h42 => ?_) (fun h42 => ?_)
      ·have h := bT h42 h
       refine LWP.seq_k fun N43 hN43 => ?_
       refine bk h fun x44 e44 h => ?_
       refine bk h fun u45 e45 h => ?_
       refine bk h fun x46 e46 h => ?_
       refine bk h fun x47 e47 h => ?_
       refine bk h fun x48 e48 h => ?_
       refine bk h fun x49 e49 h => ?_
       refine bk h fun x50 e50 h => ?_
       refine bk h fun x51 e51 h => ?_
       refine bk h fun x52 e52 h => ?_
       refine bk h fun x53 e53 h => ?_
       refine bk h fun x54 e54 h => ?_
       refine bk h fun x55 e55 h => ?_
       refine bk h fun x56 e56 h => ?_
       refine LWP.drawF (l := [_,_,_,_,_,_,_,_,_,_,_,_,_,_,_,_,_,_,_,_,_]) [(1001, 1001)] [1, 7] [([1], []), ([7], []), ([73], []), ([72, 74], [1001]), ([1], []), ([7], []), ([77], []), ([76, 78], [1001]), ([79], [1001]), ([80], []), ([1], []), ([7], []), ([83], []), ([82, 84], [1001]), ([85], [1001]), ([86], []), ([81, 87], []), ([88], []), ([89], []), ([75, 90], [1001]), ([91], [])] [6] [1001] mixed (by kernel_rfl) rfl (by decide) ?_
       refine dq 72 rfl (fun _ g u h => LWo.move (.own 1001 0 (o0).length) u.1 (hn := .nil (zn g))) ?_
       refine dq 73 rfl (fun _ g u h => LWo.move (e_int (o0.length : Int)) u.1 (hn := .nil (zn g))) ?_
       refine dq 74 rfl (fun _ g u h => LWo.int _ u.1 rfl (sub_ck e44) (hn := .nil (zn g))) ?_
       refine dq 75 rfl (fun _ g u h => LWo.cutOM e45 u_Limpl_Value s_impl_Value u.1 h.1 rfl ⟨_, u.2.1⟩ (hn := .nil (zn g))) ?_
       refine dq 76 rfl (fun _ g u h => LWo.move (.own 1001 0 (o0).length) u.1 (hn := .nil (zn g))) ?_
       refine dq 77 rfl (fun _ g u h => LWo.move (e_int (o0.length : Int)) u.1 (hn := .nil (zn g))) ?_
       refine dq 78 rfl (fun _ g u h => LWo.int _ u.1 rfl (sub_ck e46) (hn := .nil (zn g))) ?_
       refine dq 79 rfl (fun _ g u h => LWo.indexO e47 rfl u_Limpl_Value s_impl_Value u.1 u.2.1 h.1 (hn := .nil (zn g))) ?_
       refine dq 80 rfl (fun _ g u h => LWo.loadON ((e_impl_Value x48)).cells e48 g_impl_Value s_impl_Value u.1 h.1 rfl rfl (hn := .nil (zn g))) ?_
       refine dq 81 rfl (fun _ g u h => LWo.vcall rfl (av1 u.1) (c_spec_TruthOf _ _ e49) (.same (.nil)) (hn := .nil (zn g))) ?_
       refine dq 82 rfl (fun _ g u h => LWo.move (.own 1001 0 (o0).length) u.1 (hn := .nil (zn g))) ?_
       refine dq 83 rfl (fun _ g u h => LWo.move (e_int (o0.length : Int)) u.1 (hn := .nil (zn g))) ?_
       refine dq 84 rfl (fun _ g u h => LWo.int _ u.1 rfl (sub_ck e50) (hn := .nil (zn g))) ?_
       refine dq 85 rfl (fun _ g u h => LWo.indexO e51 rfl u_Limpl_Value s_impl_Value u.1 u.2.1 h.1 (hn := .nil (zn g))) ?_
       refine dq 86 rfl (fun _ g u h => LWo.loadON ((e_impl_Value x52)).cells e52 g_impl_Value s_impl_Value u.1 h.1 rfl rfl (hn := .nil (zn g))) ?_
       refine dq 87 rfl (fun _ g u h => LWo.vcall rfl (av1 u.1) (c_spec_TruthOf _ _ e53) (.same (.nil)) (hn := .nil (zn g))) ?_
       refine dq 88 rfl (fun _ g u h => LWo.vcall rfl (av2 u.1 u.2.1) (c_spec_AndOf _ _ _ e54) (.same (.same (.nil))) (hn := .nil (zn g))) ?_
       refine dq 89 rfl (fun _ g u h => LWo.vcall rfl (av1 u.1) (c_spec_ValueOf _ _ e55) (.same (.nil)) (hn := .nil (zn g))) ?_
       refine dq 90 rfl (fun _ g u h => LWo.lit (ops := [_]) [(e_impl_Value x55)] u_Limpl_Value s_impl_Value z_impl_Value (lv1 u.1) rfl rfl rfl rfl rfl (hn := .nil (zn g))) ?_
       refine ⟨rfl, .make 91 _ 1001 _, (by exact (goodC rfl goodN)), fun _ g u h => LWo.appendT (f := e_impl_Value) e56 u_Limpl_Value u_Limpl_Value (fun _ h => by cases h) s_impl_Value i_impl_Value rfl u.1 h.1 (.m (.sl u.2.1)) (lone_of g rfl) rfl (hn := LWo.nil ⟨rfl, .inl rfl, Ef.good_ok (e := .make 91 _ 1001 _) (by exact (goodC rfl goodN)) g⟩), ?_⟩
       refine dq 6 rfl (fun _ g u h => LWo.assign (.own 1001 0 (x56).length) u.1 (hn := .nil (zn g))) ?_
       refine ⟨rfl, by kernel_rfl, hN43 _ ?_⟩
       obtain rfl := Option.some.inj h
       refine LWP.ret (QG.mk (.inr rfl) (.cons (.tmp (x := (.own 1001 0 (x56).length)) rfl) (.nil)) (RetOK.one0 (.nwM rfl rfl) (by decide)) rfl rfl)
      ·have h := bF h42 h
       refine LWP.seq_k fun N57 hN57 => ?_
       refine LWP.region (l := [_,_]) ?_
       refine LWo.int _ rfl rfl rfl (hn := ?_)
       refine LWo.assign (e_bool (a2.Kind == (6 : Int))) rfl (hn := ?_)
       refine LWo.nil (hN57 _ ?_)
       refine LWP.cond_split rfl (fun h58 => ?_) (fun h58 => ?_)
       ·have h := bT h58 h
        refine LWP.seq_k fun N59 hN59 => ?_
        refine bk h fun x60 e60 h => ?_
        refine bk h fun u61 e61 h => ?_
        refine bk h fun x62 e62 h => ?_
        refine bk h fun x63 e63 h => ?_
        refine bk h fun x64 e64 h => ?_
        refine bk h fun x65 e65 h => ?_
        refine bk h fun x66 e66 h => ?_
        refine bk h fun x67 e67 h => ?_
        refine bk h fun x68 e68 h => ?_
        refine bk h fun x69 e69 h => ?_
        refine bk h fun x70 e70 h => ?_
        refine bk h fun x71 e71 h => ?_
        refine bk h fun x72 e72 h => ?_
        refine LWP.drawF (l := [_,_,_,_,_,_,_,_,_,_,_,_,_,_,_,_,_,_,_,_,_]) [(1001, 1001)] [1, 7] [([1], []), ([7], []), ([95], []), ([94, 96], [1001]), ([1], []), ([7], []), ([99], []), ([98, 100], [1001]), ([101], [1001]), ([102], []), ([1], []), ([7], []), ([105], []), ([104, 106], [1001]), ([107], [1001]), ([108], []), ([103, 109], []), ([110], []), ([111], []), ([97, 112], [1001]), ([113], [])] [6] [1001] mixed (by kernel_rfl) rfl (by decide) ?_
        refine dq 94 rfl (fun _ g u h => LWo.move (.own 1001 0 (o0).length) u.1 (hn := .nil (zn g))) ?_
        refine dq 95 rfl (fun _ g u h => LWo.move (e_int (o0.length : Int)) u.1 (hn := .nil (zn g))) ?_
        refine dq 96 rfl (fun _ g u h => LWo.int _ u.1 rfl (sub_ck e60) (hn := .nil (zn g))) ?_
        refine dq 97 rfl (fun _ g u h => LWo.cutOM e61 u_Limpl_Value s_impl_Value u.1 h.1 rfl ⟨_, u.2.1⟩ (hn := .nil (zn g))) ?_
        refine dq 98 rfl (fun _ g u h => LWo.move (.own 1001 0 (o0).length) u.1 (hn := .nil (zn g))) ?_
        refine dq 99 rfl (fun _ g u h => LWo.move (e_int (o0.length : Int)) u.1 (hn := .nil (zn g))) ?_
        refine dq 100 rfl (fun _ g u h => LWo.int _ u.1 rfl (sub_ck e62) (hn := .nil (zn g))) ?_
        refine dq 101 rfl (fun _ g u h => LWo.indexO e63 rfl u_Limpl_Value s_impl_Value u.1 u.2.1 h.1 (hn := .nil (zn g))) ?_
        refine dq 102 rfl (fun _ g u h => LWo.loadON ((e_impl_Value x64)).cells e64 g_impl_Value s_impl_Value u.1 h.1 rfl rfl (hn := .nil (zn g))) ?_
        refine dq 103 rfl (fun _ g u h => LWo.vcall rfl (av1 u.1) (c_spec_TruthOf _ _ e65) (.same (.nil)) (hn := .nil (zn g))) ?_
        refine dq 104 rfl (fun _ g u h => LWo.move (.own 1001 0 (o0).length) u.1 (hn := .nil (zn g))) ?_
        refine dq 105 rfl (fun _ g u h => LWo.move (e_int (o0.length : Int)) u.1 (hn := .nil (zn g))) ?_
        refine dq 106 rfl (fun _ g u h => LWo.int _ u.1 rfl (sub_ck e66) (hn := .nil (zn g))) ?_
        refine dq 107 rfl (fun _ g u h => LWo.indexO e67 rfl u_Limpl_Value s_impl_Value u.1 u.2.1 h.1 (hn := .nil (zn g))) ?_
        refine dq 108 rfl (fun _ g u h => LWo.loadON ((e_impl_Value x68)).cells e68 g_impl_Value s_impl_Value u.1 h.1 rfl rfl (hn := .nil (zn g))) ?_
        refine dq 109 rfl (fun _ g u h => LWo.vcall rfl (av1 u.1) (c_spec_TruthOf _ _ e69) (.same (.nil)) (hn := .nil (zn g))) ?_
        refine dq 110 rfl (fun _ g u h => LWo.vcall rfl (av2 u.1 u.2.1) (c_spec_OrOf _ _ _ e70) (.same (.same (.nil))) (hn := .nil (zn g))) ?_
        refine dq 111 rfl (fun _ g u h => LWo.vcall rfl (av1 u.1) (c_spec_ValueOf _ _ e71) (.same (.nil)) (hn := .nil (zn g))) ?_
        refine dq 112 rfl (fun _ g u h => LWo.lit (ops := [_]) [(e_impl_Value x71)] u_Limpl_Value s_impl_Value z_impl_Value (lv1 u.1) rfl rfl rfl rfl rfl (hn := .nil (zn g))) ?_
        refine ⟨rfl, .make 113 _ 1001 _, (by exact (goodC rfl goodN)), fun _ g u h => LWo.appendT (f := e_impl_Value) e72 u_Limpl_Value u_Limpl_Value (fun _ h => by cases h) s_impl_Value i_impl_Value rfl u.1 h.1 (.m (.sl u.2.1)) (lone_of g rfl) rfl (hn := LWo.nil ⟨rfl, .inl rfl, Ef.good_ok (e := .make 113 _ 1001 _) (by exact (goodC rfl goodN)) g⟩), ?_⟩
        refine dq 6 rfl (fun _ g u h => LWo.assign (.own 1001 0 (x72).length) u.1 (hn := .nil (zn g))) ?_
        refine ⟨rfl, by kernel_rfl, hN59 _ ?_⟩
        obtain rfl := Option.some.inj h
        refine LWP.ret (QG.mk (.inr rfl) (.cons (.tmp (x := (.own 1001 0 (x72).length)) rfl) (.nil)) (RetOK.one0 (.nwM rfl rfl) (by decide)) rfl rfl)
       ·have h := bF h58 h
        refine LWP.seq_k fun N73 hN73 => ?_
        refine LWP.region (l := [_,_]) ?_
        refine LWo.int _ rfl rfl rfl (hn := ?_)
        refine LWo.assign (e_bool (a2.Kind == (7 : Int))) rfl (hn := ?_)
        refine LWo.nil (hN73 _ ?_)
        refine LWP.cond_split rfl (fun h74 => ?_) (fun h74 => ?_)
        ·have h := bT h74 h
         refine LWP.seq_k fun N75 hN75 => ?_
         refine bk h fun x76 e76 h => ?_
         refine bk h fun u77 e77 h => ?_
         refine bk h fun x78 e78 h => ?_
         refine bk h fun x79 e79 h => ?_
         refine bk h fun x80 e80 h => ?_
         refine bk h fun x81 e81 h => ?_
         refine bk h fun x82 e82 h => ?_
         refine bk h fun x83 e83 h => ?_
         refine bk h fun x84 e84 h => ?_
         refine LWP.drawF (l := [_,_,_,_,_,_,_,_,_,_,_,_,_,_,_]) [(1001, 1001)] [1, 7] [([1], []), ([7], []), ([117], []), ([116, 118], [1001]), ([1], []), ([7], []), ([121], []), ([120, 122], [1001]), ([123], [1001]), ([124], []), ([125], []), ([126], []), ([127], []), ([119, 128], [1001]), ([129], [])] [6] [1001] mixed (by kernel_rfl) rfl (by decide) ?_
         refine dq 116 rfl (fun _ g u h => LWo.move (.own 1001 0 (o0).length) u.1 (hn := .nil (zn g))) ?_
         refine dq 117 rfl (fun _ g u h => LWo.move (e_int (o0.length : Int)) u.1 (hn := .nil (zn g))) ?_
         refine dq 118 rfl (fun _ g u h => LWo.int _ u.1 rfl (sub_ck e76) (hn := .nil (zn g))) ?_
         refine dq 119 rfl (fun _ g u h => LWo.cutOM e77 u_Limpl_Value s_impl_Value u.1 h.1 rfl ⟨_, u.2.1⟩ (hn := .nil (zn g))) ?_
         refine dq 120 rfl (fun _ g u h => LWo.move (.own 1001 0 (o0).length) u.1 (hn := .nil (zn g))) ?_
         refine dq 121 rfl (fun _ g u h => LWo.move (e_int (o0.length : Int)) u.1 (hn := .nil (zn g))) ?_
         refine dq 122 rfl (fun _ g u h => LWo.int _ u.1 rfl (sub_ck e78) (hn := .nil (zn g))) ?_
         refine dq 123 rfl (fun _ g u h => LWo.indexO e79 rfl u_Limpl_Value s_impl_Value u.1 u.2.1 h.1 (hn := .nil (zn g))) ?_
         refine dq 124 rfl (fun _ g u h => LWo.loadON ((e_impl_Value x80)).cells e80 g_impl_Value s_impl_Value u.1 h.1 rfl rfl (hn := .nil (zn g))) ?_
         refine dq 125 rfl (fun _ g u h => LWo.vcall rfl (av1 u.1) (c_spec_TruthOf _ _ e81) (.same (.nil)) (hn := .nil (zn g))) ?_
         refine dq 126 rfl (fun _ g u h => LWo.vcall rfl (av1 u.1) (c_spec_NotOf _ _ e82) (.same (.nil)) (hn := .nil (zn g))) ?_
         refine dq 127 rfl (fun _ g u h => LWo.vcall rfl (av1 u.1) (c_spec_ValueOf _ _ e83) (.same (.nil)) (hn := .nil (zn g))) ?_
         refine dq 128 rfl (fun _ g u h => LWo.lit (ops := [_]) [(e_impl_Value x83)] u_Limpl_Value s_impl_Value z_impl_Value (lv1 u.1) rfl rfl rfl rfl rfl (hn := .nil (zn g))) ?_
         refine ⟨rfl, .make 129 _ 1001 _, (by exact (goodC rfl goodN)), fun _ g u h => LWo.appendT (f := e_impl_Value) e84 u_Limpl_Value u_Limpl_Value (fun _ h => by cases h) s_impl_Value i_impl_Value rfl u.1 h.1 (.m (.sl u.2.1)) (lone_of g rfl) rfl (hn := LWo.nil ⟨rfl, .inl rfl, Ef.good_ok (e := .make 129 _ 1001 _) (by exact (goodC rfl goodN)) g⟩), ?_⟩
         refine dq 6 rfl (fun _ g u h => LWo.assign (.own 1001 0 (x84).length) u.1 (hn := .nil (zn g))) ?_
         refine ⟨rfl, by kernel_rfl, hN75 _ ?_⟩
         obtain rfl := Option.some.inj h
         refine LWP.ret (QG.mk (.inr rfl) (.cons (.tmp (x := (.own 1001 0 (x84).length)) rfl) (.nil)) (RetOK.one0 (.nwM rfl rfl) (by decide)) rfl rfl)
        ·have h := bF h74 h
         refine LWP.skip (hN3 _ ?_)
         refine LWP.seq_k fun N85 hN85 => ?_
         refine bk h fun x86 e86 h => ?_
         refine bk h fun u87 e87 h => ?_
         refine bk h fun x88 e88 h => ?_
         refine bk h fun x89 e89 h => ?_
         refine bk h fun x90 e90 h => ?_
         refine bk h fun x91 e91 h => ?_
         refine bk h fun x92 e92 h => ?_
         refine bk h fun x93 e93 h => ?_
         refine LWP.drawF (l := [_,_,_,_,_,_,_,_,_,_,_,_,_,_,_,_]) [(1001, 1001)] [1, 7] [([1], []), ([7], []), ([131], []), ([130, 132], [1001]), ([1], []), ([7], []), ([135], []), ([134, 136], [1001]), ([137], []), ([138], [1001]), ([139], []), ([140], []), ([141], []), ([142], []), ([133, 143], [1001]), ([144], [])] [6] [1001] mixed (by kernel_rfl) rfl (by decide) ?_
         refine dq 130 rfl (fun _ g u h => LWo.move (.own 1001 0 (o0).length) u.1 (hn := .nil (zn g))) ?_
         refine dq 131 rfl (fun _ g u h => LWo.move (e_int (o0.length : Int)) u.1 (hn := .nil (zn g))) ?_
         refine dq 132 rfl (fun _ g u h => LWo.int _ u.1 rfl (sub_ck e86) (hn := .nil (zn g))) ?_
         refine dq 133 rfl (fun _ g u h => LWo.cutOM e87 u_Limpl_Value s_impl_Value u.1 h.1 rfl ⟨_, u.2.1⟩ (hn := .nil (zn g))) ?_
         refine dq 134 rfl (fun _ g u h => LWo.move (.own 1001 0 (o0).length) u.1 (hn := .nil (zn g))) ?_
         refine dq 135 rfl (fun _ g u h => LWo.move (e_int (o0.length : Int)) u.1 (hn := .nil (zn g))) ?_
         refine dq 136 rfl (fun _ g u h => LWo.int _ u.1 rfl (sub_ck e88) (hn := .nil (zn g))) ?_
         refine dq 137 rfl (fun _ g u h => LWo.indexO e89 rfl u_Limpl_Value s_impl_Value u.1 u.2.1 h.1 (hn := .nil (zn g))) ?_
         refine dq 138 rfl (fun _ g u h => LWo.fieldPtr u_impl_Value rfl s_int u.1 rfl (hn := .nil (zn g))) ?_
         refine dq 139 rfl (fun _ g u h => LWo.loadO1 (e_int x90.Kind) e90 g_int u.1 h.1 rfl (hn := .nil (zn g))) ?_
         refine dq 140 rfl (fun _ g u h => LWo.int _ u.1 rfl rfl (hn := .nil (zn g))) ?_
         refine dq 141 rfl (fun _ g u h => LWo.vcall rfl (av1 u.1) (c_spec_l2Bool _ _ e91) (.same (.nil)) (hn := .nil (zn g))) ?_
         refine dq 142 rfl (fun _ g u h => LWo.vcall rfl (av1 u.1) (c_spec_ValueOf _ _ e92) (.same (.nil)) (hn := .nil (zn g))) ?_
         refine dq 143 rfl (fun _ g u h => LWo.lit (ops := [_]) [(e_impl_Value x92)] u_Limpl_Value s_impl_Value z_impl_Value (lv1 u.1) rfl rfl rfl rfl rfl (hn := .nil (zn g))) ?_
         refine ⟨rfl, .make 144 _ 1001 _, (by exact (goodC rfl goodN)), fun _ g u h => LWo.appendT (f := e_impl_Value) e93 u_Limpl_Value u_Limpl_Value (fun _ h => by cases h) s_impl_Value i_impl_Value rfl u.1 h.1 (.m (.sl u.2.1)) (lone_of g rfl) rfl (hn := LWo.nil ⟨rfl, .inl rfl, Ef.good_ok (e := .make 144 _ 1001 _) (by exact (goodC rfl goodN)) g⟩), ?_⟩
         refine dq 6 rfl (fun _ g u h => LWo.assign (.own 1001 0 (x93).length) u.1 (hn := .nil (zn g))) ?_
         refine ⟨rfl, by kernel_rfl, hN85 _ ?_⟩
         obtain rfl := Option.some.inj h
         refine LWP.ret (QG.mk (.inr rfl) (.cons (.tmp (x := (.own 1001 0 (x93).length)) rfl) (.nil)) (RetOK.one0 (.nwM rfl rfl) (by decide)) rfl rfl)

def m_spec_l4Value_j1 (o4 : S_impl_Value) (o1007 : (List S_impl_Value)) : Option S_impl_Value :=
  (at? o1007 (0 : Int)).bind fun x15 =>
  (at? o1007 (0 : Int)).bind fun x16 =>
  lt (x16) fun y17 =>
  some y17
def m_spec_l4Value_l1 : Nat → (List S_impl_Value) → (List S_impl_Part) → Int → S_impl_Value → (List S_impl_Value) → Option S_impl_Value
  | 0, _, _, _, _, _ => none
  | n1 + 1, t0, t1, t6, o4, o1007 =>
    bif decide (t6 < (t1.length : Int)) then ((at? t1 t6).bind fun x11 =>
    (m_spec_l4Do t0 o1007 x11).bind fun x12 =>
    (ckI (t6 + (1 : Int))).bind fun x13 =>
    (m_spec_l4Value_l1  n1) t0 t1 x13 o4 x12)
    else (m_spec_l4Value_j1  o4 o1007)
def m_spec_l4Value (a0 : (List S_impl_Value)) (a1 : (List S_impl_Part)) : Option S_impl_Value :=
  m_spec_l4Value_l1  (((a1.length : Int) - (0 : Int)).toNat + 1) a0 a1 (0 : Int) (⟨(0 : Int), (0 : Int), (⟨#[]⟩ : ByteArray)⟩ : S_impl_Value) ([] : (List S_impl_Value))
theorem c_spec_l4Value (a0 : (List S_impl_Value)) (a1 : (List S_impl_Part)) (r : S_impl_Value) (h : m_spec_l4Value a0 a1 = some r) : Ret Try.prog f_spec_l4Value [e_Limpl_Value a0, e_Limpl_Part a1] (e_impl_Value r) := by
  refine Does.goG [] F_spec_l4Value rfl e_spec_l4Value n_spec_l4Value rfl (rvs := [.cell 4 t_impl_Value]) rfl rfl ?_
  intro w0 ok0 lent ρ0
  refine LWP.seq_k fun N1 hN1 => ?_
  refine LWP.region (l := [_]) ?_
  refine LWo.alloc_impl_Value 4 rfl (hn := ?_)
  refine LWo.nil (hN1 _ ?_)
  refine LWP.seq_k fun N2 hN2 => ?_
  refine LWP.region (l := [_,_]) ?_
  refine LWo.lit0 1007 u_Limpl_Value s_impl_Value z_impl_Value (hn := ?_)
  refine LWo.known 7 (.own 1007 0 ([] : (List S_impl_Value)).length) rfl ?_
  refine LWo.assign (.own 1007 0 (([] : (List S_impl_Value))).length) rfl (hn := ?_)
  refine LWo.nil (hN2 _ ?_)
  refine LWP.join (α := S_impl_Value × (List S_impl_Value)) (fun z : S_impl_Value × (List S_impl_Value) => [(4, (.ptr 4 0 0)), (5, (.own 1007 0 (z.2).length))]) (fun z : S_impl_Value × (List S_impl_Value) => [(4, (vob 3 e_impl_Value z.1)), (1007, (lob 3 e_impl_Value z.2))]) (fun z : S_impl_Value × (List S_impl_Value) => m_spec_l4Value_j1  z.1 z.2) r (fun _ => by simp [hkeys]) ?_ ?_
  ·rintro ⟨o4, o1007⟩ h
   replace h : m_spec_l4Value_j1  o4 o1007 = some _ := h
   refine LWP.seq_k fun N14 hN14 => ?_
   refine LWP.region (l := [_,_,_,_]) ?_
   refine LWo.move (.own 1007 0 (o1007).length) rfl (hn := ?_)
   refine bk h fun x15 e15 h => ?_
   refine LWo.indexO e15 rfl u_Limpl_Value s_impl_Value rfl rfl rfl (hn := ?_)
   refine bk h fun x16 e16 h => ?_
   refine LWo.loadON ((e_impl_Value x16)).cells e16 g_impl_Value s_impl_Value rfl rfl rfl rfl (hn := ?_)
   refine lk h fun y17 e17 h => ?_
   refine LWo.storeW (y := o4) y17 s_impl_Value rfl rfl rfl rfl rfl rfl (by rw [e17]; exact .refl) rfl (hn := ?_)
   refine LWo.nil (hN14 _ ?_)
   obtain rfl := Option.some.inj h
   refine LWP.ret (QG.mk (.inr rfl) (.cons (.cellN (ys := (e_impl_Value y17).cells) g_impl_Value s_impl_Value rfl rfl rfl rfl rfl (fun _ _ => rfl)) (.nil)) (RetOK.one0 (.pure rfl) (by decide)) rfl rfl)
  ·intro N3 hN3
   refine LWP.seq_k fun N4 hN4 => ?_
   refine LWP.region (l := [_]) ?_
   refine LWo.assign (e_int (0 : Int)) rfl (hn := ?_)
   refine LWo.nil (hN4 _ ?_)
   refine LWP.block ?_
   refine LWP.loopM (α := (List S_impl_Value) × (List S_impl_Part) × Int × S_impl_Value × (List S_impl_Value)) (fun z : (List S_impl_Value) × (List S_impl_Part) × Int × S_impl_Value × (List S_impl_Value) => [(0, (e_Limpl_Value z.1)), (1, (e_Limpl_Part z.2.1)), (4, (.ptr 4 0 0)), (5, (.own 1007 0 (z.2.2.2.2).length)), (6, (e_int z.2.2.1))]) (fun z : (List S_impl_Value) × (List S_impl_Part) × Int × S_impl_Value × (List S_impl_Value) => [(4, (vob 3 e_impl_Value z.2.2.2.1)), (1007, (lob 3 e_impl_Value z.2.2.2.2))]) (fun n1 (z : (List S_impl_Value) × (List S_impl_Part) × Int × S_impl_Value × (List S_impl_Value)) => m_spec_l4Value_l1  n1 z.1 z.2.1 z.2.2.1 z.2.2.2.1 z.2.2.2.2) r _ (a0, a1, (0 : Int), (⟨(0 : Int), (0 : Int), (⟨#[]⟩ : ByteArray)⟩ : S_impl_Value), ([] : (List S_impl_Value))) h (fun _ => rfl) (fun _ => by simp [hkeys]) ⟨rfl, rfl, rfl, rfl, rfl, trivial⟩ ⟨rfl, rfl, trivial⟩ ?_
   rintro n1 ⟨t0, t1, t6, o4, o1007⟩ h N5 hN5
   replace h : m_spec_l4Value_l1  (n1 + 1) t0 t1 t6 o4 o1007 = some _ := h
   refine LWP.seq_k fun N7 hN7 => ?_
   refine LWP.seq_k fun N8 hN8 => ?_
   refine LWP.region (l := [_,_,_,_]) ?_
   refine LWo.move (e_int t6) rfl (hn := ?_)
   refine LWo.move (e_Limpl_Part t1) rfl (hn := ?_)
   refine LWo.lenM (f := e_impl_Part) (l := t1) u_Limpl_Part rfl (hn := ?_)
   refine LWo.int _ rfl rfl rfl (hn := ?_)
   refine LWo.nil (hN8 _ ?_)
   refine LWP.cond_split rfl (fun h9 => ?_) (fun h9 => ?_)
   ·have h := bT h9 h
    refine LWP.skip (hN7 _ ?_)
    refine LWP.seq_k fun N10 hN10 => ?_
    refine LWP.block ?_
    refine LWP.region (l := [_,_,_,_,_,_,_,_]) ?_
    refine LWo.move (e_Limpl_Value t0) rfl (hn := ?_)
    refine LWo.move (.own 1007 0 (o1007).length) rfl (hn := ?_)
    refine LWo.move (e_Limpl_Part t1) rfl (hn := ?_)
    refine LWo.move (e_int t6) rfl (hn := ?_)
    refine bk h fun x11 e11 h => ?_
    refine LWo.indexM (f := e_impl_Part) e11 u_Limpl_Part s_impl_Part rfl rfl (hn := ?_)
    refine LWo.loadN ((e_impl_Part x11)).cells g_impl_Part s_impl_Part rfl (Nat.le_of_ble_eq_true rfl) rfl (hn := ?_)
    refine bk h fun x12 e12 h => ?_
    refine LWo.tcallG (e := e_impl_Value) (e' := e_impl_Value) [_] 1020 rfl rfl (c_spec_l4Do _ _ _ _ e12) (fun _ => rfl) (fun _ => rfl) rfl rfl rfl rfl (hn := ?_)
    refine LWo.assign (.own 1020 0 (x12).length) rfl (hn := ?_)
    refine LWo.nil (hN10 _ ?_)
    refine LWP.region (l := [_,_,_]) ?_
    refine LWo.move (e_int t6) rfl (hn := ?_)
    refine bk h fun x13 e13 h => ?_
    refine LWo.int _ rfl rfl (add_ck e13) (hn := ?_)
    refine LWo.assign (e_int x13) rfl (hn := ?_)
    refine LWo.rekey 5 1020 1007 rfl rfl rfl rfl rfl rfl ?_
    refine LWo.nil (hN5 (t0, t1, x13, o4, x12) _ ⟨rfl, rfl, rfl, rfl, rfl, trivial⟩ ⟨rfl, rfl, trivial⟩ h)
   ·have h := bF h9 h
    refine LWP.exit (hN3 (o4, o1007) _ ⟨rfl, rfl, trivial⟩ ⟨rfl, rfl, trivial⟩ h)

def m_spec_ExprValue_j1 (t1 : (List S_impl_Value)) (t2 : (List S_impl_Part)) (t16 : Bool) (o6 : S_impl_Value) : Option S_impl_Value :=
  bif t16 then (lt ((⟨(0 : Int), (0 : Int), (⟨#[]⟩ : ByteArray)⟩ : S_impl_Value)) fun y9 =>
    some y9)
  else ((m_spec_l4Value t1 t2).bind fun x11 =>
  lt (x11) fun y12 =>
  some y12)
def m_spec_ExprValue (a0 : (List S_impl_Column)) (a1 : (List S_impl_Value)) (a2 : (List S_impl_Part)) : Option S_impl_Value :=
  (m_spec_ExprKind a0 a2).bind fun x4 =>
  bif decide (x4 < (0 : Int)) then (m_spec_ExprValue_j1  a1 a2 true (⟨(0 : Int), (0 : Int), (⟨#[]⟩ : ByteArray)⟩ : S_impl_Value))
  else ((m_spec_RowFits a0 a1).bind fun x6 =>
    m_spec_ExprValue_j1  a1 a2 (!x6) (⟨(0 : Int), (0 : Int), (⟨#[]⟩ : ByteArray)⟩ : S_impl_Value))
theorem c_spec_ExprValue (a0 : (List S_impl_Column)) (a1 : (List S_impl_Value)) (a2 : (List S_impl_Part)) (r : S_impl_Value) (h : m_spec_ExprValue a0 a1 a2 = some r) : Ret Try.prog f_spec_ExprValue [e_Limpl_Column a0, e_Limpl_Value a1, e_Limpl_Part a2] (e_impl_Value r) := by
  refine Does.goG [] F_spec_ExprValue rfl e_spec_ExprValue n_spec_ExprValue rfl (rvs := [.cell 6 t_impl_Value]) rfl rfl ?_
  intro w0 ok0 lent ρ0
  refine LWP.seq_k fun N1 hN1 => ?_
  refine LWP.region (l := [_]) ?_
  refine LWo.alloc_impl_Value 6 rfl (hn := ?_)
  refine LWo.nil (hN1 _ ?_)
  refine LWP.seq_k fun N2 hN2 => ?_
  refine LWP.join (α := (List S_impl_Value) × (List S_impl_Part) × Bool × S_impl_Value) (fun z : (List S_impl_Value) × (List S_impl_Part) × Bool × S_impl_Value => [(1, (e_Limpl_Value z.1)), (2, (e_Limpl_Part z.2.1)), (6, (.ptr 6 0 0)), (16, (e_bool z.2.2.1))]) (fun z : (List S_impl_Value) × (List S_impl_Part) × Bool × S_impl_Value => [(6, (vob 3 e_impl_Value z.2.2.2))]) (fun z : (List S_impl_Value) × (List S_impl_Part) × Bool × S_impl_Value => m_spec_ExprValue_j1  z.1 z.2.1 z.2.2.1 z.2.2.2) r (fun _ => by simp [hkeys]) ?_ ?_
  ·rintro ⟨t1, t2, t16, o6⟩ h
   replace h : m_spec_ExprValue_j1  t1 t2 t16 o6 = some _ := h
   refine LWP.cond_split rfl (fun h7 => ?_) (fun h7 => ?_)
   ·have h := bT h7 h
    refine LWP.seq_k fun N8 hN8 => ?_
    refine LWP.region (l := [_,_]) ?_
    refine LWo.build_impl_Value (parts := []) (⟨(0 : Int), (0 : Int), (⟨#[]⟩ : ByteArray)⟩ : S_impl_Value) rfl rfl rfl .refl (hn := ?_)
    refine lk h fun y9 e9 h => ?_
    refine LWo.storeW (y := o6) y9 s_impl_Value rfl rfl rfl rfl rfl rfl (by rw [e9]; exact .refl) rfl (hn := ?_)
    refine LWo.nil (hN8 _ ?_)
    obtain rfl := Option.some.inj h
    refine LWP.ret (QG.mk (.inr rfl) (.cons (.cellN (ys := (e_impl_Value y9).cells) g_impl_Value s_impl_Value rfl rfl rfl rfl rfl (fun _ _ => rfl)) (.nil)) (RetOK.one0 (.pure rfl) (by decide)) rfl rfl)
   ·have h := bF h7 h
    refine LWP.skip (hN2 _ ?_)
    refine LWP.seq_k fun N10 hN10 => ?_
    refine LWP.region (l := [_,_,_,_]) ?_
    refine LWo.move (e_Limpl_Value t1) rfl (hn := ?_)
    refine LWo.move (e_Limpl_Part t2) rfl (hn := ?_)
    refine bk h fun x11 e11 h => ?_
    refine LWo.vcall rfl rfl (c_spec_l4Value _ _ _ e11) (.same (.same (.nil))) (hn := ?_)
    refine lk h fun y12 e12 h => ?_
    refine LWo.storeW (y := o6) y12 s_impl_Value rfl rfl rfl rfl rfl rfl (by rw [e12]; exact .refl) rfl (hn := ?_)
    refine LWo.nil (hN10 _ ?_)
    obtain rfl := Option.some.inj h
    refine LWP.ret (QG.mk (.inr rfl) (.cons (.cellN (ys := (e_impl_Value y12).cells) g_impl_Value s_impl_Value rfl rfl rfl rfl rfl (fun _ _ => rfl)) (.nil)) (RetOK.one0 (.pure rfl) (by decide)) rfl rfl)
  ·intro N3 hN3
   refine LWP.region (l := [_,_,_,_,_,_,_,_,_,_]) ?_
   refine LWo.move (e_Limpl_Column a0) rfl (hn := ?_)
   refine LWo.move (e_Limpl_Part a2) rfl (hn := ?_)
   refine bk h fun x4 e4 h => ?_
   refine LWo.vcall rfl rfl (c_spec_ExprKind _ _ _ e4) (.same (.same (.nil))) (hn := ?_)
   refine LWo.int _ rfl rfl rfl (hn := ?_)
   refine LWo.move (e_bool (decide (x4 < (0 : Int)))) rfl (hn := ?_)
   refine LWo.byCases (t := 11) _ rfl (fun h5 => ?_) (fun h5 => ?_)
   ·have h := bT h5 h
    refine LWo.guardNU (t := 11) rfl h5 rfl rfl rfl rfl rfl ?_
    refine LWo.guardNU (t := 11) rfl h5 rfl rfl rfl rfl rfl ?_
    refine LWo.guardNU (t := 11) rfl h5 rfl rfl rfl rfl rfl ?_
    refine LWo.guardNU (t := 11) rfl h5 rfl rfl rfl rfl rfl ?_
    refine LWo.pickTM (e_bool true) rfl h5 rfl (hn := ?_)
    refine LWo.nil (hN3 (a1, a2, true, (⟨(0 : Int), (0 : Int), (⟨#[]⟩ : ByteArray)⟩ : S_impl_Value)) _ ⟨rfl, rfl, rfl, rfl, trivial⟩ ⟨rfl, trivial⟩ h)
   ·have h := bF h5 h
    refine LWo.guardY (t := 11) rfl h5 rfl rfl ?_
    refine LWo.move (e_Limpl_Column a0) rfl (hn := ?_)
    refine LWo.guardY (t := 11) rfl h5 rfl rfl ?_
    refine LWo.move (e_Limpl_Value a1) rfl (hn := ?_)
    refine bk h fun x6 e6 h => ?_
    refine LWo.guardY (t := 11) rfl h5 rfl rfl ?_
    refine LWo.vcall rfl rfl (c_spec_RowFits _ _ _ e6) (.same (.same (.nil))) (hn := ?_)
    refine LWo.guardY (t := 11) rfl h5 rfl rfl ?_
    refine LWo.not rfl (hn := ?_)
    refine LWo.pickFM (e_bool (!x6)) rfl h5 rfl (hn := ?_)
    refine LWo.nil (hN3 (a1, a2, (!x6), (⟨(0 : Int), (0 : Int), (⟨#[]⟩ : ByteArray)⟩ : S_impl_Value)) _ ⟨rfl, rfl, rfl, rfl, trivial⟩ ⟨rfl, trivial⟩ h)

def m_impl_ValueOk (a0 : S_impl_Value) : Option Bool :=
  (m_impl_Value_ok a0).bind fun x3 =>
  some x3
theorem c_impl_ValueOk (a0 : S_impl_Value) (r : Bool) (h : m_impl_ValueOk a0 = some r) : Ret Try.prog f_impl_ValueOk [e_impl_Value a0] (e_bool r) := by
  refine Does.goG [] F_impl_ValueOk rfl e_impl_ValueOk n_impl_ValueOk rfl (rvs := [.tmp 2]) rfl rfl ?_
  intro w0 ok0 lent ρ0
  refine LWP.seq_k fun N1 hN1 => ?_
  refine LWP.region (l := [_,_]) ?_
  refine LWo.boxF (e_impl_Value a0) rfl rfl rfl (hn := ?_)
  refine LWo.assign (e_bool false) rfl (hn := ?_)
  refine LWo.nil (hN1 _ ?_)
  refine LWP.seq_k fun N2 hN2 => ?_
  refine LWP.region (l := [_,_,_]) ?_
  refine LWo.loadN ((e_impl_Value a0)).cells g_impl_Value s_impl_Value rfl (Nat.le_of_ble_eq_true rfl) rfl (hn := ?_)
  refine bk h fun x3 e3 h => ?_
  refine LWo.vcall rfl rfl (c_impl_Value_ok _ _ e3) (.same (.nil)) (hn := ?_)
  refine LWo.assign (e_bool x3) rfl (hn := ?_)
  refine LWo.nil (hN2 _ ?_)
  obtain rfl := Option.some.inj h
  refine LWP.ret (QG.mk (.inr rfl) (.cons (.tmp (x := (e_bool x3)) rfl) (.nil)) (RetOK.one0 (.pure rfl) (by decide)) rfl rfl)

def m_laws_alive_j1 (t0 : Bool) : Option Bool :=
  some t0
def m_laws_alive  : Option Bool :=
  (m_impl_ValueOk (⟨(1 : Int), (3 : Int), (⟨#[]⟩ : ByteArray)⟩ : S_impl_Value)).bind fun x3 =>
  bif x3 then ((m_impl_ValueOk (⟨(9 : Int), (0 : Int), (⟨#[]⟩ : ByteArray)⟩ : S_impl_Value)).bind fun x5 =>
    m_laws_alive_j1  (!x5))
  else (m_laws_alive_j1  false)
theorem c_laws_alive  (r : Bool) (h : m_laws_alive  = some r) : Ret Try.prog f_laws_alive [] (e_bool r) := by
  refine Does.goG [] F_laws_alive rfl e_laws_alive n_laws_alive rfl (rvs := [.tmp 0]) rfl rfl ?_
  intro w0 ok0 lent ρ0
  refine LWP.seq_k fun N1 hN1 => ?_
  refine LWP.region (l := [_]) ?_
  refine LWo.assign (e_bool false) rfl (hn := ?_)
  refine LWo.nil (hN1 _ ?_)
  refine LWP.join (α := Bool) (fun z : Bool => [(0, (e_bool z))]) (fun z : Bool => []) (fun z : Bool => m_laws_alive_j1  z) r (fun _ => by simp [hkeys]) ?_ ?_
  ·rintro t0 h
   replace h : m_laws_alive_j1  t0 = some _ := h
   obtain rfl := Option.some.inj h
   refine LWP.ret (QG.mk (.inr rfl) (.cons (.tmp (x := (e_bool t0)) rfl) (.nil)) (RetOK.one0 (.pure rfl) (by decide)) rfl rfl)
  ·intro N2 hN2
   refine LWP.region (l := [_,_,_,_,_,_,_,_]) ?_
   refine LWo.build_impl_Value (parts := [_, _]) (⟨(1 : Int), (3 : Int), (⟨#[]⟩ : ByteArray)⟩ : S_impl_Value) rfl rfl rfl .refl (hn := ?_)
   refine bk h fun x3 e3 h => ?_
   refine LWo.vcall rfl rfl (c_impl_ValueOk _ _ e3) (.same (.nil)) (hn := ?_)
   refine LWo.move (e_bool x3) rfl (hn := ?_)
   refine LWo.byCases (t := 3) _ rfl (fun h4 => ?_) (fun h4 => ?_)
   ·have h := bT h4 h
    refine LWo.guardY (t := 3) rfl h4 rfl rfl ?_
    refine LWo.build_impl_Value (parts := [_]) (⟨(9 : Int), (0 : Int), (⟨#[]⟩ : ByteArray)⟩ : S_impl_Value) rfl rfl rfl .refl (hn := ?_)
    refine bk h fun x5 e5 h => ?_
    refine LWo.guardY (t := 3) rfl h4 rfl rfl ?_
    refine LWo.vcall rfl rfl (c_impl_ValueOk _ _ e5) (.same (.nil)) (hn := ?_)
    refine LWo.guardY (t := 3) rfl h4 rfl rfl ?_
    refine LWo.not rfl (hn := ?_)
    refine LWo.pickTM (e_bool (!x5)) rfl h4 rfl (hn := ?_)
    refine LWo.assign (e_bool (!x5)) rfl (hn := ?_)
    refine LWo.nil (hN2 (!x5) _ ⟨rfl, trivial⟩ trivial h)
   ·have h := bF h4 h
    refine LWo.guardNU (t := 3) rfl h4 rfl rfl rfl rfl rfl ?_
    refine LWo.guardNU (t := 3) rfl h4 rfl rfl rfl rfl rfl ?_
    refine LWo.guardNU (t := 3) rfl h4 rfl rfl rfl rfl rfl ?_
    refine LWo.pickFM (e_bool false) rfl h4 rfl (hn := ?_)
    refine LWo.assign (e_bool false) rfl (hn := ?_)
    refine LWo.nil (hN2 false _ ⟨rfl, trivial⟩ trivial h)

def m_impl_exprHolds (a0 : (List S_impl_Value)) (a1 : (List S_impl_Part)) : Option Bool :=
  (m_impl_exprValue a0 a1).bind fun x3 =>
  (m_impl_ValueOf (1 : Int)).bind fun x4 =>
  some (decide (x3 = x4))
theorem c_impl_exprHolds (a0 : (List S_impl_Value)) (a1 : (List S_impl_Part)) (r : Bool) (h : m_impl_exprHolds a0 a1 = some r) : Ret Try.prog f_impl_exprHolds [e_Limpl_Value a0, e_Limpl_Part a1] (e_bool r) := by
  refine Does.goG [] F_impl_exprHolds rfl e_impl_exprHolds n_impl_exprHolds rfl (rvs := [.tmp 4]) rfl rfl ?_
  intro w0 ok0 lent ρ0
  refine LWP.seq_k fun N1 hN1 => ?_
  refine LWP.region (l := [_]) ?_
  refine LWo.assign (e_bool false) rfl (hn := ?_)
  refine LWo.nil (hN1 _ ?_)
  refine LWP.seq_k fun N2 hN2 => ?_
  refine LWP.region (l := [_,_,_,_,_,_]) ?_
  refine LWo.move (e_Limpl_Value a0) rfl (hn := ?_)
  refine LWo.move (e_Limpl_Part a1) rfl (hn := ?_)
  refine bk h fun x3 e3 h => ?_
  refine LWo.vcall rfl rfl (c_impl_exprValue _ _ _ e3) (.same (.same (.nil))) (hn := ?_)
  refine bk h fun x4 e4 h => ?_
  refine LWo.vcall rfl rfl (c_impl_ValueOf _ _ e4) (.same (.nil)) (hn := ?_)
  refine LWo.eq_impl_Value _ _ rfl rfl (hn := ?_)
  refine LWo.assign (e_bool (decide (x3 = x4))) rfl (hn := ?_)
  refine LWo.nil (hN2 _ ?_)
  obtain rfl := Option.some.inj h
  refine LWP.ret (QG.mk (.inr rfl) (.cons (.tmp (x := (e_bool (decide (x3 = x4)))) rfl) (.nil)) (RetOK.one0 (.pure rfl) (by decide)) rfl rfl)

def m_impl_ExprHolds_j1 (t6 : Bool) : Option Bool :=
  some t6
def m_impl_ExprHolds (a0 : (List S_impl_Column)) (a1 : (List S_impl_Value)) (a2 : (List S_impl_Part)) : Option Bool :=
  (m_impl_ExprKind a0 a2).bind fun x3 =>
  bif (x3 == (3 : Int)) then ((m_impl_RowFits a0 a1).bind fun x5 =>
    bif x5 then ((m_impl_exprHolds a1 a2).bind fun x7 =>
      m_impl_ExprHolds_j1  x7)
    else (m_impl_ExprHolds_j1  false))
  else (m_impl_ExprHolds_j1  false)
theorem c_impl_ExprHolds (a0 : (List S_impl_Column)) (a1 : (List S_impl_Value)) (a2 : (List S_impl_Part)) (r : Bool) (h : m_impl_ExprHolds a0 a1 a2 = some r) : Ret Try.prog f_impl_ExprHolds [e_Limpl_Column a0, e_Limpl_Value a1, e_Limpl_Part a2] (e_bool r) := by
  refine Does.goG [] F_impl_ExprHolds rfl e_impl_ExprHolds n_impl_ExprHolds rfl (rvs := [.tmp 6]) rfl rfl ?_
  intro w0 ok0 lent ρ0
  refine LWP.seq_k fun N1 hN1 => ?_
  refine LWP.region (l := [_]) ?_
  refine LWo.assign (e_bool false) rfl (hn := ?_)
  refine LWo.nil (hN1 _ ?_)
  refine LWP.join (α := Bool) (fun z : Bool => [(6, (e_bool z))]) (fun z : Bool => []) (fun z : Bool => m_impl_ExprHolds_j1  z) r (fun _ => by simp [hkeys]) ?_ ?_
  ·rintro t6 h
   replace h : m_impl_ExprHolds_j1  t6 = some _ := h
   obtain rfl := Option.some.inj h
   refine LWP.ret (QG.mk (.inr rfl) (.cons (.tmp (x := (e_bool t6)) rfl) (.nil)) (RetOK.one0 (.pure rfl) (by decide)) rfl rfl)
  ·intro N2 hN2
   refine LWP.region (l := [_,_,_,_,_,_,_,_,_,_,_,_,_,_,_]) ?_
   refine LWo.move (e_Limpl_Column a0) rfl (hn := ?_)
   refine LWo.move (e_Limpl_Part a2) rfl (hn := ?_)
   refine bk h fun x3 e3 h => ?_
   refine LWo.vcall rfl rfl (c_impl_ExprKind _ _ _ e3) (.same (.same (.nil))) (hn := ?_)
   refine LWo.int _ rfl rfl rfl (hn := ?_)
   refine LWo.move (e_bool (x3 == (3 : Int))) rfl (hn := ?_)
   refine LWo.byCases (t := 11) _ rfl (fun h4 => ?_) (fun h4 => ?_)
   ·have h := bT h4 h
    refine LWo.guardY (t := 11) rfl h4 rfl rfl ?_
    refine LWo.move (e_Limpl_Column a0) rfl (hn := ?_)
    refine LWo.guardY (t := 11) rfl h4 rfl rfl ?_
    refine LWo.move (e_Limpl_Value a1) rfl (hn := ?_)
    refine bk h fun x5 e5 h => ?_
    refine LWo.guardY (t := 11) rfl h4 rfl rfl ?_
    refine LWo.vcall rfl rfl (c_impl_RowFits _ _ _ e5) (.same (.same (.nil))) (hn := ?_)
    refine LWo.pickTM (e_bool x5) rfl h4 rfl (hn := ?_)
    refine LWo.move (e_bool x5) rfl (hn := ?_)
    refine LWo.byCases (t := 16) _ rfl (fun h6 => ?_) (fun h6 => ?_)
    ·have h := bT h6 h
     refine LWo.guardY (t := 16) rfl h6 rfl rfl ?_
     refine LWo.move (e_Limpl_Value a1) rfl (hn := ?_)
     refine LWo.guardY (t := 16) rfl h6 rfl rfl ?_
     refine LWo.move (e_Limpl_Part a2) rfl (hn := ?_)
     refine bk h fun x7 e7 h => ?_
     refine LWo.guardY (t := 16) rfl h6 rfl rfl ?_
     refine LWo.vcall rfl rfl (c_impl_exprHolds _ _ _ e7) (.same (.same (.nil))) (hn := ?_)
     refine LWo.pickTM (e_bool x7) rfl h6 rfl (hn := ?_)
     refine LWo.assign (e_bool x7) rfl (hn := ?_)
     refine LWo.nil (hN2 x7 _ ⟨rfl, trivial⟩ trivial h)
    ·have h := bF h6 h
     refine LWo.guardNU (t := 16) rfl h6 rfl rfl rfl rfl rfl ?_
     refine LWo.guardNU (t := 16) rfl h6 rfl rfl rfl rfl rfl ?_
     refine LWo.guardNU (t := 16) rfl h6 rfl rfl rfl rfl rfl ?_
     refine LWo.pickFM (e_bool false) rfl h6 rfl (hn := ?_)
     refine LWo.assign (e_bool false) rfl (hn := ?_)
     refine LWo.nil (hN2 false _ ⟨rfl, trivial⟩ trivial h)
   ·have h := bF h4 h
    refine LWo.guardNU (t := 11) rfl h4 rfl rfl rfl rfl rfl ?_
    refine LWo.guardNU (t := 11) rfl h4 rfl rfl rfl rfl rfl ?_
    refine LWo.guardNU (t := 11) rfl h4 rfl rfl rfl rfl rfl ?_
    refine LWo.pickFM (e_bool false) rfl h4 rfl (hn := ?_)
    refine LWo.move (e_bool false) rfl (hn := ?_)
    refine LWo.guardNU (t := 16) rfl rfl rfl rfl rfl rfl rfl ?_
    refine LWo.guardNU (t := 16) rfl rfl rfl rfl rfl rfl rfl ?_
    refine LWo.guardNU (t := 16) rfl rfl rfl rfl rfl rfl rfl ?_
    refine LWo.pickFM (e_bool false) rfl rfl rfl (hn := ?_)
    refine LWo.assign (e_bool false) rfl (hn := ?_)
    refine LWo.nil (hN2 false _ ⟨rfl, trivial⟩ trivial h)

def m_laws_FnExprValue_j4 (t2 : Bool) : Option Bool :=
  some t2
def m_laws_FnExprValue_j3 (t3 : (List S_impl_Column)) (t4 : (List S_impl_Value)) (t5 : (List S_impl_Part)) (t53 : Bool) (o6 : S_impl_Value) : Option Bool :=
  bif t53 then (some false)
  else ((app? ([] : (List S_impl_Part)) t5).bind fun x32 =>
  (app? x32 t5).bind fun x33 =>
  (app? x33 ([(⟨(4 : Int), (1 : Int), (⟨(0 : Int), (0 : Int), (⟨#[]⟩ : ByteArray)⟩ : S_impl_Value)⟩ : S_impl_Part)] : (List S_impl_Part))).bind fun x34 =>
  bif decide ((x34.length : Int) > (12 : Int)) then (m_laws_FnExprValue_j4  true)
  else ((m_impl_ExprHolds t3 t4 x34).bind fun x37 =>
  m_laws_FnExprValue_j4  (x37 == (o6.Kind != (0 : Int)))))
def m_laws_FnExprValue_j2 (t2 : Bool) : Option Bool :=
  some t2
def m_laws_FnExprValue_j1 (t3 : (List S_impl_Column)) (t4 : (List S_impl_Value)) (t5 : (List S_impl_Part)) (t7 : Int) (t38 : Bool) (o6 : S_impl_Value) : Option Bool :=
  bif t38 then (bif (decide (o6 = (⟨(0 : Int), (0 : Int), (⟨#[]⟩ : ByteArray)⟩ : S_impl_Value))) then ((m_laws_alive ).bind fun x25 =>
      m_laws_FnExprValue_j2  x25)
    else (m_laws_FnExprValue_j2  false))
  else (bif (o6.Kind != t7) then (m_laws_FnExprValue_j3  t3 t4 t5 (o6.Kind != (0 : Int)) o6)
  else (m_laws_FnExprValue_j3  t3 t4 t5 false o6))
def m_laws_FnExprValue (a0 : (List UInt8)) : Option Bool :=
  bif decide ((a0.length : Int) > (1048576 : Int)) then (some true)
  else ((m_spec_DrawExprValue a0).bind fun x7 =>
  (m_impl_ExprValue x7.1 x7.2.1 x7.2.2).bind fun x9 =>
  lt (x9) fun y10 =>
  (m_spec_ExprValue x7.1 x7.2.1 x7.2.2).bind fun x13 =>
  bif (!(decide (y10 = x13))) then (some false)
  else ((m_impl_ExprKind x7.1 x7.2.2).bind fun x17 =>
  bif decide (x17 < (0 : Int)) then (m_laws_FnExprValue_j1  x7.1 x7.2.1 x7.2.2 x17 true y10)
  else ((m_impl_RowFits x7.1 x7.2.1).bind fun x21 =>
    m_laws_FnExprValue_j1  x7.1 x7.2.1 x7.2.2 x17 (!x21) y10)))
theorem c_laws_FnExprValue (a0 : (List UInt8)) (r : Bool) (h : m_laws_FnExprValue a0 = some r) : Ret Try.prog f_laws_FnExprValue [e_Luint8 a0] (e_bool r) := by
  refine Does.goG [] F_laws_FnExprValue rfl e_laws_FnExprValue n_laws_FnExprValue rfl (rvs := [.tmp 2]) rfl rfl ?_
  intro w0 ok0 lent ρ0
  refine LWP.seq_k fun N1 hN1 => ?_
  refine LWP.region (l := [_]) ?_
  refine LWo.assign (e_bool false) rfl (hn := ?_)
  refine LWo.nil (hN1 _ ?_)
  refine LWP.seq_k fun N2 hN2 => ?_
  refine LWP.seq_k fun N3 hN3 => ?_
  refine LWP.region (l := [_,_,_]) ?_
  refine LWo.move (e_Luint8 a0) rfl (hn := ?_)
  refine LWo.lenM (f := e_uint8) (l := a0) u_Luint8 rfl (hn := ?_)
  refine LWo.int _ rfl rfl rfl (hn := ?_)
  refine LWo.nil (hN3 _ ?_)
  refine LWP.cond_split rfl (fun h4 => ?_) (fun h4 => ?_)
  ·have h := bT h4 h
   refine LWP.seq_k fun N5 hN5 => ?_
   refine LWP.region (l := [_]) ?_
   refine LWo.assign (e_bool true) rfl (hn := ?_)
   refine LWo.nil (hN5 _ ?_)
   obtain rfl := Option.some.inj h
   refine LWP.ret (QG.mk (.inr rfl) (.cons (.tmp (x := (e_bool true)) rfl) (.nil)) (RetOK.one0 (.pure rfl) (by decide)) rfl rfl)
  ·have h := bF h4 h
   refine LWP.skip (hN2 _ ?_)
   refine LWP.seq_k fun N6 hN6 => ?_
   refine LWP.region (l := [_,_,_,_,_,_,_,_,_]) ?_
   refine LWo.move (e_Luint8 a0) rfl (hn := ?_)
   refine bk h fun x7 e7 h => ?_
   refine LWo.vcall rfl rfl (c_spec_DrawExprValue _ _ e7) (.same (.nil)) (hn := ?_)
   refine LWo.move (.tup [(e_Limpl_Column x7.1), (e_Limpl_Value x7.2.1), (e_Limpl_Part x7.2.2)]) rfl (hn := ?_)
   refine LWo.extract (e_Limpl_Column x7.1) rfl rfl (hn := ?_)
   refine LWo.extract (e_Limpl_Value x7.2.1) rfl rfl (hn := ?_)
   refine LWo.extract (e_Limpl_Part x7.2.2) rfl rfl (hn := ?_)
   refine LWo.assign (e_Limpl_Column x7.1) rfl (hn := ?_)
   refine LWo.assign (e_Limpl_Value x7.2.1) rfl (hn := ?_)
   refine LWo.assign (e_Limpl_Part x7.2.2) rfl (hn := ?_)
   refine LWo.nil (hN6 _ ?_)
   refine LWP.seq_k fun N8 hN8 => ?_
   refine LWP.region (l := [_,_,_,_,_,_]) ?_
   refine LWo.move (e_Limpl_Column x7.1) rfl (hn := ?_)
   refine LWo.move (e_Limpl_Value x7.2.1) rfl (hn := ?_)
   refine LWo.move (e_Limpl_Part x7.2.2) rfl (hn := ?_)
   refine bk h fun x9 e9 h => ?_
   refine LWo.vcall rfl rfl (c_impl_ExprValue _ _ _ _ e9) (.same (.same (.same (.nil)))) (hn := ?_)
   refine LWo.alloc_impl_Value 6 rfl (hn := ?_)
   refine lk h fun y10 e10 h => ?_
   refine LWo.storeW (y := (⟨(0 : Int), (0 : Int), (⟨#[]⟩ : ByteArray)⟩ : S_impl_Value)) y10 s_impl_Value rfl rfl rfl rfl rfl rfl (by rw [e10]; exact .refl) rfl (hn := ?_)
   refine LWo.nil (hN8 _ ?_)
   refine LWP.seq_k fun N11 hN11 => ?_
   refine LWP.seq_k fun N12 hN12 => ?_
   refine bk h fun x13 e13 h => ?_
   refine LWP.drawF (l := [_,_,_,_,_,_]) [] [3, 4, 5, 6] [([6], [6]), ([3], []), ([4], []), ([5], []), ([23, 24, 25], []), ([22, 26], [])] [3, 4, 5, 6, 27] [6] mixed (by kernel_rfl) rfl (by decide) ?_
   refine dq 22 rfl (fun _ g u h => LWo.loadVN ((e_impl_Value y10)).cells  g_impl_Value s_impl_Value u.1 h.1 rfl rfl (hn := .nil (zn g))) ?_
   refine dq 23 rfl (fun _ g u h => LWo.move (e_Limpl_Column x7.1) u.1 (hn := .nil (zn g))) ?_
   refine dq 24 rfl (fun _ g u h => LWo.move (e_Limpl_Value x7.2.1) u.1 (hn := .nil (zn g))) ?_
   refine dq 25 rfl (fun _ g u h => LWo.move (e_Limpl_Part x7.2.2) u.1 (hn := .nil (zn g))) ?_
   refine dq 26 rfl (fun _ g u h => LWo.vcall rfl (av3 u.1 u.2.1 u.2.2.1) (c_spec_ExprValue _ _ _ _ e13) (.same (.same (.same (.nil)))) (hn := .nil (zn g))) ?_
   refine dq 27 rfl (fun _ g u h => LWo.ne_impl_Value _ _ u.1 u.2.1 (hn := .nil (zn g))) ?_
   refine ⟨rfl, by kernel_rfl, hN12 _ ?_⟩
   refine LWP.cond_split rfl (fun h14 => ?_) (fun h14 => ?_)
   ·have h := bT h14 h
    refine LWP.seq_k fun N15 hN15 => ?_
    refine LWP.region (l := [_]) ?_
    refine LWo.assign (e_bool false) rfl (hn := ?_)
    refine LWo.nil (hN15 _ ?_)
    obtain rfl := Option.some.inj h
    refine LWP.ret (QG.mk (.inr rfl) (.cons (.tmp (x := (e_bool false)) rfl) (.nil)) (RetOK.one0 (.pure rfl) (by decide)) rfl rfl)
   ·have h := bF h14 h
    refine LWP.skip (hN11 _ ?_)
    refine LWP.seq_k fun N16 hN16 => ?_
    refine LWP.region (l := [_,_,_,_]) ?_
    refine LWo.move (e_Limpl_Column x7.1) rfl (hn := ?_)
    refine LWo.move (e_Limpl_Part x7.2.2) rfl (hn := ?_)
    refine bk h fun x17 e17 h => ?_
    refine LWo.vcall rfl rfl (c_impl_ExprKind _ _ _ e17) (.same (.same (.nil))) (hn := ?_)
    refine LWo.assign (e_int x17) rfl (hn := ?_)
    refine LWo.nil (hN16 _ ?_)
    refine LWP.seq_k fun N18 hN18 => ?_
    refine LWP.join (α := (List S_impl_Column) × (List S_impl_Value) × (List S_impl_Part) × Int × Bool × S_impl_Value) (fun z : (List S_impl_Column) × (List S_impl_Value) × (List S_impl_Part) × Int × Bool × S_impl_Value => [(3, (e_Limpl_Column z.1)), (4, (e_Limpl_Value z.2.1)), (5, (e_Limpl_Part z.2.2.1)), (6, (.ptr 6 0 0)), (7, (e_int z.2.2.2.1)), (38, (e_bool z.2.2.2.2.1))]) (fun z : (List S_impl_Column) × (List S_impl_Value) × (List S_impl_Part) × Int × Bool × S_impl_Value => [(6, (vob 3 e_impl_Value z.2.2.2.2.2))]) (fun z : (List S_impl_Column) × (List S_impl_Value) × (List S_impl_Part) × Int × Bool × S_impl_Value => m_laws_FnExprValue_j1  z.1 z.2.1 z.2.2.1 z.2.2.2.1 z.2.2.2.2.1 z.2.2.2.2.2) r (fun _ => by simp [hkeys]) ?_ ?_
    ·rintro ⟨t3, t4, t5, t7, t38, o6⟩ h
     replace h : m_laws_FnExprValue_j1  t3 t4 t5 t7 t38 o6 = some _ := h
     refine LWP.cond_split rfl (fun h22 => ?_) (fun h22 => ?_)
     ·have h := bT h22 h
      refine LWP.join (α := Bool) (fun z : Bool => [(2, (e_bool z))]) (fun z : Bool => []) (fun z : Bool => m_laws_FnExprValue_j2  z) r (fun _ => by simp [hkeys]) ?_ ?_
      ·rintro t2 h
       replace h : m_laws_FnExprValue_j2  t2 = some _ := h
       obtain rfl := Option.some.inj h
       refine LWP.ret (QG.mk (.inr rfl) (.cons (.tmp (x := (e_bool t2)) rfl) (.nil)) (RetOK.one0 (.pure rfl) (by decide)) rfl rfl)
      ·intro N23 hN23
       refine LWP.region (l := [_,_,_,_,_,_,_]) ?_
       refine LWo.loadVN ((e_impl_Value o6)).cells  g_impl_Value s_impl_Value rfl rfl rfl rfl (hn := ?_)
       refine LWo.build_impl_Value (parts := []) (⟨(0 : Int), (0 : Int), (⟨#[]⟩ : ByteArray)⟩ : S_impl_Value) rfl rfl rfl .refl (hn := ?_)
       refine LWo.eq_impl_Value _ _ rfl rfl (hn := ?_)
       refine LWo.move (e_bool (decide (o6 = (⟨(0 : Int), (0 : Int), (⟨#[]⟩ : ByteArray)⟩ : S_impl_Value)))) rfl (hn := ?_)
       refine LWo.byCases (t := 42) _ rfl (fun h24 => ?_) (fun h24 => ?_)
       ·have h := bT h24 h
        refine bk h fun x25 e25 h => ?_
        refine LWo.guardY (t := 42) rfl h24 rfl rfl ?_
        refine LWo.vcall rfl rfl (c_laws_alive  _ e25) (.nil) (hn := ?_)
        refine LWo.pickTM (e_bool x25) rfl h24 rfl (hn := ?_)
        refine LWo.assign (e_bool x25) rfl (hn := ?_)
        refine LWo.nil (hN23 x25 _ ⟨rfl, trivial⟩ trivial h)
       ·have h := bF h24 h
        refine LWo.guardNU (t := 42) rfl h24 rfl rfl rfl rfl rfl ?_
        refine LWo.pickFM (e_bool false) rfl h24 rfl (hn := ?_)
        refine LWo.assign (e_bool false) rfl (hn := ?_)
        refine LWo.nil (hN23 false _ ⟨rfl, trivial⟩ trivial h)
     ·have h := bF h22 h
      refine LWP.skip (hN18 _ ?_)
      refine LWP.seq_k fun N26 hN26 => ?_
      refine LWP.join (α := (List S_impl_Column) × (List S_impl_Value) × (List S_impl_Part) × Bool × S_impl_Value) (fun z : (List S_impl_Column) × (List S_impl_Value) × (List S_impl_Part) × Bool × S_impl_Value => [(3, (e_Limpl_Column z.1)), (4, (e_Limpl_Value z.2.1)), (5, (e_Limpl_Part z.2.2.1)), (6, (.ptr 6 0 0)), (53, (e_bool z.2.2.2.1))]) (fun z : (List S_impl_Column) × (List S_impl_Value) × (List S_impl_Part) × Bool × S_impl_Value => [(6, (vob 3 e_impl_Value z.2.2.2.2))]) (fun z : (List S_impl_Column) × (List S_impl_Value) × (List S_impl_Part) × Bool × S_impl_Value => m_laws_FnExprValue_j3  z.1 z.2.1 z.2.2.1 z.2.2.2.1 z.2.2.2.2) r (fun _ => by simp [hkeys]) ?_ ?_
      ·rintro ⟨t3, t4, t5, t53, o6⟩ h
       replace h : m_laws_FnExprValue_j3  t3 t4 t5 t53 o6 = some _ := h
       refine LWP.cond_split rfl (fun h29 => ?_) (fun h29 => ?_)
       ·have h := bT h29 h
        refine LWP.seq_k fun N30 hN30 => ?_
        refine LWP.region (l := [_]) ?_
        refine LWo.assign (e_bool false) rfl (hn := ?_)
        refine LWo.nil (hN30 _ ?_)
        obtain rfl := Option.some.inj h
        refine LWP.ret (QG.mk (.inr rfl) (.cons (.tmp (x := (e_bool false)) rfl) (.nil)) (RetOK.one0 (.pure rfl) (by decide)) rfl rfl)
       ·have h := bF h29 h
        refine LWP.skip (hN26 _ ?_)
        refine LWP.seq_k fun N31 hN31 => ?_
        refine LWP.region (l := [_,_,_,_,_,_,_,_,_]) ?_
        refine LWo.lit0 1054 u_Limpl_Part s_impl_Part z_impl_Part (hn := ?_)
        refine LWo.known 54 (.own 1054 0 ([] : (List S_impl_Part)).length) rfl ?_
        refine LWo.move (e_Limpl_Part t5) rfl (hn := ?_)
        refine bk h fun x32 e32 h => ?_
        refine LWo.appendM (f := e_impl_Part) e32 rfl u_Limpl_Part u_Limpl_Part (fun _ h => by cases h) s_impl_Part i_impl_Part rfl rfl rfl (.sl rfl) rfl rfl (hn := ?_)
        refine LWo.move (e_Limpl_Part t5) rfl (hn := ?_)
        refine bk h fun x33 e33 h => ?_
        refine LWo.appendM (f := e_impl_Part) e33 rfl u_Limpl_Part u_Limpl_Part (fun _ h => by cases h) s_impl_Part i_impl_Part rfl rfl rfl (.sl rfl) rfl rfl (hn := ?_)
        refine LWo.build_impl_Part (parts := [_, _]) (⟨(4 : Int), (1 : Int), (⟨(0 : Int), (0 : Int), (⟨#[]⟩ : ByteArray)⟩ : S_impl_Value)⟩ : S_impl_Part) rfl rfl rfl .refl (hn := ?_)
        refine LWo.lit (ops := [_]) [(e_impl_Part (⟨(4 : Int), (1 : Int), (⟨(0 : Int), (0 : Int), (⟨#[]⟩ : ByteArray)⟩ : S_impl_Value)⟩ : S_impl_Part))] u_Limpl_Part s_impl_Part z_impl_Part rfl rfl rfl rfl rfl rfl (hn := ?_)
        refine bk h fun x34 e34 h => ?_
        refine LWo.appendM (f := e_impl_Part) e34 rfl u_Limpl_Part u_Limpl_Part (fun _ h => by cases h) s_impl_Part i_impl_Part rfl rfl rfl (.sl rfl) rfl rfl (hn := ?_)
        refine LWo.assign (.own 1054 0 (x34).length) rfl (hn := ?_)
        refine LWo.nil (hN31 _ ?_)
        refine LWP.join (α := Bool) (fun z : Bool => [(2, (e_bool z))]) (fun z : Bool => []) (fun z : Bool => m_laws_FnExprValue_j4  z) r (fun _ => by simp [hkeys]) ?_ ?_
        ·rintro t2 h
         replace h : m_laws_FnExprValue_j4  t2 = some _ := h
         obtain rfl := Option.some.inj h
         refine LWP.ret (QG.mk (.inr rfl) (.cons (.tmp (x := (e_bool t2)) rfl) (.nil)) (RetOK.one0 (.pure rfl) (by decide)) rfl rfl)
        ·intro N35 hN35
         refine bS (decide ((x34.length : Int) > (12 : Int))) (fun h36 => ?_) (fun h36 => ?_)
         ·have h := bT h36 h
          refine LWP.drawF (l := [_,_,_,_,_,_,_,_,_,_,_,_,_,_]) [] [3, 4, 6, 8] [([8], []), ([62], []), ([63], []), ([64], []), ([3, 65], []), ([4, 65], []), ([8, 65], []), ([65, 66, 67, 68], []), ([6, 65], []), ([65, 70], []), ([65, 71], []), ([65, 69, 72], []), ([65, 73], []), ([74], [])] [2] [] mixed (by kernel_rfl) rfl (by decide) ?_
          refine dq 62 rfl (fun _ g u h => LWo.move (.own 1054 0 (x34).length) u.1 (hn := .nil (zn g))) ?_
          refine dq 63 rfl (fun _ g u h => LWo.lenO u_Limpl_Part u.1 (hn := .nil (zn g))) ?_
          refine dq 64 rfl (fun _ g u h => LWo.int _ u.1 rfl rfl (hn := .nil (zn g))) ?_
          refine dq 65 rfl (fun _ g u h => LWo.move (e_bool (decide ((x34.length : Int) > (12 : Int)))) u.1 (hn := .nil (zn g))) ?_
          refine dq 66 rfl (fun _ g u h => LWo.guardNU (t := 65) u.2.1 h36 rfl rfl rfl rfl rfl (.nil (zn g))) ?_
          refine dq 67 rfl (fun _ g u h => LWo.guardNU (t := 65) u.2.1 h36 rfl rfl rfl rfl rfl (.nil (zn g))) ?_
          refine dq 68 rfl (fun _ g u h => LWo.guardNU (t := 65) u.2.1 h36 rfl rfl rfl rfl rfl (.nil (zn g))) ?_
          refine dq 69 rfl (fun _ g u h => LWo.guardNU (t := 65) u.1 h36 rfl rfl rfl rfl rfl (.nil (zn g))) ?_
          refine dq 70 rfl (fun _ g u h => LWo.guardNU (t := 65) u.2.1 h36 rfl rfl rfl rfl rfl (.nil (zn g))) ?_
          refine dq 71 rfl (fun _ g u h => LWo.guardNU (t := 65) u.1 h36 rfl rfl rfl rfl rfl (.nil (zn g))) ?_
          refine dq 72 rfl (fun _ g u h => LWo.guardNU (t := 65) u.1 h36 rfl rfl rfl rfl rfl (.nil (zn g))) ?_
          refine dq 73 rfl (fun _ g u h => LWo.guardNU (t := 65) u.1 h36 rfl rfl rfl rfl rfl (.nil (zn g))) ?_
          refine dq 74 rfl (fun _ g u h => LWo.pickTM (e_bool true) u.1 h36 rfl (hn := .nil (zn g))) ?_
          refine dq 2 rfl (fun _ g u h => LWo.assign (e_bool true) u.1 (hn := .nil (zn g))) ?_
          refine ⟨rfl, by kernel_rfl, hN35 true _ ⟨rfl, trivial⟩ trivial h⟩
         ·have h := bF h36 h
          refine bk h fun x37 e37 h => ?_
          refine LWP.drawF (l := [_,_,_,_,_,_,_,_,_,_,_,_,_,_]) [] [3, 4, 6, 8] [([8], []), ([62], []), ([63], []), ([64], []), ([3, 65], []), ([4, 65], []), ([8, 65], []), ([65, 66, 67, 68], [1054]), ([6, 65], []), ([65, 70], [6]), ([65, 71], []), ([65, 69, 72], []), ([65, 73], []), ([74], [])] [2] [] mixed (by kernel_rfl) rfl (by decide) ?_
          refine dq 62 rfl (fun _ g u h => LWo.move (.own 1054 0 (x34).length) u.1 (hn := .nil (zn g))) ?_
          refine dq 63 rfl (fun _ g u h => LWo.lenO u_Limpl_Part u.1 (hn := .nil (zn g))) ?_
          refine dq 64 rfl (fun _ g u h => LWo.int _ u.1 rfl rfl (hn := .nil (zn g))) ?_
          refine dq 65 rfl (fun _ g u h => LWo.move (e_bool (decide ((x34.length : Int) > (12 : Int)))) u.1 (hn := .nil (zn g))) ?_
          refine dq 66 rfl (fun _ g u h => LWo.guardY (t := 65) u.2.1 h36 rfl rfl (LWo.move (e_Limpl_Column t3) u.1 (hn := .nil (zn g)))) ?_
          refine dq 67 rfl (fun _ g u h => LWo.guardY (t := 65) u.2.1 h36 rfl rfl (LWo.move (e_Limpl_Value t4) u.1 (hn := .nil (zn g)))) ?_
          refine dq 68 rfl (fun _ g u h => LWo.guardY (t := 65) u.2.1 h36 rfl rfl (LWo.move (.own 1054 0 (x34).length) u.1 (hn := .nil (zn g)))) ?_
          refine dq 69 rfl (fun _ g u h => LWo.guardY (t := 65) u.1 h36 rfl rfl (LWo.wcall rfl (av3 u.2.1 u.2.2.1 u.2.2.2.1) (c_impl_ExprHolds _ _ _ _ e37) (.same (.same (.viewM h.1 rfl rfl (.nil)))) rfl (hn := .nil (zn g)))) ?_
          refine dq 70 rfl (fun _ g u h => LWo.guardY (t := 65) u.2.1 h36 rfl rfl (LWo.fieldPtr u_impl_Value rfl s_int u.1 rfl (hn := .nil (zn g)))) ?_
          refine dq 71 rfl (fun _ g u h => LWo.guardY (t := 65) u.1 h36 rfl rfl (LWo.loadV1 (e_int o6.Kind)  g_int u.2.1 h.1 rfl (hn := .nil (zn g)))) ?_
          refine dq 72 rfl (fun _ g u h => LWo.guardY (t := 65) u.1 h36 rfl rfl (LWo.int _ u.2.1 rfl rfl (hn := .nil (zn g)))) ?_
          refine dq 73 rfl (fun _ g u h => LWo.guardY (t := 65) u.1 h36 rfl rfl (LWo.boolEq u_bool u.2.1 u.2.2.1 (hn := .nil (zn g)))) ?_
          refine dq 74 rfl (fun _ g u h => LWo.pickFM (e_bool (x37 == (o6.Kind != (0 : Int)))) u.1 h36 u.2.1 (hn := .nil (zn g))) ?_
          refine dq 2 rfl (fun _ g u h => LWo.assign (e_bool (x37 == (o6.Kind != (0 : Int)))) u.1 (hn := .nil (zn g))) ?_
          refine ⟨rfl, by kernel_rfl, hN35 (x37 == (o6.Kind != (0 : Int))) _ ⟨rfl, trivial⟩ trivial h⟩
      ·intro N27 hN27
       refine LWP.region (l := [_,_,_,_,_,_,_,_,_]) ?_
       refine LWo.fieldPtr u_impl_Value rfl s_int rfl rfl (hn := ?_)
       refine LWo.loadV1 (e_int o6.Kind)  g_int rfl rfl rfl (hn := ?_)
       refine LWo.move (e_int t7) rfl (hn := ?_)
       refine LWo.int _ rfl rfl rfl (hn := ?_)
       refine LWo.move (e_bool (o6.Kind != t7)) rfl (hn := ?_)
       refine LWo.byCases (t := 49) _ rfl (fun h28 => ?_) (fun h28 => ?_)
       ·have h := bT h28 h
        refine LWo.guardY (t := 49) rfl h28 rfl rfl ?_
        refine LWo.fieldPtr u_impl_Value rfl s_int rfl rfl (hn := ?_)
        refine LWo.guardY (t := 49) rfl h28 rfl rfl ?_
        refine LWo.loadV1 (e_int o6.Kind)  g_int rfl rfl rfl (hn := ?_)
        refine LWo.guardY (t := 49) rfl h28 rfl rfl ?_
        refine LWo.int _ rfl rfl rfl (hn := ?_)
        refine LWo.pickTM (e_bool (o6.Kind != (0 : Int))) rfl h28 rfl (hn := ?_)
        refine LWo.nil (hN27 (t3, t4, t5, (o6.Kind != (0 : Int)), o6) _ ⟨rfl, rfl, rfl, rfl, rfl, trivial⟩ ⟨rfl, trivial⟩ h)
       ·have h := bF h28 h
        refine LWo.guardNU (t := 49) rfl h28 rfl rfl rfl rfl rfl ?_
        refine LWo.guardNU (t := 49) rfl h28 rfl rfl rfl rfl rfl ?_
        refine LWo.guardNU (t := 49) rfl h28 rfl rfl rfl rfl rfl ?_
        refine LWo.pickFM (e_bool false) rfl h28 rfl (hn := ?_)
        refine LWo.nil (hN27 (t3, t4, t5, false, o6) _ ⟨rfl, rfl, rfl, rfl, rfl, trivial⟩ ⟨rfl, trivial⟩ h)
    ·intro N19 hN19
     refine LWP.region (l := [_,_,_,_,_,_,_,_]) ?_
     refine LWo.move (e_int x17) rfl (hn := ?_)
     refine LWo.int _ rfl rfl rfl (hn := ?_)
     refine LWo.move (e_bool (decide (x17 < (0 : Int)))) rfl (hn := ?_)
     refine LWo.byCases (t := 33) _ rfl (fun h20 => ?_) (fun h20 => ?_)
     ·have h := bT h20 h
      refine LWo.guardNU (t := 33) rfl h20 rfl rfl rfl rfl rfl ?_
      refine LWo.guardNU (t := 33) rfl h20 rfl rfl rfl rfl rfl ?_
      refine LWo.guardNU (t := 33) rfl h20 rfl rfl rfl rfl rfl ?_
      refine LWo.guardNU (t := 33) rfl h20 rfl rfl rfl rfl rfl ?_
      refine LWo.pickTM (e_bool true) rfl h20 rfl (hn := ?_)
      refine LWo.nil (hN19 (x7.1, x7.2.1, x7.2.2, x17, true, y10) _ ⟨rfl, rfl, rfl, rfl, rfl, rfl, trivial⟩ ⟨rfl, trivial⟩ h)
     ·have h := bF h20 h
      refine LWo.guardY (t := 33) rfl h20 rfl rfl ?_
      refine LWo.move (e_Limpl_Column x7.1) rfl (hn := ?_)
      refine LWo.guardY (t := 33) rfl h20 rfl rfl ?_
      refine LWo.move (e_Limpl_Value x7.2.1) rfl (hn := ?_)
      refine bk h fun x21 e21 h => ?_
      refine LWo.guardY (t := 33) rfl h20 rfl rfl ?_
      refine LWo.vcall rfl rfl (c_impl_RowFits _ _ _ e21) (.same (.same (.nil))) (hn := ?_)
      refine LWo.guardY (t := 33) rfl h20 rfl rfl ?_
      refine LWo.not rfl (hn := ?_)
      refine LWo.pickFM (e_bool (!x21)) rfl h20 rfl (hn := ?_)
      refine LWo.nil (hN19 (x7.1, x7.2.1, x7.2.2, x17, (!x21), y10) _ ⟨rfl, rfl, rfl, rfl, rfl, rfl, trivial⟩ ⟨rfl, trivial⟩ h)
end Go.Proofs.Ytgepipglchpabaa
