/- Mirrors of functions, and that the functions return what the mirrors say. -/
import Derived.Test.YtijihchddhikhaaXW1
set_option linter.unusedVariables false
set_option linter.unusedSimpArgs false
set_option linter.unnecessarySimpa false
namespace Go.Proofs.Ytijihchddhikhaa
open Go.Proofs Go.Lift Go.RowKit
def m_spec_RowsOnce_j2 (o1005 : (List (List S_impl_Value))) : Option (List (List S_impl_Value)) :=
  some o1005
def m_spec_RowsOnce_j1 (k1 : (List (List S_impl_Value)) → Int → (List (List S_impl_Value)) → Option (List (List S_impl_Value))) (t0 : (List (List S_impl_Value))) (t4 : Int) (o1005 : (List (List S_impl_Value))) : Option (List (List S_impl_Value)) :=
  (ckI (t4 + (1 : Int))).bind fun x18 =>
  k1 t0 x18 o1005
def m_spec_RowsOnce_l1 : Nat → (List (List S_impl_Value)) → Int → (List (List S_impl_Value)) → Option (List (List S_impl_Value))
  | 0, _, _, _ => none
  | n1 + 1, t0, t4, o1005 =>
    bif decide (t4 < (t0.length : Int)) then ((at? t0 t4).bind fun x12 =>
    (m_spec_RowMany o1005 x12).bind fun x13 =>
    bif (x13 == (0 : Int)) then ((at? t0 t4).bind fun x15 =>
      (m_spec_l3Own x15).bind fun x16 =>
      (app? o1005 ([x16] : (List (List S_impl_Value)))).bind fun x17 =>
      m_spec_RowsOnce_j1  (m_spec_RowsOnce_l1  n1) t0 t4 x17)
    else (m_spec_RowsOnce_j1  (m_spec_RowsOnce_l1  n1) t0 t4 o1005))
    else (m_spec_RowsOnce_j2  o1005)
def m_spec_RowsOnce (a0 : (List (List S_impl_Value))) : Option (List (List S_impl_Value)) :=
  m_spec_RowsOnce_l1  (((a0.length : Int) - (0 : Int)).toNat + 1) a0 (0 : Int) ([] : (List (List S_impl_Value)))
theorem c_spec_RowsOnce (a0 : (List (List S_impl_Value))) (r : (List (List S_impl_Value))) (h : m_spec_RowsOnce a0 = some r) : Ret Try.prog f_spec_RowsOnce [e_LLimpl_Value a0] (.nw 1 (r.map e_Limpl_Value) false) := by
  refine Does.goG [] F_spec_RowsOnce rfl e_spec_RowsOnce n_spec_RowsOnce rfl (rvs := [.tmp 2]) rfl rfl ?_
  intro w0 ok0 lent ρ0
  refine LWP.seq_k fun N1 hN1 => ?_
  refine LWP.region (l := [_]) ?_
  refine LWo.assign _ rfl (hn := ?_)
  refine LWo.ownNil 2 1002 1 rfl rfl rfl ?_
  refine LWo.known 2 (.own 1002 0 ([] : (List (List S_impl_Value))).length) rfl ?_
  refine LWo.nil (hN1 _ ?_)
  refine LWP.seq_k fun N2 hN2 => ?_
  refine LWP.region (l := [_,_]) ?_
  refine LWo.lit0 1005 u_LLimpl_Value s_Limpl_Value z_Limpl_Value (hn := ?_)
  refine LWo.known 5 (.own 1005 0 ([] : (List (List S_impl_Value))).length) rfl ?_
  refine LWo.assign (.own 1005 0 (([] : (List (List S_impl_Value)))).length) rfl (hn := ?_)
  refine LWo.nil (hN2 _ ?_)
  refine LWP.join (α := (List (List S_impl_Value))) (fun z : (List (List S_impl_Value)) => [(3, (.own 1005 0 (z).length))]) (fun z : (List (List S_impl_Value)) => [(1005, (lob 1 e_Limpl_Value z))]) (fun z : (List (List S_impl_Value)) => m_spec_RowsOnce_j2  z) r (fun _ => by simp [hkeys]) ?_ ?_
  ·rintro o1005 h
   replace h : m_spec_RowsOnce_j2  o1005 = some _ := h
   refine LWP.seq_k fun N19 hN19 => ?_
   refine LWP.region (l := [_,_]) ?_
   refine LWo.move (.own 1005 0 (o1005).length) rfl (hn := ?_)
   refine LWo.assign (.own 1005 0 (o1005).length) rfl (hn := ?_)
   refine LWo.nil (hN19 _ ?_)
   obtain rfl := Option.some.inj h
   refine LWP.ret (QG.mk (.inr rfl) (.cons (.tmp (x := (.own 1005 0 (o1005).length)) rfl) (.nil)) (RetOK.one0 (.nwM rfl rfl) (by decide)) rfl rfl)
  ·intro N3 hN3
   refine LWP.seq_k fun N4 hN4 => ?_
   refine LWP.region (l := [_]) ?_
   refine LWo.assign (e_int (0 : Int)) rfl (hn := ?_)
   refine LWo.nil (hN4 _ ?_)
   refine LWP.block ?_
   refine LWP.loopM (α := (List (List S_impl_Value)) × Int × (List (List S_impl_Value))) (fun z : (List (List S_impl_Value)) × Int × (List (List S_impl_Value)) => [(0, (e_LLimpl_Value z.1)), (3, (.own 1005 0 (z.2.2).length)), (4, (e_int z.2.1))]) (fun z : (List (List S_impl_Value)) × Int × (List (List S_impl_Value)) => [(1005, (lob 1 e_Limpl_Value z.2.2))]) (fun n1 (z : (List (List S_impl_Value)) × Int × (List (List S_impl_Value))) => m_spec_RowsOnce_l1  n1 z.1 z.2.1 z.2.2) r _ (a0, (0 : Int), ([] : (List (List S_impl_Value)))) h (fun _ => rfl) (fun _ => by simp [hkeys]) ⟨rfl, rfl, rfl, trivial⟩ ⟨rfl, trivial⟩ ?_
   rintro n1 ⟨t0, t4, o1005⟩ h N5 hN5
   replace h : m_spec_RowsOnce_l1  (n1 + 1) t0 t4 o1005 = some _ := h
   refine LWP.seq_k fun N7 hN7 => ?_
   refine LWP.seq_k fun N8 hN8 => ?_
   refine LWP.region (l := [_,_,_,_]) ?_
   refine LWo.move (e_int t4) rfl (hn := ?_)
   refine LWo.move (e_LLimpl_Value t0) rfl (hn := ?_)
   refine LWo.lenM (f := e_Limpl_Value) (l := t0) u_LLimpl_Value rfl (hn := ?_)
   refine LWo.int _ rfl rfl rfl (hn := ?_)
   refine LWo.nil (hN8 _ ?_)
   refine LWP.cond_split rfl (fun h9 => ?_) (fun h9 => ?_)
   ·have h := bT h9 h
    refine LWP.skip (hN7 _ ?_)
    refine LWP.join (α := (List (List S_impl_Value)) × Int × (List (List S_impl_Value))) (fun z : (List (List S_impl_Value)) × Int × (List (List S_impl_Value)) => [(0, (e_LLimpl_Value z.1)), (3, (.own 1005 0 (z.2.2).length)), (4, (e_int z.2.1))]) (fun z : (List (List S_impl_Value)) × Int × (List (List S_impl_Value)) => [(1005, (lob 1 e_Limpl_Value z.2.2))]) (fun z : (List (List S_impl_Value)) × Int × (List (List S_impl_Value)) => m_spec_RowsOnce_j1  (m_spec_RowsOnce_l1  n1) z.1 z.2.1 z.2.2) r (fun _ => by simp [hkeys]) ?_ ?_
    ·rintro ⟨t0, t4, o1005⟩ h
     replace h : m_spec_RowsOnce_j1  (m_spec_RowsOnce_l1  n1) t0 t4 o1005 = some _ := h
     refine LWP.region (l := [_,_,_]) ?_
     refine LWo.move (e_int t4) rfl (hn := ?_)
     refine bk h fun x18 e18 h => ?_
     refine LWo.int _ rfl rfl (add_ck e18) (hn := ?_)
     refine LWo.assign (e_int x18) rfl (hn := ?_)
     refine LWo.nil (hN5 (t0, x18, o1005) _ ⟨rfl, rfl, rfl, trivial⟩ ⟨rfl, trivial⟩ h)
    ·intro N10 hN10
     refine LWP.block ?_
     refine LWP.seq_k fun N11 hN11 => ?_
     refine LWP.region (l := [_,_,_,_,_,_,_]) ?_
     refine LWo.move (.own 1005 0 (o1005).length) rfl (hn := ?_)
     refine LWo.move (e_LLimpl_Value t0) rfl (hn := ?_)
     refine LWo.move (e_int t4) rfl (hn := ?_)
     refine bk h fun x12 e12 h => ?_
     refine LWo.indexM (f := e_Limpl_Value) e12 u_LLimpl_Value s_Limpl_Value rfl rfl (hn := ?_)
     refine LWo.load1 (c := (e_Limpl_Value x12)) g_Limpl_Value rfl (hn := ?_)
     refine bk h fun x13 e13 h => ?_
     refine LWo.wcall rfl rfl (c_spec_RowMany _ _ _ e13) (.viewM rfl rfl rfl (.same (.nil))) rfl (hn := ?_)
     refine LWo.int _ rfl rfl rfl (hn := ?_)
     refine LWo.nil (hN11 _ ?_)
     refine LWP.cond_split rfl (fun h14 => ?_) (fun h14 => ?_)
     ·have h := bT h14 h
      refine LWP.region (l := [_,_,_,_,_,_,_,_,_]) ?_
      refine LWo.move (.own 1005 0 (o1005).length) rfl (hn := ?_)
      refine LWo.move (e_LLimpl_Value t0) rfl (hn := ?_)
      refine LWo.move (e_int t4) rfl (hn := ?_)
      refine bk h fun x15 e15 h => ?_
      refine LWo.indexM (f := e_Limpl_Value) e15 u_LLimpl_Value s_Limpl_Value rfl rfl (hn := ?_)
      refine LWo.load1 (c := (e_Limpl_Value x15)) g_Limpl_Value rfl (hn := ?_)
      refine bk h fun x16 e16 h => ?_
      refine LWo.vcall rfl rfl (c_spec_l3Own _ _ e16) (.same (.nil)) (hn := ?_)
      refine LWo.lit (ops := [_]) [(e_Limpl_Value x16)] u_LLimpl_Value s_Limpl_Value z_Limpl_Value rfl rfl rfl rfl rfl rfl (hn := ?_)
      refine bk h fun x17 e17 h => ?_
      refine LWo.appendM (f := e_Limpl_Value) e17 rfl u_LLimpl_Value u_LLimpl_Value (fun _ h => by cases h) s_Limpl_Value i_Limpl_Value rfl rfl rfl (.sl rfl) rfl rfl (hn := ?_)
      refine LWo.assign (.own 1005 0 (x17).length) rfl (hn := ?_)
      refine LWo.nil (hN10 (t0, t4, x17) _ ⟨rfl, rfl, rfl, trivial⟩ ⟨rfl, trivial⟩ h)
     ·have h := bF h14 h
      refine LWP.skip (hN10 (t0, t4, o1005) _ ⟨rfl, rfl, rfl, trivial⟩ ⟨rfl, trivial⟩ h)
   ·have h := bF h9 h
    refine LWP.exit (hN3 o1005 _ ⟨rfl, trivial⟩ ⟨rfl, trivial⟩ h)

def m_spec_l1Less (a0 : Int) (a1 : Int) : Option Int :=
  bif decide (a0 < a1) then (some (1 : Int))
  else (some (0 : Int))
theorem c_spec_l1Less (a0 : Int) (a1 : Int) (r : Int) (h : m_spec_l1Less a0 a1 = some r) : Ret Try.prog f_spec_l1Less [e_int a0, e_int a1] (e_int r) := by
  refine Does.goG [] F_spec_l1Less rfl e_spec_l1Less n_spec_l1Less rfl (rvs := [.tmp 4]) rfl rfl ?_
  intro w0 ok0 lent ρ0
  refine LWP.seq_k fun N1 hN1 => ?_
  refine LWP.region (l := [_]) ?_
  refine LWo.assign (e_int (0 : Int)) rfl (hn := ?_)
  refine LWo.nil (hN1 _ ?_)
  refine LWP.seq_k fun N2 hN2 => ?_
  refine LWP.seq_k fun N3 hN3 => ?_
  refine LWP.region (l := [_,_,_]) ?_
  refine LWo.move (e_int a0) rfl (hn := ?_)
  refine LWo.move (e_int a1) rfl (hn := ?_)
  refine LWo.int _ rfl rfl rfl (hn := ?_)
  refine LWo.nil (hN3 _ ?_)
  refine LWP.cond_split rfl (fun h4 => ?_) (fun h4 => ?_)
  ·have h := bT h4 h
   refine LWP.seq_k fun N5 hN5 => ?_
   refine LWP.region (l := [_]) ?_
   refine LWo.assign (e_int (1 : Int)) rfl (hn := ?_)
   refine LWo.nil (hN5 _ ?_)
   obtain rfl := Option.some.inj h
   refine LWP.ret (QG.mk (.inr rfl) (.cons (.tmp (x := (e_int (1 : Int))) rfl) (.nil)) (RetOK.one0 (.pure rfl) (by decide)) rfl rfl)
  ·have h := bF h4 h
   refine LWP.skip (hN2 _ ?_)
   refine LWP.seq_k fun N6 hN6 => ?_
   refine LWP.region (l := [_]) ?_
   refine LWo.assign (e_int (0 : Int)) rfl (hn := ?_)
   refine LWo.nil (hN6 _ ?_)
   obtain rfl := Option.some.inj h
   refine LWP.ret (QG.mk (.inr rfl) (.cons (.tmp (x := (e_int (0 : Int))) rfl) (.nil)) (RetOK.one0 (.pure rfl) (by decide)) rfl rfl)

def m_spec_l1Cmp (a0 : ByteArray) (a1 : ByteArray) : Option Int :=
  bif (sLt a0 a1) then (some (-1 : Int))
  else (bif (!(sLt a0 a1 || sEq a0 a1)) then (some (1 : Int))
  else (some (0 : Int)))
theorem c_spec_l1Cmp (a0 : ByteArray) (a1 : ByteArray) (r : Int) (h : m_spec_l1Cmp a0 a1 = some r) : Ret Try.prog f_spec_l1Cmp [e_string a0, e_string a1] (e_int r) := by
  refine Does.goG [] F_spec_l1Cmp rfl e_spec_l1Cmp n_spec_l1Cmp rfl (rvs := [.tmp 4]) rfl rfl ?_
  intro w0 ok0 lent ρ0
  refine LWP.seq_k fun N1 hN1 => ?_
  refine LWP.region (l := [_]) ?_
  refine LWo.assign (e_int (0 : Int)) rfl (hn := ?_)
  refine LWo.nil (hN1 _ ?_)
  refine LWP.seq_k fun N2 hN2 => ?_
  refine LWP.seq_k fun N3 hN3 => ?_
  refine LWP.region (l := [_,_,_]) ?_
  refine LWo.move (e_string a0) rfl (hn := ?_)
  refine LWo.move (e_string a1) rfl (hn := ?_)
  refine LWo.str _ rfl rfl rfl (hn := ?_)
  refine LWo.nil (hN3 _ ?_)
  refine LWP.cond_split rfl (fun h4 => ?_) (fun h4 => ?_)
  ·have h := bT h4 h
   refine LWP.seq_k fun N5 hN5 => ?_
   refine LWP.region (l := [_]) ?_
   refine LWo.assign (e_int (-1 : Int)) rfl (hn := ?_)
   refine LWo.nil (hN5 _ ?_)
   obtain rfl := Option.some.inj h
   refine LWP.ret (QG.mk (.inr rfl) (.cons (.tmp (x := (e_int (-1 : Int))) rfl) (.nil)) (RetOK.one0 (.pure rfl) (by decide)) rfl rfl)
  ·have h := bF h4 h
   refine LWP.skip (hN2 _ ?_)
   refine LWP.seq_k fun N6 hN6 => ?_
   refine LWP.seq_k fun N7 hN7 => ?_
   refine LWP.region (l := [_,_,_]) ?_
   refine LWo.move (e_string a0) rfl (hn := ?_)
   refine LWo.move (e_string a1) rfl (hn := ?_)
   refine LWo.str _ rfl rfl rfl (hn := ?_)
   refine LWo.nil (hN7 _ ?_)
   refine LWP.cond_split rfl (fun h8 => ?_) (fun h8 => ?_)
   ·have h := bT h8 h
    refine LWP.seq_k fun N9 hN9 => ?_
    refine LWP.region (l := [_]) ?_
    refine LWo.assign (e_int (1 : Int)) rfl (hn := ?_)
    refine LWo.nil (hN9 _ ?_)
    obtain rfl := Option.some.inj h
    refine LWP.ret (QG.mk (.inr rfl) (.cons (.tmp (x := (e_int (1 : Int))) rfl) (.nil)) (RetOK.one0 (.pure rfl) (by decide)) rfl rfl)
   ·have h := bF h8 h
    refine LWP.skip (hN6 _ ?_)
    refine LWP.seq_k fun N10 hN10 => ?_
    refine LWP.region (l := [_]) ?_
    refine LWo.assign (e_int (0 : Int)) rfl (hn := ?_)
    refine LWo.nil (hN10 _ ?_)
    obtain rfl := Option.some.inj h
    refine LWP.ret (QG.mk (.inr rfl) (.cons (.tmp (x := (e_int (0 : Int))) rfl) (.nil)) (RetOK.one0 (.pure rfl) (by decide)) rfl rfl)

def m_spec_ValueOrder_j1 (t2 : S_impl_Value) (t3 : S_impl_Value) (t12 : Bool) : Option Int :=
  bif t12 then (some (0 : Int))
  else (bif (t2.Kind != t3.Kind) then ((m_spec_l1Less t3.Kind t2.Kind).bind fun x13 =>
  (ckI ((2 : Int) * x13)).bind fun x14 =>
  (ckI (x14 - (1 : Int))).bind fun x15 =>
  some x15)
  else (bif (t2.N != t3.N) then ((m_spec_l1Less t3.N t2.N).bind fun x19 =>
    (ckI ((2 : Int) * x19)).bind fun x20 =>
    (ckI (x20 - (1 : Int))).bind fun x21 =>
    some x21)
  else ((m_spec_l1Cmp t2.S t3.S).bind fun x23 =>
  some x23)))
def m_spec_ValueOrder (a0 : S_impl_Value) (a1 : S_impl_Value) : Option Int :=
  (m_spec_ValueOk a0).bind fun x4 =>
  bif (!x4) then (m_spec_ValueOrder_j1  a0 a1 true)
  else ((m_spec_ValueOk a1).bind fun x6 =>
    m_spec_ValueOrder_j1  a0 a1 (!x6))
theorem c_spec_ValueOrder (a0 : S_impl_Value) (a1 : S_impl_Value) (r : Int) (h : m_spec_ValueOrder a0 a1 = some r) : Ret Try.prog f_spec_ValueOrder [e_impl_Value a0, e_impl_Value a1] (e_int r) := by
  refine Does.goG [] F_spec_ValueOrder rfl e_spec_ValueOrder n_spec_ValueOrder rfl (rvs := [.tmp 4]) rfl rfl ?_
  intro w0 ok0 lent ρ0
  refine LWP.seq_k fun N1 hN1 => ?_
  refine LWP.region (l := [_,_,_]) ?_
  refine LWo.boxF (e_impl_Value a0) rfl rfl rfl (hn := ?_)
  refine LWo.boxF (e_impl_Value a1) rfl rfl rfl (hn := ?_)
  refine LWo.assign (e_int (0 : Int)) rfl (hn := ?_)
  refine LWo.nil (hN1 _ ?_)
  refine LWP.seq_k fun N2 hN2 => ?_
  refine LWP.join (α := S_impl_Value × S_impl_Value × Bool) (fun z : S_impl_Value × S_impl_Value × Bool => [(2, (.fp (e_impl_Value z.1).cells)), (3, (.fp (e_impl_Value z.2.1).cells)), (12, (e_bool z.2.2))]) (fun z : S_impl_Value × S_impl_Value × Bool => []) (fun z : S_impl_Value × S_impl_Value × Bool => m_spec_ValueOrder_j1  z.1 z.2.1 z.2.2) r (fun _ => by simp [hkeys]) ?_ ?_
  ·rintro ⟨t2, t3, t12⟩ h
   replace h : m_spec_ValueOrder_j1  t2 t3 t12 = some _ := h
   refine LWP.cond_split rfl (fun h7 => ?_) (fun h7 => ?_)
   ·have h := bT h7 h
    refine LWP.seq_k fun N8 hN8 => ?_
    refine LWP.region (l := [_]) ?_
    refine LWo.assign (e_int (0 : Int)) rfl (hn := ?_)
    refine LWo.nil (hN8 _ ?_)
    obtain rfl := Option.some.inj h
    refine LWP.ret (QG.mk (.inr rfl) (.cons (.tmp (x := (e_int (0 : Int))) rfl) (.nil)) (RetOK.one0 (.pure rfl) (by decide)) rfl rfl)
   ·have h := bF h7 h
    refine LWP.skip (hN2 _ ?_)
    refine LWP.seq_k fun N9 hN9 => ?_
    refine LWP.block ?_
    refine LWP.seq_k fun N10 hN10 => ?_
    refine LWP.region (l := [_,_,_,_,_,_]) ?_
    refine LWo.fieldAddr _ u_impl_Value rfl s_int rfl rfl (hn := ?_)
    refine LWo.load1 (c := (e_int t2.Kind)) g_int rfl (hn := ?_)
    refine LWo.fieldAddr _ u_impl_Value rfl s_int rfl rfl (hn := ?_)
    refine LWo.load1 (c := (e_int t3.Kind)) g_int rfl (hn := ?_)
    refine LWo.int _ rfl rfl rfl (hn := ?_)
    refine LWo.assign (e_bool (t2.Kind != t3.Kind)) rfl (hn := ?_)
    refine LWo.nil (hN10 _ ?_)
    refine LWP.cond_split rfl (fun h11 => ?_) (fun h11 => ?_)
    ·have h := bT h11 h
     refine LWP.seq_k fun N12 hN12 => ?_
     refine LWP.region (l := [_,_,_,_,_,_,_,_]) ?_
     refine LWo.fieldAddr _ u_impl_Value rfl s_int rfl rfl (hn := ?_)
     refine LWo.load1 (c := (e_int t3.Kind)) g_int rfl (hn := ?_)
     refine LWo.fieldAddr _ u_impl_Value rfl s_int rfl rfl (hn := ?_)
     refine LWo.load1 (c := (e_int t2.Kind)) g_int rfl (hn := ?_)
     refine bk h fun x13 e13 h => ?_
     refine LWo.vcall rfl rfl (c_spec_l1Less _ _ _ e13) (.same (.same (.nil))) (hn := ?_)
     refine bk h fun x14 e14 h => ?_
     refine LWo.int _ rfl rfl (mul_ck e14) (hn := ?_)
     refine bk h fun x15 e15 h => ?_
     refine LWo.int _ rfl rfl (sub_ck e15) (hn := ?_)
     refine LWo.assign (e_int x15) rfl (hn := ?_)
     refine LWo.nil (hN12 _ ?_)
     obtain rfl := Option.some.inj h
     refine LWP.ret (QG.mk (.inr rfl) (.cons (.tmp (x := (e_int x15)) rfl) (.nil)) (RetOK.one0 (.pure rfl) (by decide)) rfl rfl)
    ·have h := bF h11 h
     refine LWP.seq_k fun N16 hN16 => ?_
     refine LWP.region (l := [_,_,_,_,_,_]) ?_
     refine LWo.fieldAddr _ u_impl_Value rfl s_int rfl rfl (hn := ?_)
     refine LWo.load1 (c := (e_int t2.N)) g_int rfl (hn := ?_)
     refine LWo.fieldAddr _ u_impl_Value rfl s_int rfl rfl (hn := ?_)
     refine LWo.load1 (c := (e_int t3.N)) g_int rfl (hn := ?_)
     refine LWo.int _ rfl rfl rfl (hn := ?_)
     refine LWo.assign (e_bool (t2.N != t3.N)) rfl (hn := ?_)
     refine LWo.nil (hN16 _ ?_)
     refine LWP.cond_split rfl (fun h17 => ?_) (fun h17 => ?_)
     ·have h := bT h17 h
      refine LWP.seq_k fun N18 hN18 => ?_
      refine LWP.region (l := [_,_,_,_,_,_,_,_]) ?_
      refine LWo.fieldAddr _ u_impl_Value rfl s_int rfl rfl (hn := ?_)
      refine LWo.load1 (c := (e_int t3.N)) g_int rfl (hn := ?_)
      refine LWo.fieldAddr _ u_impl_Value rfl s_int rfl rfl (hn := ?_)
      refine LWo.load1 (c := (e_int t2.N)) g_int rfl (hn := ?_)
      refine bk h fun x19 e19 h => ?_
      refine LWo.vcall rfl rfl (c_spec_l1Less _ _ _ e19) (.same (.same (.nil))) (hn := ?_)
      refine bk h fun x20 e20 h => ?_
      refine LWo.int _ rfl rfl (mul_ck e20) (hn := ?_)
      refine bk h fun x21 e21 h => ?_
      refine LWo.int _ rfl rfl (sub_ck e21) (hn := ?_)
      refine LWo.assign (e_int x21) rfl (hn := ?_)
      refine LWo.nil (hN18 _ ?_)
      obtain rfl := Option.some.inj h
      refine LWP.ret (QG.mk (.inr rfl) (.cons (.tmp (x := (e_int x21)) rfl) (.nil)) (RetOK.one0 (.pure rfl) (by decide)) rfl rfl)
     ·have h := bF h17 h
      refine LWP.skip (hN9 _ ?_)
      refine LWP.seq_k fun N22 hN22 => ?_
      refine LWP.region (l := [_,_,_,_,_,_]) ?_
      refine LWo.fieldAddr _ u_impl_Value rfl s_string rfl rfl (hn := ?_)
      refine LWo.load1 (c := (e_string t2.S)) g_string rfl (hn := ?_)
      refine LWo.fieldAddr _ u_impl_Value rfl s_string rfl rfl (hn := ?_)
      refine LWo.load1 (c := (e_string t3.S)) g_string rfl (hn := ?_)
      refine bk h fun x23 e23 h => ?_
      refine LWo.vcall rfl rfl (c_spec_l1Cmp _ _ _ e23) (.same (.same (.nil))) (hn := ?_)
      refine LWo.assign (e_int x23) rfl (hn := ?_)
      refine LWo.nil (hN22 _ ?_)
      obtain rfl := Option.some.inj h
      refine LWP.ret (QG.mk (.inr rfl) (.cons (.tmp (x := (e_int x23)) rfl) (.nil)) (RetOK.one0 (.pure rfl) (by decide)) rfl rfl)
  ·intro N3 hN3
   refine LWP.region (l := [_,_,_,_,_,_,_,_]) ?_
   refine LWo.loadN ((e_impl_Value a0)).cells g_impl_Value s_impl_Value rfl (Nat.le_of_ble_eq_true rfl) rfl (hn := ?_)
   refine bk h fun x4 e4 h => ?_
   refine LWo.vcall rfl rfl (c_spec_ValueOk _ _ e4) (.same (.nil)) (hn := ?_)
   refine LWo.not rfl (hn := ?_)
   refine LWo.move (e_bool (!x4)) rfl (hn := ?_)
   refine LWo.byCases (t := 8) _ rfl (fun h5 => ?_) (fun h5 => ?_)
   ·have h := bT h5 h
    refine LWo.guardNU (t := 8) rfl h5 rfl rfl rfl rfl rfl ?_
    refine LWo.guardNU (t := 8) rfl h5 rfl rfl rfl rfl rfl ?_
    refine LWo.guardNU (t := 8) rfl h5 rfl rfl rfl rfl rfl ?_
    refine LWo.pickTM (e_bool true) rfl h5 rfl (hn := ?_)
    refine LWo.nil (hN3 (a0, a1, true) _ ⟨rfl, rfl, rfl, trivial⟩ trivial h)
   ·have h := bF h5 h
    refine LWo.guardY (t := 8) rfl h5 rfl rfl ?_
    refine LWo.loadN ((e_impl_Value a1)).cells g_impl_Value s_impl_Value rfl (Nat.le_of_ble_eq_true rfl) rfl (hn := ?_)
    refine bk h fun x6 e6 h => ?_
    refine LWo.guardY (t := 8) rfl h5 rfl rfl ?_
    refine LWo.vcall rfl rfl (c_spec_ValueOk _ _ e6) (.same (.nil)) (hn := ?_)
    refine LWo.guardY (t := 8) rfl h5 rfl rfl ?_
    refine LWo.not rfl (hn := ?_)
    refine LWo.pickFM (e_bool (!x6)) rfl h5 rfl (hn := ?_)
    refine LWo.nil (hN3 (a0, a1, (!x6)) _ ⟨rfl, rfl, rfl, trivial⟩ trivial h)

def m_spec_RowOrder_j3 (t0 : (List S_impl_Value)) (t1 : (List S_impl_Value)) : Option Int :=
  (m_spec_l1Less (t1.length : Int) (t0.length : Int)).bind fun x27 =>
  (m_spec_l1Less (t0.length : Int) (t1.length : Int)).bind fun x28 =>
  (ckI (x27 - x28)).bind fun x29 =>
  some x29
def m_spec_RowOrder_j2 (k1 : (List S_impl_Value) → (List S_impl_Value) → Int → Option Int) (t0 : (List S_impl_Value)) (t1 : (List S_impl_Value)) (t5 : Int) (t24 : Bool) : Option Int :=
  bif t24 then ((at? t0 t5).bind fun x19 =>
  (at? t1 t5).bind fun x20 =>
  (m_spec_ValueOrder x19 x20).bind fun x21 =>
  bif (x21 != (0 : Int)) then (some x21)
  else ((ckI (t5 + (1 : Int))).bind fun x25 =>
  k1 t0 t1 x25))
  else (m_spec_RowOrder_j3  t0 t1)
def m_spec_RowOrder_l1 : Nat → (List S_impl_Value) → (List S_impl_Value) → Int → Option Int
  | 0, _, _, _ => none
  | n1 + 1, t0, t1, t5 =>
    bif decide (t5 < (t0.length : Int)) then (m_spec_RowOrder_j2  (m_spec_RowOrder_l1  n1) t0 t1 t5 (decide (t5 < (t1.length : Int))))
    else (m_spec_RowOrder_j2  (m_spec_RowOrder_l1  n1) t0 t1 t5 false)
def m_spec_RowOrder_j1 (t0 : (List S_impl_Value)) (t1 : (List S_impl_Value)) (t14 : Bool) : Option Int :=
  bif t14 then (some (0 : Int))
  else (m_spec_RowOrder_l1  (1000000000) t0 t1 (0 : Int))
def m_spec_RowOrder (a0 : (List S_impl_Value)) (a1 : (List S_impl_Value)) : Option Int :=
  (m_spec_RowOk a0).bind fun x4 =>
  bif (!x4) then (m_spec_RowOrder_j1  a0 a1 true)
  else ((m_spec_RowOk a1).bind fun x6 =>
    m_spec_RowOrder_j1  a0 a1 (!x6))
theorem c_spec_RowOrder (a0 : (List S_impl_Value)) (a1 : (List S_impl_Value)) (r : Int) (h : m_spec_RowOrder a0 a1 = some r) : Ret Try.prog f_spec_RowOrder [e_Limpl_Value a0, e_Limpl_Value a1] (e_int r) := by
  refine Does.goG [] F_spec_RowOrder rfl e_spec_RowOrder n_spec_RowOrder rfl (rvs := [.tmp 4]) rfl rfl ?_
  intro w0 ok0 lent ρ0
  refine LWP.seq_k fun N1 hN1 => ?_
  refine LWP.region (l := [_]) ?_
  refine LWo.assign (e_int (0 : Int)) rfl (hn := ?_)
  refine LWo.nil (hN1 _ ?_)
  refine LWP.seq_k fun N2 hN2 => ?_
  refine LWP.join (α := (List S_impl_Value) × (List S_impl_Value) × Bool) (fun z : (List S_impl_Value) × (List S_impl_Value) × Bool => [(0, (e_Limpl_Value z.1)), (1, (e_Limpl_Value z.2.1)), (14, (e_bool z.2.2))]) (fun z : (List S_impl_Value) × (List S_impl_Value) × Bool => []) (fun z : (List S_impl_Value) × (List S_impl_Value) × Bool => m_spec_RowOrder_j1  z.1 z.2.1 z.2.2) r (fun _ => by simp [hkeys]) ?_ ?_
  ·rintro ⟨t0, t1, t14⟩ h
   replace h : m_spec_RowOrder_j1  t0 t1 t14 = some _ := h
   refine LWP.cond_split rfl (fun h7 => ?_) (fun h7 => ?_)
   ·have h := bT h7 h
    refine LWP.seq_k fun N8 hN8 => ?_
    refine LWP.region (l := [_]) ?_
    refine LWo.assign (e_int (0 : Int)) rfl (hn := ?_)
    refine LWo.nil (hN8 _ ?_)
    obtain rfl := Option.some.inj h
    refine LWP.ret (QG.mk (.inr rfl) (.cons (.tmp (x := (e_int (0 : Int))) rfl) (.nil)) (RetOK.one0 (.pure rfl) (by decide)) rfl rfl)
   ·have h := bF h7 h
    refine LWP.skip (hN2 _ ?_)
    refine LWP.join (α := (List S_impl_Value) × (List S_impl_Value)) (fun z : (List S_impl_Value) × (List S_impl_Value) => [(0, (e_Limpl_Value z.1)), (1, (e_Limpl_Value z.2))]) (fun z : (List S_impl_Value) × (List S_impl_Value) => []) (fun z : (List S_impl_Value) × (List S_impl_Value) => m_spec_RowOrder_j3  z.1 z.2) r (fun _ => by simp [hkeys]) ?_ ?_
    ·rintro ⟨t0, t1⟩ h
     replace h : m_spec_RowOrder_j3  t0 t1 = some _ := h
     refine LWP.seq_k fun N26 hN26 => ?_
     refine LWP.region (l := [_,_,_,_,_,_,_,_,_,_,_,_]) ?_
     refine LWo.move (e_Limpl_Value t1) rfl (hn := ?_)
     refine LWo.lenM (f := e_impl_Value) (l := t1) u_Limpl_Value rfl (hn := ?_)
     refine LWo.move (e_Limpl_Value t0) rfl (hn := ?_)
     refine LWo.lenM (f := e_impl_Value) (l := t0) u_Limpl_Value rfl (hn := ?_)
     refine bk h fun x27 e27 h => ?_
     refine LWo.vcall rfl rfl (c_spec_l1Less _ _ _ e27) (.same (.same (.nil))) (hn := ?_)
     refine LWo.move (e_Limpl_Value t0) rfl (hn := ?_)
     refine LWo.lenM (f := e_impl_Value) (l := t0) u_Limpl_Value rfl (hn := ?_)
     refine LWo.move (e_Limpl_Value t1) rfl (hn := ?_)
     refine LWo.lenM (f := e_impl_Value) (l := t1) u_Limpl_Value rfl (hn := ?_)
     refine bk h fun x28 e28 h => ?_
     refine LWo.vcall rfl rfl (c_spec_l1Less _ _ _ e28) (.same (.same (.nil))) (hn := ?_)
     refine bk h fun x29 e29 h => ?_
     refine LWo.int _ rfl rfl (sub_ck e29) (hn := ?_)
     refine LWo.assign (e_int x29) rfl (hn := ?_)
     refine LWo.nil (hN26 _ ?_)
     obtain rfl := Option.some.inj h
     refine LWP.ret (QG.mk (.inr rfl) (.cons (.tmp (x := (e_int x29)) rfl) (.nil)) (RetOK.one0 (.pure rfl) (by decide)) rfl rfl)
    ·intro N9 hN9
     refine LWP.seq_k fun N10 hN10 => ?_
     refine LWP.region (l := [_]) ?_
     refine LWo.assign (e_int (0 : Int)) rfl (hn := ?_)
     refine LWo.nil (hN10 _ ?_)
     refine LWP.block ?_
     refine LWP.loopM (α := (List S_impl_Value) × (List S_impl_Value) × Int) (fun z : (List S_impl_Value) × (List S_impl_Value) × Int => [(0, (e_Limpl_Value z.1)), (1, (e_Limpl_Value z.2.1)), (5, (e_int z.2.2))]) (fun z : (List S_impl_Value) × (List S_impl_Value) × Int => []) (fun n1 (z : (List S_impl_Value) × (List S_impl_Value) × Int) => m_spec_RowOrder_l1  n1 z.1 z.2.1 z.2.2) r _ (t0, t1, (0 : Int)) h (fun _ => rfl) (fun _ => by simp [hkeys]) ⟨rfl, rfl, rfl, trivial⟩ trivial ?_
     rintro n1 ⟨t0, t1, t5⟩ h N11 hN11
     replace h : m_spec_RowOrder_l1  (n1 + 1) t0 t1 t5 = some _ := h
     refine LWP.seq_k fun N13 hN13 => ?_
     refine LWP.join (α := (List S_impl_Value) × (List S_impl_Value) × Int × Bool) (fun z : (List S_impl_Value) × (List S_impl_Value) × Int × Bool => [(0, (e_Limpl_Value z.1)), (1, (e_Limpl_Value z.2.1)), (5, (e_int z.2.2.1)), (24, (e_bool z.2.2.2))]) (fun z : (List S_impl_Value) × (List S_impl_Value) × Int × Bool => []) (fun z : (List S_impl_Value) × (List S_impl_Value) × Int × Bool => m_spec_RowOrder_j2  (m_spec_RowOrder_l1  n1) z.1 z.2.1 z.2.2.1 z.2.2.2) r (fun _ => by simp [hkeys]) ?_ ?_
     ·rintro ⟨t0, t1, t5, t24⟩ h
      replace h : m_spec_RowOrder_j2  (m_spec_RowOrder_l1  n1) t0 t1 t5 t24 = some _ := h
      refine LWP.cond_split rfl (fun h16 => ?_) (fun h16 => ?_)
      ·have h := bT h16 h
       refine LWP.skip (hN13 _ ?_)
       refine LWP.seq_k fun N17 hN17 => ?_
       refine LWP.block ?_
       refine LWP.seq_k fun N18 hN18 => ?_
       refine bk h fun x19 e19 h => ?_
       refine bk h fun x20 e20 h => ?_
       refine bk h fun x21 e21 h => ?_
       refine LWP.drawF (l := [_,_,_,_,_,_,_,_,_,_]) [] [0, 1, 5] [([0], []), ([5], []), ([27, 28], []), ([29], []), ([1], []), ([5], []), ([31, 32], []), ([33], []), ([30, 34], []), ([35], [])] [0, 1, 5, 6] [] mixed (by kernel_rfl) rfl (by decide) ?_
       refine dq 27 rfl (fun _ g u h => LWo.move (e_Limpl_Value t0) u.1 (hn := .nil (zn g))) ?_
       refine dq 28 rfl (fun _ g u h => LWo.move (e_int t5) u.1 (hn := .nil (zn g))) ?_
       refine dq 29 rfl (fun _ g u h => LWo.indexM (f := e_impl_Value) e19 u_Limpl_Value s_impl_Value u.1 u.2.1 (hn := .nil (zn g))) ?_
       refine dq 30 rfl (fun _ g u h => LWo.loadN ((e_impl_Value x19)).cells g_impl_Value s_impl_Value u.1 (Nat.le_of_ble_eq_true rfl) rfl (hn := .nil (zn g))) ?_
       refine dq 31 rfl (fun _ g u h => LWo.move (e_Limpl_Value t1) u.1 (hn := .nil (zn g))) ?_
       refine dq 32 rfl (fun _ g u h => LWo.move (e_int t5) u.1 (hn := .nil (zn g))) ?_
       refine dq 33 rfl (fun _ g u h => LWo.indexM (f := e_impl_Value) e20 u_Limpl_Value s_impl_Value u.1 u.2.1 (hn := .nil (zn g))) ?_
       refine dq 34 rfl (fun _ g u h => LWo.loadN ((e_impl_Value x20)).cells g_impl_Value s_impl_Value u.1 (Nat.le_of_ble_eq_true rfl) rfl (hn := .nil (zn g))) ?_
       refine dq 35 rfl (fun _ g u h => LWo.vcall rfl (av2 u.1 u.2.1) (c_spec_ValueOrder _ _ _ e21) (.same (.same (.nil))) (hn := .nil (zn g))) ?_
       refine dq 6 rfl (fun _ g u h => LWo.assign (e_int x21) u.1 (hn := .nil (zn g))) ?_
       refine ⟨rfl, by kernel_rfl, hN18 _ ?_⟩
       refine LWP.seq_k fun N22 hN22 => ?_
       refine LWP.region (l := [_,_]) ?_
       refine LWo.move (e_int x21) rfl (hn := ?_)
       refine LWo.int _ rfl rfl rfl (hn := ?_)
       refine LWo.nil (hN22 _ ?_)
       refine LWP.cond_split rfl (fun h23 => ?_) (fun h23 => ?_)
       ·have h := bT h23 h
        refine LWP.seq_k fun N24 hN24 => ?_
        refine LWP.region (l := [_,_]) ?_
        refine LWo.move (e_int x21) rfl (hn := ?_)
        refine LWo.assign (e_int x21) rfl (hn := ?_)
        refine LWo.nil (hN24 _ ?_)
        obtain rfl := Option.some.inj h
        refine LWP.ret (QG.mk (.inr rfl) (.cons (.tmp (x := (e_int x21)) rfl) (.nil)) (RetOK.one0 (.pure rfl) (by decide)) rfl rfl)
       ·have h := bF h23 h
        refine LWP.skip (hN17 _ ?_)
        refine LWP.region (l := [_,_,_]) ?_
        refine LWo.move (e_int t5) rfl (hn := ?_)
        refine bk h fun x25 e25 h => ?_
        refine LWo.int _ rfl rfl (add_ck e25) (hn := ?_)
        refine LWo.assign (e_int x25) rfl (hn := ?_)
        refine LWo.nil (hN11 (t0, t1, x25) _ ⟨rfl, rfl, rfl, trivial⟩ trivial h)
      ·have h := bF h16 h
       refine LWP.exit (hN9 (t0, t1) _ ⟨rfl, rfl, trivial⟩ trivial h)
     ·intro N14 hN14
      refine LWP.region (l := [_,_,_,_,_,_,_,_,_,_]) ?_
      refine LWo.move (e_int t5) rfl (hn := ?_)
      refine LWo.move (e_Limpl_Value t0) rfl (hn := ?_)
      refine LWo.lenM (f := e_impl_Value) (l := t0) u_Limpl_Value rfl (hn := ?_)
      refine LWo.int _ rfl rfl rfl (hn := ?_)
      refine LWo.move (e_bool (decide (t5 < (t0.length : Int)))) rfl (hn := ?_)
      refine LWo.byCases (t := 19) _ rfl (fun h15 => ?_) (fun h15 => ?_)
      ·have h := bT h15 h
       refine LWo.guardY (t := 19) rfl h15 rfl rfl ?_
       refine LWo.move (e_int t5) rfl (hn := ?_)
       refine LWo.guardY (t := 19) rfl h15 rfl rfl ?_
       refine LWo.move (e_Limpl_Value t1) rfl (hn := ?_)
       refine LWo.guardY (t := 19) rfl h15 rfl rfl ?_
       refine LWo.lenM (f := e_impl_Value) (l := t1) u_Limpl_Value rfl (hn := ?_)
       refine LWo.guardY (t := 19) rfl h15 rfl rfl ?_
       refine LWo.int _ rfl rfl rfl (hn := ?_)
       refine LWo.pickTM (e_bool (decide (t5 < (t1.length : Int)))) rfl h15 rfl (hn := ?_)
       refine LWo.nil (hN14 (t0, t1, t5, decide (t5 < (t1.length : Int))) _ ⟨rfl, rfl, rfl, rfl, trivial⟩ trivial h)
      ·have h := bF h15 h
       refine LWo.guardNU (t := 19) rfl h15 rfl rfl rfl rfl rfl ?_
       refine LWo.guardNU (t := 19) rfl h15 rfl rfl rfl rfl rfl ?_
       refine LWo.guardNU (t := 19) rfl h15 rfl rfl rfl rfl rfl ?_
       refine LWo.guardNU (t := 19) rfl h15 rfl rfl rfl rfl rfl ?_
       refine LWo.pickFM (e_bool false) rfl h15 rfl (hn := ?_)
       refine LWo.nil (hN14 (t0, t1, t5, false) _ ⟨rfl, rfl, rfl, rfl, trivial⟩ trivial h)
  ·intro N3 hN3
   refine LWP.region (l := [_,_,_,_,_,_,_,_]) ?_
   refine LWo.move (e_Limpl_Value a0) rfl (hn := ?_)
   refine bk h fun x4 e4 h => ?_
   refine LWo.vcall rfl rfl (c_spec_RowOk _ _ e4) (.same (.nil)) (hn := ?_)
   refine LWo.not rfl (hn := ?_)
   refine LWo.move (e_bool (!x4)) rfl (hn := ?_)
   refine LWo.byCases (t := 10) _ rfl (fun h5 => ?_) (fun h5 => ?_)
   ·have h := bT h5 h
    refine LWo.guardNU (t := 10) rfl h5 rfl rfl rfl rfl rfl ?_
    refine LWo.guardNU (t := 10) rfl h5 rfl rfl rfl rfl rfl ?_
    refine LWo.guardNU (t := 10) rfl h5 rfl rfl rfl rfl rfl ?_
    refine LWo.pickTM (e_bool true) rfl h5 rfl (hn := ?_)
    refine LWo.nil (hN3 (a0, a1, true) _ ⟨rfl, rfl, rfl, trivial⟩ trivial h)
   ·have h := bF h5 h
    refine LWo.guardY (t := 10) rfl h5 rfl rfl ?_
    refine LWo.move (e_Limpl_Value a1) rfl (hn := ?_)
    refine bk h fun x6 e6 h => ?_
    refine LWo.guardY (t := 10) rfl h5 rfl rfl ?_
    refine LWo.vcall rfl rfl (c_spec_RowOk _ _ e6) (.same (.nil)) (hn := ?_)
    refine LWo.guardY (t := 10) rfl h5 rfl rfl ?_
    refine LWo.not rfl (hn := ?_)
    refine LWo.pickFM (e_bool (!x6)) rfl h5 rfl (hn := ?_)
    refine LWo.nil (hN3 (a0, a1, (!x6)) _ ⟨rfl, rfl, rfl, trivial⟩ trivial h)

def m_spec_RowsSorted_j4 (o1007 : (List (List S_impl_Value))) : Option (List (List S_impl_Value)) :=
  some o1007
def m_spec_RowsSorted_j3 (k1 : (List (List S_impl_Value)) → Int → (List (List S_impl_Value)) → Option (List (List S_impl_Value))) (t0 : (List (List S_impl_Value))) (t4 : Int) (o1033 : (List (List S_impl_Value))) : Option (List (List S_impl_Value)) :=
  (ckI (t4 + (1 : Int))).bind fun x33 =>
  k1 t0 x33 o1033
def m_spec_RowsSorted_j2 (k1 : (List (List S_impl_Value)) → Int → (List (List S_impl_Value)) → Option (List (List S_impl_Value))) (t0 : (List (List S_impl_Value))) (t4 : Int) (t5 : Int) (o1007 : (List (List S_impl_Value))) : Option (List (List S_impl_Value)) :=
  (cut? o1007 (0 : Int) t5).bind fun x26 =>
  (app? ([] : (List (List S_impl_Value))) x26).bind fun x27 =>
  (at? t0 t4).bind fun x28 =>
  (m_spec_l3Own x28).bind fun x29 =>
  (app? x27 ([x29] : (List (List S_impl_Value)))).bind fun x30 =>
  (cut? o1007 t5 (o1007.length : Int)).bind fun x31 =>
  (app? x30 x31).bind fun x32 =>
  m_spec_RowsSorted_j3  k1 t0 t4 x32
def m_spec_RowsSorted_j1 (k1 : (List (List S_impl_Value)) → Int → (List (List S_impl_Value)) → Option (List (List S_impl_Value))) (k2 : (List (List S_impl_Value)) → Int → Int → (List (List S_impl_Value)) → Option (List (List S_impl_Value))) (t0 : (List (List S_impl_Value))) (t4 : Int) (t5 : Int) (t30 : Bool) (o1007 : (List (List S_impl_Value))) : Option (List (List S_impl_Value)) :=
  bif t30 then ((ckI (t5 - (1 : Int))).bind fun x24 =>
  k2 t0 t4 x24 o1007)
  else (m_spec_RowsSorted_j2  k1 t0 t4 t5 o1007)
def m_spec_RowsSorted_l2 (k1 : (List (List S_impl_Value)) → Int → (List (List S_impl_Value)) → Option (List (List S_impl_Value))) : Nat → (List (List S_impl_Value)) → Int → Int → (List (List S_impl_Value)) → Option (List (List S_impl_Value))
  | 0, _, _, _, _ => none
  | n2 + 1, t0, t4, t5, o1007 =>
    bif decide (t5 > (0 : Int)) then ((ckI (t5 - (1 : Int))).bind fun x18 =>
      (at? o1007 x18).bind fun x19 =>
      (at? o1007 x18).bind fun x20 =>
      (at? t0 t4).bind fun x21 =>
      (m_spec_RowOrder x20 x21).bind fun x22 =>
      m_spec_RowsSorted_j1  k1 (m_spec_RowsSorted_l2  k1 n2) t0 t4 t5 (decide (x22 > (0 : Int))) o1007)
    else (m_spec_RowsSorted_j1  k1 (m_spec_RowsSorted_l2  k1 n2) t0 t4 t5 false o1007)
def m_spec_RowsSorted_l1 : Nat → (List (List S_impl_Value)) → Int → (List (List S_impl_Value)) → Option (List (List S_impl_Value))
  | 0, _, _, _ => none
  | n1 + 1, t0, t4, o1007 =>
    bif decide (t4 < (t0.length : Int)) then (m_spec_RowsSorted_l2  (m_spec_RowsSorted_l1  n1) (1000000000) t0 t4 (o1007.length : Int) o1007)
    else (m_spec_RowsSorted_j4  o1007)
def m_spec_RowsSorted (a0 : (List (List S_impl_Value))) : Option (List (List S_impl_Value)) :=
  m_spec_RowsSorted_l1  (((a0.length : Int) - (0 : Int)).toNat + 1) a0 (0 : Int) ([] : (List (List S_impl_Value)))
theorem c_spec_RowsSorted (a0 : (List (List S_impl_Value))) (r : (List (List S_impl_Value))) (h : m_spec_RowsSorted a0 = some r) : Ret Try.prog f_spec_RowsSorted [e_LLimpl_Value a0] (.nw 1 (r.map e_Limpl_Value) false) := by
  refine Does.goG [] F_spec_RowsSorted rfl e_spec_RowsSorted n_spec_RowsSorted rfl (rvs := [.tmp 2]) rfl rfl ?_
  intro w0 ok0 lent ρ0
  refine LWP.seq_k fun N1 hN1 => ?_
  refine LWP.region (l := [_]) ?_
  refine LWo.assign _ rfl (hn := ?_)
  refine LWo.ownNil 2 1002 1 rfl rfl rfl ?_
  refine LWo.known 2 (.own 1002 0 ([] : (List (List S_impl_Value))).length) rfl ?_
  refine LWo.nil (hN1 _ ?_)
  refine LWP.seq_k fun N2 hN2 => ?_
  refine LWP.region (l := [_,_]) ?_
  refine LWo.lit0 1007 u_LLimpl_Value s_Limpl_Value z_Limpl_Value (hn := ?_)
  refine LWo.known 7 (.own 1007 0 ([] : (List (List S_impl_Value))).length) rfl ?_
  refine LWo.assign (.own 1007 0 (([] : (List (List S_impl_Value)))).length) rfl (hn := ?_)
  refine LWo.nil (hN2 _ ?_)
  refine LWP.join (α := (List (List S_impl_Value))) (fun z : (List (List S_impl_Value)) => [(3, (.own 1007 0 (z).length))]) (fun z : (List (List S_impl_Value)) => [(1007, (lob 1 e_Limpl_Value z))]) (fun z : (List (List S_impl_Value)) => m_spec_RowsSorted_j4  z) r (fun _ => by simp [hkeys]) ?_ ?_
  ·rintro o1007 h
   replace h : m_spec_RowsSorted_j4  o1007 = some _ := h
   refine LWP.seq_k fun N34 hN34 => ?_
   refine LWP.region (l := [_,_]) ?_
   refine LWo.move (.own 1007 0 (o1007).length) rfl (hn := ?_)
   refine LWo.assign (.own 1007 0 (o1007).length) rfl (hn := ?_)
   refine LWo.nil (hN34 _ ?_)
   obtain rfl := Option.some.inj h
   refine LWP.ret (QG.mk (.inr rfl) (.cons (.tmp (x := (.own 1007 0 (o1007).length)) rfl) (.nil)) (RetOK.one0 (.nwM rfl rfl) (by decide)) rfl rfl)
  ·intro N3 hN3
   refine LWP.seq_k fun N4 hN4 => ?_
   refine LWP.region (l := [_]) ?_
   refine LWo.assign (e_int (0 : Int)) rfl (hn := ?_)
   refine LWo.nil (hN4 _ ?_)
   refine LWP.block ?_
   refine LWP.loopM (α := (List (List S_impl_Value)) × Int × (List (List S_impl_Value))) (fun z : (List (List S_impl_Value)) × Int × (List (List S_impl_Value)) => [(0, (e_LLimpl_Value z.1)), (3, (.own 1007 0 (z.2.2).length)), (4, (e_int z.2.1))]) (fun z : (List (List S_impl_Value)) × Int × (List (List S_impl_Value)) => [(1007, (lob 1 e_Limpl_Value z.2.2))]) (fun n1 (z : (List (List S_impl_Value)) × Int × (List (List S_impl_Value))) => m_spec_RowsSorted_l1  n1 z.1 z.2.1 z.2.2) r _ (a0, (0 : Int), ([] : (List (List S_impl_Value)))) h (fun _ => rfl) (fun _ => by simp [hkeys]) ⟨rfl, rfl, rfl, trivial⟩ ⟨rfl, trivial⟩ ?_
   rintro n1 ⟨t0, t4, o1007⟩ h N5 hN5
   replace h : m_spec_RowsSorted_l1  (n1 + 1) t0 t4 o1007 = some _ := h
   refine LWP.seq_k fun N7 hN7 => ?_
   refine LWP.seq_k fun N8 hN8 => ?_
   refine LWP.region (l := [_,_,_,_]) ?_
   refine LWo.move (e_int t4) rfl (hn := ?_)
   refine LWo.move (e_LLimpl_Value t0) rfl (hn := ?_)
   refine LWo.lenM (f := e_Limpl_Value) (l := t0) u_LLimpl_Value rfl (hn := ?_)
   refine LWo.int _ rfl rfl rfl (hn := ?_)
   refine LWo.nil (hN8 _ ?_)
   refine LWP.cond_split rfl (fun h9 => ?_) (fun h9 => ?_)
   ·have h := bT h9 h
    refine LWP.skip (hN7 _ ?_)
    refine LWP.join (α := (List (List S_impl_Value)) × Int × (List (List S_impl_Value))) (fun z : (List (List S_impl_Value)) × Int × (List (List S_impl_Value)) => [(0, (e_LLimpl_Value z.1)), (3, (.own 1033 0 (z.2.2).length)), (4, (e_int z.2.1))]) (fun z : (List (List S_impl_Value)) × Int × (List (List S_impl_Value)) => [(1033, (lob 1 e_Limpl_Value z.2.2))]) (fun z : (List (List S_impl_Value)) × Int × (List (List S_impl_Value)) => m_spec_RowsSorted_j3  (m_spec_RowsSorted_l1  n1) z.1 z.2.1 z.2.2) r (fun _ => by simp [hkeys]) ?_ ?_
    ·rintro ⟨t0, t4, o1033⟩ h
     replace h : m_spec_RowsSorted_j3  (m_spec_RowsSorted_l1  n1) t0 t4 o1033 = some _ := h
     refine LWP.region (l := [_,_,_]) ?_
     refine LWo.move (e_int t4) rfl (hn := ?_)
     refine bk h fun x33 e33 h => ?_
     refine LWo.int _ rfl rfl (add_ck e33) (hn := ?_)
     refine LWo.assign (e_int x33) rfl (hn := ?_)
     refine LWo.rekey 3 1033 1007 rfl rfl rfl rfl rfl rfl ?_
     refine LWo.nil (hN5 (t0, x33, o1033) _ ⟨rfl, rfl, rfl, trivial⟩ ⟨rfl, trivial⟩ h)
    ·intro N10 hN10
     refine LWP.block ?_
     refine LWP.seq_k fun N11 hN11 => ?_
     refine LWP.region (l := [_,_,_]) ?_
     refine LWo.move (.own 1007 0 (o1007).length) rfl (hn := ?_)
     refine LWo.lenO u_LLimpl_Value rfl (hn := ?_)
     refine LWo.assign (e_int (o1007.length : Int)) rfl (hn := ?_)
     refine LWo.nil (hN11 _ ?_)
     refine LWP.join (α := (List (List S_impl_Value)) × Int × Int × (List (List S_impl_Value))) (fun z : (List (List S_impl_Value)) × Int × Int × (List (List S_impl_Value)) => [(0, (e_LLimpl_Value z.1)), (3, (.own 1007 0 (z.2.2.2).length)), (4, (e_int z.2.1)), (5, (e_int z.2.2.1))]) (fun z : (List (List S_impl_Value)) × Int × Int × (List (List S_impl_Value)) => [(1007, (lob 1 e_Limpl_Value z.2.2.2))]) (fun z : (List (List S_impl_Value)) × Int × Int × (List (List S_impl_Value)) => m_spec_RowsSorted_j2  (m_spec_RowsSorted_l1  n1) z.1 z.2.1 z.2.2.1 z.2.2.2) r (fun _ => by simp [hkeys]) ?_ ?_
     ·rintro ⟨t0, t4, t5, o1007⟩ h
      replace h : m_spec_RowsSorted_j2  (m_spec_RowsSorted_l1  n1) t0 t4 t5 o1007 = some _ := h
      refine LWP.seq_k fun N25 hN25 => ?_
      refine LWP.region (l := [_,_,_,_,_,_]) ?_
      refine LWo.lit0 1033 u_LLimpl_Value s_Limpl_Value z_Limpl_Value (hn := ?_)
      refine LWo.known 33 (.own 1033 0 ([] : (List (List S_impl_Value))).length) rfl ?_
      refine LWo.move (.own 1007 0 (o1007).length) rfl (hn := ?_)
      refine LWo.move (e_int t5) rfl (hn := ?_)
      refine bk h fun x26 e26 h => ?_
      refine LWo.frzL (f := e_Limpl_Value) (l := o1007) [3, 34] 1007 rfl rfl ⟨rfl, rfl, trivial⟩ ?_
      refine LWo.cutM (f := e_Limpl_Value) e26 u_LLimpl_Value s_Limpl_Value rfl rfl ⟨_, rfl⟩ (hn := ?_)
      refine bk h fun x27 e27 h => ?_
      refine LWo.appendM (f := e_Limpl_Value) e27 rfl u_LLimpl_Value u_LLimpl_Value (fun _ h => by cases h) s_Limpl_Value i_Limpl_Value rfl rfl rfl (.sl rfl) rfl rfl (hn := ?_)
      refine LWo.assign (.own 1033 0 (x27).length) rfl (hn := ?_)
      refine LWo.nil (hN25 _ ?_)
      refine bk h fun x28 e28 h => ?_
      refine bk h fun x29 e29 h => ?_
      refine bk h fun x30 e30 h => ?_
      refine bk h fun x31 e31 h => ?_
      refine bk h fun x32 e32 h => ?_
      refine LWP.drawF (l := [_,_,_,_,_,_,_,_,_,_,_,_,_]) [1033] [0, 3, 4, 5, 6] [([6], []), ([0], []), ([4], []), ([39, 40], []), ([41], []), ([42], []), ([43], []), ([38, 44], [1033]), ([3], []), ([5], []), ([46, 47], []), ([45, 48], [1033]), ([49], [])] [0, 3, 4] [1033] mixed (by kernel_rfl) rfl (by decide) ?_
      refine dq 38 rfl (fun _ g u h => LWo.move (.own 1033 0 (x27).length) u.1 (hn := .nil (zn g))) ?_
      refine dq 39 rfl (fun _ g u h => LWo.move (e_LLimpl_Value t0) u.1 (hn := .nil (zn g))) ?_
      refine dq 40 rfl (fun _ g u h => LWo.move (e_int t4) u.1 (hn := .nil (zn g))) ?_
      refine dq 41 rfl (fun _ g u h => LWo.indexM (f := e_Limpl_Value) e28 u_LLimpl_Value s_Limpl_Value u.1 u.2.1 (hn := .nil (zn g))) ?_
      refine dq 42 rfl (fun _ g u h => LWo.load1 (c := (e_Limpl_Value x28)) g_Limpl_Value u.1 (hn := .nil (zn g))) ?_
      refine dq 43 rfl (fun _ g u h => LWo.vcall rfl (av1 u.1) (c_spec_l3Own _ _ e29) (.same (.nil)) (hn := .nil (zn g))) ?_
      refine dq 44 rfl (fun _ g u h => LWo.lit (ops := [_]) [(e_Limpl_Value x29)] u_LLimpl_Value s_Limpl_Value z_Limpl_Value (lv1 u.1) rfl rfl rfl rfl rfl (hn := .nil (zn g))) ?_
      refine ⟨rfl, .make 45 _ 1033 _, (by exact (goodC rfl goodN)), fun _ g u h => LWo.appendM (f := e_Limpl_Value) e30 rfl u_LLimpl_Value u_LLimpl_Value (fun _ h => by cases h) s_Limpl_Value i_Limpl_Value rfl u.1 h.1 (.sl u.2.1) (lone_of g rfl) rfl (hn := LWo.nil ⟨rfl, .inl rfl, Ef.good_ok (e := .make 45 _ 1033 _) (by exact (goodC rfl goodN)) g⟩), ?_⟩
      refine dq 46 rfl (fun _ g u h => LWo.move (e_LLimpl_Value o1007) u.1 (hn := .nil (zn g))) ?_
      refine dq 47 rfl (fun _ g u h => LWo.move (e_int t5) u.1 (hn := .nil (zn g))) ?_
      refine dq 48 rfl (fun _ g u h => LWo.cutM (f := e_Limpl_Value) e31 u_LLimpl_Value s_Limpl_Value u.1 ⟨_, u.2.1⟩ rfl (hn := .nil (zn g))) ?_
      refine ⟨rfl, .make 49 _ 1033 _, (by exact (goodC rfl goodN)), fun _ g u h => LWo.appendM (f := e_Limpl_Value) e32 rfl u_LLimpl_Value u_LLimpl_Value (fun _ h => by cases h) s_Limpl_Value i_Limpl_Value rfl u.1 h.1 (.sl u.2.1) (lone_of g rfl) rfl (hn := LWo.nil ⟨rfl, .inl rfl, Ef.good_ok (e := .make 49 _ 1033 _) (by exact (goodC rfl goodN)) g⟩), ?_⟩
      refine dq 3 rfl (fun _ g u h => LWo.assign (.own 1033 0 (x32).length) u.1 (hn := .nil (zn g))) ?_
      refine ⟨rfl, by kernel_rfl, hN10 (t0, t4, x32) _ ⟨rfl, rfl, rfl, trivial⟩ ⟨rfl, trivial⟩ h⟩
     ·intro N12 hN12
      refine LWP.block ?_
      refine LWP.loopM (α := (List (List S_impl_Value)) × Int × Int × (List (List S_impl_Value))) (fun z : (List (List S_impl_Value)) × Int × Int × (List (List S_impl_Value)) => [(0, (e_LLimpl_Value z.1)), (3, (.own 1007 0 (z.2.2.2).length)), (4, (e_int z.2.1)), (5, (e_int z.2.2.1))]) (fun z : (List (List S_impl_Value)) × Int × Int × (List (List S_impl_Value)) => [(1007, (lob 1 e_Limpl_Value z.2.2.2))]) (fun n2 (z : (List (List S_impl_Value)) × Int × Int × (List (List S_impl_Value))) => m_spec_RowsSorted_l2  (m_spec_RowsSorted_l1  n1) n2 z.1 z.2.1 z.2.2.1 z.2.2.2) r _ (t0, t4, (o1007.length : Int), o1007) h (fun _ => rfl) (fun _ => by simp [hkeys]) ⟨rfl, rfl, rfl, rfl, trivial⟩ ⟨rfl, trivial⟩ ?_
      rintro n2 ⟨t0, t4, t5, o1007⟩ h N13 hN13
      replace h : m_spec_RowsSorted_l2  (m_spec_RowsSorted_l1  n1) (n2 + 1) t0 t4 t5 o1007 = some _ := h
      refine LWP.seq_k fun N15 hN15 => ?_
      refine LWP.join (α := (List (List S_impl_Value)) × Int × Int × Bool × (List (List S_impl_Value))) (fun z : (List (List S_impl_Value)) × Int × Int × Bool × (List (List S_impl_Value)) => [(0, (e_LLimpl_Value z.1)), (3, (.own 1007 0 (z.2.2.2.2).length)), (4, (e_int z.2.1)), (5, (e_int z.2.2.1)), (30, (e_bool z.2.2.2.1))]) (fun z : (List (List S_impl_Value)) × Int × Int × Bool × (List (List S_impl_Value)) => [(1007, (lob 1 e_Limpl_Value z.2.2.2.2))]) (fun z : (List (List S_impl_Value)) × Int × Int × Bool × (List (List S_impl_Value)) => m_spec_RowsSorted_j1  (m_spec_RowsSorted_l1  n1) (m_spec_RowsSorted_l2  (m_spec_RowsSorted_l1  n1) n2) z.1 z.2.1 z.2.2.1 z.2.2.2.1 z.2.2.2.2) r (fun _ => by simp [hkeys]) ?_ ?_
      ·rintro ⟨t0, t4, t5, t30, o1007⟩ h
       replace h : m_spec_RowsSorted_j1  (m_spec_RowsSorted_l1  n1) (m_spec_RowsSorted_l2  (m_spec_RowsSorted_l1  n1) n2) t0 t4 t5 t30 o1007 = some _ := h
       refine LWP.cond_split rfl (fun h23 => ?_) (fun h23 => ?_)
       ·have h := bT h23 h
        refine LWP.skip (hN15 _ ?_)
        refine LWP.block ?_
        refine LWP.region (l := [_,_,_]) ?_
        refine LWo.move (e_int t5) rfl (hn := ?_)
        refine bk h fun x24 e24 h => ?_
        refine LWo.int _ rfl rfl (sub_ck e24) (hn := ?_)
        refine LWo.assign (e_int x24) rfl (hn := ?_)
        refine LWo.nil (hN13 (t0, t4, x24, o1007) _ ⟨rfl, rfl, rfl, rfl, trivial⟩ ⟨rfl, trivial⟩ h)
       ·have h := bF h23 h
        refine LWP.exit (hN12 (t0, t4, t5, o1007) _ ⟨rfl, rfl, rfl, rfl, trivial⟩ ⟨rfl, trivial⟩ h)
      ·intro N16 hN16
       refine bS (decide (t5 > (0 : Int))) (fun h17 => ?_) (fun h17 => ?_)
       ·have h := bT h17 h
        refine bk h fun x18 e18 h => ?_
        refine bk h fun x19 e19 h => ?_
        refine bk h fun x20 e20 h => ?_
        refine bk h fun x21 e21 h => ?_
        refine bk h fun x22 e22 h => ?_
        refine LWP.drawF (l := [_,_,_,_,_,_,_,_,_,_,_,_,_,_,_]) [] [0, 3, 4, 5] [([5], []), ([16], []), ([17], []), ([3, 18], []), ([5, 18], []), ([18, 20], []), ([18, 19, 21], [1007]), ([18, 22], [1007]), ([0, 18], []), ([4, 18], []), ([18, 24, 25], []), ([18, 26], []), ([18, 23, 27], []), ([18, 28], []), ([18, 29], [])] [0, 3, 4, 5, 30] [1007] mixed (by kernel_rfl) rfl (by decide) ?_
        refine dq 16 rfl (fun _ g u h => LWo.move (e_int t5) u.1 (hn := .nil (zn g))) ?_
        refine dq 17 rfl (fun _ g u h => LWo.int _ u.1 rfl rfl (hn := .nil (zn g))) ?_
        refine dq 18 rfl (fun _ g u h => LWo.move (e_bool (decide (t5 > (0 : Int)))) u.1 (hn := .nil (zn g))) ?_
        refine dq 19 rfl (fun _ g u h => LWo.guardY (t := 18) u.2.1 h17 rfl rfl (LWo.move (.own 1007 0 (o1007).length) u.1 (hn := .nil (zn g)))) ?_
        refine dq 20 rfl (fun _ g u h => LWo.guardY (t := 18) u.2.1 h17 rfl rfl (LWo.move (e_int t5) u.1 (hn := .nil (zn g)))) ?_
        refine dq 21 rfl (fun _ g u h => LWo.guardY (t := 18) u.1 h17 rfl rfl (LWo.int _ u.2.1 rfl (sub_ck e18) (hn := .nil (zn g)))) ?_
        refine dq 22 rfl (fun _ g u h => LWo.guardY (t := 18) u.1 h17 rfl rfl (LWo.indexO e19 rfl u_LLimpl_Value s_Limpl_Value u.2.1 u.2.2.1 h.1 (hn := .nil (zn g)))) ?_
        refine dq 23 rfl (fun _ g u h => LWo.guardY (t := 18) u.1 h17 rfl rfl (LWo.loadO1 (e_Limpl_Value x20) e20 g_Limpl_Value u.2.1 h.1 rfl (hn := .nil (zn g)))) ?_
        refine dq 24 rfl (fun _ g u h => LWo.guardY (t := 18) u.2.1 h17 rfl rfl (LWo.move (e_LLimpl_Value t0) u.1 (hn := .nil (zn g)))) ?_
        refine dq 25 rfl (fun _ g u h => LWo.guardY (t := 18) u.2.1 h17 rfl rfl (LWo.move (e_int t4) u.1 (hn := .nil (zn g)))) ?_
        refine dq 26 rfl (fun _ g u h => LWo.guardY (t := 18) u.1 h17 rfl rfl (LWo.indexM (f := e_Limpl_Value) e21 u_LLimpl_Value s_Limpl_Value u.2.1 u.2.2.1 (hn := .nil (zn g)))) ?_
        refine dq 27 rfl (fun _ g u h => LWo.guardY (t := 18) u.1 h17 rfl rfl (LWo.load1 (c := (e_Limpl_Value x21)) g_Limpl_Value u.2.1 (hn := .nil (zn g)))) ?_
        refine dq 28 rfl (fun _ g u h => LWo.guardY (t := 18) u.1 h17 rfl rfl (LWo.vcall rfl (av2 u.2.1 u.2.2.1) (c_spec_RowOrder _ _ _ e22) (.same (.same (.nil))) (hn := .nil (zn g)))) ?_
        refine dq 29 rfl (fun _ g u h => LWo.guardY (t := 18) u.1 h17 rfl rfl (LWo.int _ u.2.1 rfl rfl (hn := .nil (zn g)))) ?_
        refine dq 30 rfl (fun _ g u h => LWo.pickTM (e_bool (decide (x22 > (0 : Int)))) u.1 h17 u.2.1 (hn := .nil (zn g))) ?_
        refine ⟨rfl, by kernel_rfl, hN16 (t0, t4, t5, decide (x22 > (0 : Int)), o1007) _ ⟨rfl, rfl, rfl, rfl, rfl, trivial⟩ ⟨rfl, trivial⟩ h⟩
       ·have h := bF h17 h
        refine LWP.drawF (l := [_,_,_,_,_,_,_,_,_,_,_,_,_,_,_]) [] [0, 3, 4, 5] [([5], []), ([16], []), ([17], []), ([3, 18], []), ([5, 18], []), ([18, 20], []), ([18, 19, 21], []), ([18, 22], []), ([0, 18], []), ([4, 18], []), ([18, 24, 25], []), ([18, 26], []), ([18, 23, 27], []), ([18, 28], []), ([18, 29], [])] [0, 3, 4, 5, 30] [1007] mixed (by kernel_rfl) rfl (by decide) ?_
        refine dq 16 rfl (fun _ g u h => LWo.move (e_int t5) u.1 (hn := .nil (zn g))) ?_
        refine dq 17 rfl (fun _ g u h => LWo.int _ u.1 rfl rfl (hn := .nil (zn g))) ?_
        refine dq 18 rfl (fun _ g u h => LWo.move (e_bool (decide (t5 > (0 : Int)))) u.1 (hn := .nil (zn g))) ?_
        refine dq 19 rfl (fun _ g u h => LWo.guardNU (t := 18) u.2.1 h17 rfl rfl rfl rfl rfl (.nil (zn g))) ?_
        refine dq 20 rfl (fun _ g u h => LWo.guardNU (t := 18) u.2.1 h17 rfl rfl rfl rfl rfl (.nil (zn g))) ?_
        refine dq 21 rfl (fun _ g u h => LWo.guardNU (t := 18) u.1 h17 rfl rfl rfl rfl rfl (.nil (zn g))) ?_
        refine dq 22 rfl (fun _ g u h => LWo.guardNU (t := 18) u.1 h17 rfl rfl rfl rfl rfl (.nil (zn g))) ?_
        refine dq 23 rfl (fun _ g u h => LWo.guardNU (t := 18) u.1 h17 rfl rfl rfl rfl rfl (.nil (zn g))) ?_
        refine dq 24 rfl (fun _ g u h => LWo.guardNU (t := 18) u.2.1 h17 rfl rfl rfl rfl rfl (.nil (zn g))) ?_
        refine dq 25 rfl (fun _ g u h => LWo.guardNU (t := 18) u.2.1 h17 rfl rfl rfl rfl rfl (.nil (zn g))) ?_
        refine dq 26 rfl (fun _ g u h => LWo.guardNU (t := 18) u.1 h17 rfl rfl rfl rfl rfl (.nil (zn g))) ?_
        refine dq 27 rfl (fun _ g u h => LWo.guardNU (t := 18) u.1 h17 rfl rfl rfl rfl rfl (.nil (zn g))) ?_
        refine dq 28 rfl (fun _ g u h => LWo.guardNU (t := 18) u.1 h17 rfl rfl rfl rfl rfl (.nil (zn g))) ?_
        refine dq 29 rfl (fun _ g u h => LWo.guardNU (t := 18) u.1 h17 rfl rfl rfl rfl rfl (.nil (zn g))) ?_
        refine dq 30 rfl (fun _ g u h => LWo.pickFM (e_bool false) u.1 h17 rfl (hn := .nil (zn g))) ?_
        refine ⟨rfl, by kernel_rfl, hN16 (t0, t4, t5, false, o1007) _ ⟨rfl, rfl, rfl, rfl, rfl, trivial⟩ ⟨rfl, trivial⟩ h⟩
   ·have h := bF h9 h
    refine LWP.exit (hN3 o1007 _ ⟨rfl, trivial⟩ ⟨rfl, trivial⟩ h)

def m_spec_l11Sum_j5 (o1027 : (List S_impl_Delta)) : Option (List S_impl_Delta) :=
  some o1027
def m_spec_l11Sum_j4 (k2 : (List S_impl_Delta) → Int → (List (List S_impl_Value)) → (List S_impl_Delta) → Option (List S_impl_Delta)) (t0 : (List S_impl_Delta)) (t6 : Int) (o1026 : (List (List S_impl_Value))) (o1027 : (List S_impl_Delta)) : Option (List S_impl_Delta) :=
  (ckI (t6 + (1 : Int))).bind fun x49 =>
  k2 t0 x49 o1026 o1027
def m_spec_l11Sum_j3 (k2 : (List S_impl_Delta) → Int → (List (List S_impl_Value)) → (List S_impl_Delta) → Option (List S_impl_Delta)) (t0 : (List S_impl_Delta)) (t6 : Int) (t7 : Int) (o1026 : (List (List S_impl_Value))) (o1027 : (List S_impl_Delta)) : Option (List S_impl_Delta) :=
  bif (t7 != (0 : Int)) then ((at? o1026 t6).bind fun x46 =>
    (at? o1026 t6).bind fun x47 =>
    (app? o1027 ([(⟨x47, t7⟩ : S_impl_Delta)] : (List S_impl_Delta))).bind fun x48 =>
    m_spec_l11Sum_j4  k2 t0 t6 o1026 x48)
  else (m_spec_l11Sum_j4  k2 t0 t6 o1026 o1027)
def m_spec_l11Sum_j2 (k2 : (List S_impl_Delta) → Int → (List (List S_impl_Value)) → (List S_impl_Delta) → Option (List S_impl_Delta)) (k3 : (List S_impl_Delta) → Int → Int → Int → (List (List S_impl_Value)) → (List S_impl_Delta) → Option (List S_impl_Delta)) (t0 : (List S_impl_Delta)) (t6 : Int) (t7 : Int) (t8 : Int) (o1026 : (List (List S_impl_Value))) (o1027 : (List S_impl_Delta)) : Option (List S_impl_Delta) :=
  (ckI (t8 + (1 : Int))).bind fun x43 =>
  k3 t0 t6 t7 x43 o1026 o1027
def m_spec_l11Sum_l3 (k2 : (List S_impl_Delta) → Int → (List (List S_impl_Value)) → (List S_impl_Delta) → Option (List S_impl_Delta)) : Nat → (List S_impl_Delta) → Int → Int → Int → (List (List S_impl_Value)) → (List S_impl_Delta) → Option (List S_impl_Delta)
  | 0, _, _, _, _, _, _ => none
  | n3 + 1, t0, t6, t7, t8, o1026, o1027 =>
    bif decide (t8 < (t0.length : Int)) then ((at? t0 t8).bind fun x36 =>
    (at? o1026 t6).bind fun x37 =>
    (at? o1026 t6).bind fun x38 =>
    (m_spec_l3Same x36.Row x38).bind fun x39 =>
    bif x39 then ((at? t0 t8).bind fun x41 =>
      (ckI (t7 + x41.Many)).bind fun x42 =>
      m_spec_l11Sum_j2  k2 (m_spec_l11Sum_l3  k2 n3) t0 t6 x42 t8 o1026 o1027)
    else (m_spec_l11Sum_j2  k2 (m_spec_l11Sum_l3  k2 n3) t0 t6 t7 t8 o1026 o1027))
    else (m_spec_l11Sum_j3  k2 t0 t6 t7 o1026 o1027)
def m_spec_l11Sum_l2 : Nat → (List S_impl_Delta) → Int → (List (List S_impl_Value)) → (List S_impl_Delta) → Option (List S_impl_Delta)
  | 0, _, _, _, _ => none
  | n2 + 1, t0, t6, o1026, o1027 =>
    bif decide (t6 < (o1026.length : Int)) then (m_spec_l11Sum_l3  (m_spec_l11Sum_l2  n2) (((t0.length : Int) - (0 : Int)).toNat + 1) t0 t6 (0 : Int) (0 : Int) o1026 o1027)
    else (m_spec_l11Sum_j5  o1027)
def m_spec_l11Sum_j1 (t0 : (List S_impl_Delta)) (o1009 : (List (List S_impl_Value))) : Option (List S_impl_Delta) :=
  (m_spec_RowsOnce o1009).bind fun x15 =>
  (m_spec_RowsSorted x15).bind fun x16 =>
  m_spec_l11Sum_l2  (((x16.length : Int) - (0 : Int)).toNat + 1) t0 (0 : Int) x16 ([] : (List S_impl_Delta))
def m_spec_l11Sum_l1 : Nat → (List S_impl_Delta) → Int → (List (List S_impl_Value)) → Option (List S_impl_Delta)
  | 0, _, _, _ => none
  | n1 + 1, t0, t4, o1009 =>
    bif decide (t4 < (t0.length : Int)) then ((at? t0 t4).bind fun x11 =>
    (app? o1009 ([x11.Row] : (List (List S_impl_Value)))).bind fun x12 =>
    (ckI (t4 + (1 : Int))).bind fun x13 =>
    (m_spec_l11Sum_l1  n1) t0 x13 x12)
    else (m_spec_l11Sum_j1  t0 o1009)
def m_spec_l11Sum (a0 : (List S_impl_Delta)) : Option (List S_impl_Delta) :=
  m_spec_l11Sum_l1  (((a0.length : Int) - (0 : Int)).toNat + 1) a0 (0 : Int) ([] : (List (List S_impl_Value)))
theorem c_spec_l11Sum (a0 : (List S_impl_Delta)) (r : (List S_impl_Delta)) (h : m_spec_l11Sum a0 = some r) : Ret Try.prog f_spec_l11Sum [e_Limpl_Delta a0] (.nw 2 (r.map e_impl_Delta) false) := by
  refine Does.goG [] F_spec_l11Sum rfl e_spec_l11Sum n_spec_l11Sum rfl (rvs := [.tmp 2]) rfl rfl ?_
  intro w0 ok0 lent ρ0
  refine LWP.seq_k fun N1 hN1 => ?_
  refine LWP.region (l := [_]) ?_
  refine LWo.assign _ rfl (hn := ?_)
  refine LWo.ownNil 2 1002 2 rfl rfl rfl ?_
  refine LWo.known 2 (.own 1002 0 ([] : (List S_impl_Delta)).length) rfl ?_
  refine LWo.nil (hN1 _ ?_)
  refine LWP.seq_k fun N2 hN2 => ?_
  refine LWP.region (l := [_,_]) ?_
  refine LWo.lit0 1009 u_LLimpl_Value s_Limpl_Value z_Limpl_Value (hn := ?_)
  refine LWo.known 9 (.own 1009 0 ([] : (List (List S_impl_Value))).length) rfl ?_
  refine LWo.assign (.own 1009 0 (([] : (List (List S_impl_Value)))).length) rfl (hn := ?_)
  refine LWo.nil (hN2 _ ?_)
  refine LWP.join (α := (List S_impl_Delta) × (List (List S_impl_Value))) (fun z : (List S_impl_Delta) × (List (List S_impl_Value)) => [(0, (e_Limpl_Delta z.1)), (3, (.own 1009 0 (z.2).length))]) (fun z : (List S_impl_Delta) × (List (List S_impl_Value)) => [(1009, (lob 1 e_Limpl_Value z.2))]) (fun z : (List S_impl_Delta) × (List (List S_impl_Value)) => m_spec_l11Sum_j1  z.1 z.2) r (fun _ => by simp [hkeys]) ?_ ?_
  ·rintro ⟨t0, o1009⟩ h
   replace h : m_spec_l11Sum_j1  t0 o1009 = some _ := h
   refine LWP.seq_k fun N14 hN14 => ?_
   refine LWP.region (l := [_,_,_,_]) ?_
   refine LWo.move (.own 1009 0 (o1009).length) rfl (hn := ?_)
   refine bk h fun x15 e15 h => ?_
   refine LWo.frzL (f := e_Limpl_Value) (l := o1009) [3, 24] 1009 rfl rfl ⟨rfl, rfl, trivial⟩ ?_
   refine LWo.vcall rfl rfl (c_spec_RowsOnce _ _ e15) (.same (.nil)) (hn := ?_)
   refine bk h fun x16 e16 h => ?_
   refine LWo.ncall (e := e_Limpl_Value) 1026 rfl rfl (c_spec_RowsSorted _ _ e16) (.same (.nil)) rfl (hn := ?_)
   refine LWo.assign (.own 1026 0 (x16).length) rfl (hn := ?_)
   refine LWo.nil (hN14 _ ?_)
   refine LWP.seq_k fun N17 hN17 => ?_
   refine LWP.region (l := [_,_]) ?_
   refine LWo.lit0 1027 u_Limpl_Delta s_impl_Delta z_impl_Delta (hn := ?_)
   refine LWo.known 27 (.own 1027 0 ([] : (List S_impl_Delta)).length) rfl ?_
   refine LWo.assign (.own 1027 0 (([] : (List S_impl_Delta))).length) rfl (hn := ?_)
   refine LWo.nil (hN17 _ ?_)
   refine LWP.join (α := (List S_impl_Delta)) (fun z : (List S_impl_Delta) => [(5, (.own 1027 0 (z).length))]) (fun z : (List S_impl_Delta) => [(1027, (lob 2 e_impl_Delta z))]) (fun z : (List S_impl_Delta) => m_spec_l11Sum_j5  z) r (fun _ => by simp [hkeys]) ?_ ?_
   ·rintro o1027 h
    replace h : m_spec_l11Sum_j5  o1027 = some _ := h
    refine LWP.seq_k fun N50 hN50 => ?_
    refine LWP.region (l := [_,_]) ?_
    refine LWo.move (.own 1027 0 (o1027).length) rfl (hn := ?_)
    refine LWo.assign (.own 1027 0 (o1027).length) rfl (hn := ?_)
    refine LWo.nil (hN50 _ ?_)
    obtain rfl := Option.some.inj h
    refine LWP.ret (QG.mk (.inr rfl) (.cons (.tmp (x := (.own 1027 0 (o1027).length)) rfl) (.nil)) (RetOK.one0 (.nwM rfl rfl) (by decide)) rfl rfl)
   ·intro N18 hN18
    refine LWP.seq_k fun N19 hN19 => ?_
    refine LWP.region (l := [_]) ?_
    refine LWo.assign (e_int (0 : Int)) rfl (hn := ?_)
    refine LWo.nil (hN19 _ ?_)
    refine LWP.block ?_
    refine LWP.loopM (α := (List S_impl_Delta) × Int × (List (List S_impl_Value)) × (List S_impl_Delta)) (fun z : (List S_impl_Delta) × Int × (List (List S_impl_Value)) × (List S_impl_Delta) => [(0, (e_Limpl_Delta z.1)), (3, (.own 1026 0 (z.2.2.1).length)), (5, (.own 1027 0 (z.2.2.2).length)), (6, (e_int z.2.1))]) (fun z : (List S_impl_Delta) × Int × (List (List S_impl_Value)) × (List S_impl_Delta) => [(1026, (lob 1 e_Limpl_Value z.2.2.1)), (1027, (lob 2 e_impl_Delta z.2.2.2))]) (fun n2 (z : (List S_impl_Delta) × Int × (List (List S_impl_Value)) × (List S_impl_Delta)) => m_spec_l11Sum_l2  n2 z.1 z.2.1 z.2.2.1 z.2.2.2) r _ (t0, (0 : Int), x16, ([] : (List S_impl_Delta))) h (fun _ => rfl) (fun _ => by simp [hkeys]) ⟨rfl, rfl, rfl, rfl, trivial⟩ ⟨rfl, rfl, trivial⟩ ?_
    rintro n2 ⟨t0, t6, o1026, o1027⟩ h N20 hN20
    replace h : m_spec_l11Sum_l2  (n2 + 1) t0 t6 o1026 o1027 = some _ := h
    refine LWP.seq_k fun N22 hN22 => ?_
    refine LWP.seq_k fun N23 hN23 => ?_
    refine LWP.region (l := [_,_,_,_]) ?_
    refine LWo.move (e_int t6) rfl (hn := ?_)
    refine LWo.move (.own 1026 0 (o1026).length) rfl (hn := ?_)
    refine LWo.lenO u_LLimpl_Value rfl (hn := ?_)
    refine LWo.int _ rfl rfl rfl (hn := ?_)
    refine LWo.nil (hN23 _ ?_)
    refine LWP.cond_split rfl (fun h24 => ?_) (fun h24 => ?_)
    ·have h := bT h24 h
     refine LWP.skip (hN22 _ ?_)
     refine LWP.join (α := (List S_impl_Delta) × Int × (List (List S_impl_Value)) × (List S_impl_Delta)) (fun z : (List S_impl_Delta) × Int × (List (List S_impl_Value)) × (List S_impl_Delta) => [(0, (e_Limpl_Delta z.1)), (3, (.own 1026 0 (z.2.2.1).length)), (5, (.own 1027 0 (z.2.2.2).length)), (6, (e_int z.2.1))]) (fun z : (List S_impl_Delta) × Int × (List (List S_impl_Value)) × (List S_impl_Delta) => [(1026, (lob 1 e_Limpl_Value z.2.2.1)), (1027, (lob 2 e_impl_Delta z.2.2.2))]) (fun z : (List S_impl_Delta) × Int × (List (List S_impl_Value)) × (List S_impl_Delta) => m_spec_l11Sum_j4  (m_spec_l11Sum_l2  n2) z.1 z.2.1 z.2.2.1 z.2.2.2) r (fun _ => by simp [hkeys]) ?_ ?_
     ·rintro ⟨t0, t6, o1026, o1027⟩ h
      replace h : m_spec_l11Sum_j4  (m_spec_l11Sum_l2  n2) t0 t6 o1026 o1027 = some _ := h
      refine LWP.region (l := [_,_,_]) ?_
      refine LWo.move (e_int t6) rfl (hn := ?_)
      refine bk h fun x49 e49 h => ?_
      refine LWo.int _ rfl rfl (add_ck e49) (hn := ?_)
      refine LWo.assign (e_int x49) rfl (hn := ?_)
      refine LWo.nil (hN20 (t0, x49, o1026, o1027) _ ⟨rfl, rfl, rfl, rfl, trivial⟩ ⟨rfl, rfl, trivial⟩ h)
     ·intro N25 hN25
      refine LWP.block ?_
      refine LWP.seq_k fun N26 hN26 => ?_
      refine LWP.region (l := [_]) ?_
      refine LWo.assign (e_int (0 : Int)) rfl (hn := ?_)
      refine LWo.nil (hN26 _ ?_)
      refine LWP.join (α := (List S_impl_Delta) × Int × Int × (List (List S_impl_Value)) × (List S_impl_Delta)) (fun z : (List S_impl_Delta) × Int × Int × (List (List S_impl_Value)) × (List S_impl_Delta) => [(0, (e_Limpl_Delta z.1)), (3, (.own 1026 0 (z.2.2.2.1).length)), (5, (.own 1027 0 (z.2.2.2.2).length)), (6, (e_int z.2.1)), (7, (e_int z.2.2.1))]) (fun z : (List S_impl_Delta) × Int × Int × (List (List S_impl_Value)) × (List S_impl_Delta) => [(1026, (lob 1 e_Limpl_Value z.2.2.2.1)), (1027, (lob 2 e_impl_Delta z.2.2.2.2))]) (fun z : (List S_impl_Delta) × Int × Int × (List (List S_impl_Value)) × (List S_impl_Delta) => m_spec_l11Sum_j3  (m_spec_l11Sum_l2  n2) z.1 z.2.1 z.2.2.1 z.2.2.2.1 z.2.2.2.2) r (fun _ => by simp [hkeys]) ?_ ?_
      ·rintro ⟨t0, t6, t7, o1026, o1027⟩ h
       replace h : m_spec_l11Sum_j3  (m_spec_l11Sum_l2  n2) t0 t6 t7 o1026 o1027 = some _ := h
       refine LWP.seq_k fun N44 hN44 => ?_
       refine LWP.region (l := [_,_]) ?_
       refine LWo.move (e_int t7) rfl (hn := ?_)
       refine LWo.int _ rfl rfl rfl (hn := ?_)
       refine LWo.nil (hN44 _ ?_)
       refine LWP.cond_split rfl (fun h45 => ?_) (fun h45 => ?_)
       ·have h := bT h45 h
        refine LWP.region (l := [_,_,_,_,_,_,_,_,_,_]) ?_
        refine LWo.move (.own 1027 0 (o1027).length) rfl (hn := ?_)
        refine LWo.move (.own 1026 0 (o1026).length) rfl (hn := ?_)
        refine LWo.move (e_int t6) rfl (hn := ?_)
        refine bk h fun x46 e46 h => ?_
        refine LWo.indexO e46 rfl u_LLimpl_Value s_Limpl_Value rfl rfl rfl (hn := ?_)
        refine bk h fun x47 e47 h => ?_
        refine LWo.loadO1 (e_Limpl_Value x47) e47 g_Limpl_Value rfl rfl rfl (hn := ?_)
        refine LWo.move (e_int t7) rfl (hn := ?_)
        refine LWo.build_impl_Delta (parts := [_, _]) (⟨x47, t7⟩ : S_impl_Delta) rfl rfl rfl .refl (hn := ?_)
        refine LWo.lit (ops := [_]) [(e_impl_Delta (⟨x47, t7⟩ : S_impl_Delta))] u_Limpl_Delta s_impl_Delta z_impl_Delta rfl rfl rfl rfl rfl rfl (hn := ?_)
        refine bk h fun x48 e48 h => ?_
        refine LWo.appendM (f := e_impl_Delta) e48 rfl u_Limpl_Delta u_Limpl_Delta (fun _ h => by cases h) s_impl_Delta i_impl_Delta rfl rfl rfl (.sl rfl) rfl rfl (hn := ?_)
        refine LWo.assign (.own 1027 0 (x48).length) rfl (hn := ?_)
        refine LWo.nil (hN25 (t0, t6, o1026, x48) _ ⟨rfl, rfl, rfl, rfl, trivial⟩ ⟨rfl, rfl, trivial⟩ h)
       ·have h := bF h45 h
        refine LWP.skip (hN25 (t0, t6, o1026, o1027) _ ⟨rfl, rfl, rfl, rfl, trivial⟩ ⟨rfl, rfl, trivial⟩ h)
      ·intro N27 hN27
       refine LWP.seq_k fun N28 hN28 => ?_
       refine LWP.region (l := [_]) ?_
       refine LWo.assign (e_int (0 : Int)) rfl (hn := ?_)
       refine LWo.nil (hN28 _ ?_)
       refine LWP.block ?_
       refine LWP.loopM (α := (List S_impl_Delta) × Int × Int × Int × (List (List S_impl_Value)) × (List S_impl_Delta)) (fun z : (List S_impl_Delta) × Int × Int × Int × (List (List S_impl_Value)) × (List S_impl_Delta) => [(0, (e_Limpl_Delta z.1)), (3, (.own 1026 0 (z.2.2.2.2.1).length)), (5, (.own 1027 0 (z.2.2.2.2.2).length)), (6, (e_int z.2.1)), (7, (e_int z.2.2.1)), (8, (e_int z.2.2.2.1))]) (fun z : (List S_impl_Delta) × Int × Int × Int × (List (List S_impl_Value)) × (List S_impl_Delta) => [(1026, (lob 1 e_Limpl_Value z.2.2.2.2.1)), (1027, (lob 2 e_impl_Delta z.2.2.2.2.2))]) (fun n3 (z : (List S_impl_Delta) × Int × Int × Int × (List (List S_impl_Value)) × (List S_impl_Delta)) => m_spec_l11Sum_l3  (m_spec_l11Sum_l2  n2) n3 z.1 z.2.1 z.2.2.1 z.2.2.2.1 z.2.2.2.2.1 z.2.2.2.2.2) r _ (t0, t6, (0 : Int), (0 : Int), o1026, o1027) h (fun _ => rfl) (fun _ => by simp [hkeys]) ⟨rfl, rfl, rfl, rfl, rfl, rfl, trivial⟩ ⟨rfl, rfl, trivial⟩ ?_
       rintro n3 ⟨t0, t6, t7, t8, o1026, o1027⟩ h N29 hN29
       replace h : m_spec_l11Sum_l3  (m_spec_l11Sum_l2  n2) (n3 + 1) t0 t6 t7 t8 o1026 o1027 = some _ := h
       refine LWP.seq_k fun N31 hN31 => ?_
       refine LWP.seq_k fun N32 hN32 => ?_
       refine LWP.region (l := [_,_,_,_]) ?_
       refine LWo.move (e_int t8) rfl (hn := ?_)
       refine LWo.move (e_Limpl_Delta t0) rfl (hn := ?_)
       refine LWo.lenM (f := e_impl_Delta) (l := t0) u_Limpl_Delta rfl (hn := ?_)
       refine LWo.int _ rfl rfl rfl (hn := ?_)
       refine LWo.nil (hN32 _ ?_)
       refine LWP.cond_split rfl (fun h33 => ?_) (fun h33 => ?_)
       ·have h := bT h33 h
        refine LWP.skip (hN31 _ ?_)
        refine LWP.join (α := (List S_impl_Delta) × Int × Int × Int × (List (List S_impl_Value)) × (List S_impl_Delta)) (fun z : (List S_impl_Delta) × Int × Int × Int × (List (List S_impl_Value)) × (List S_impl_Delta) => [(0, (e_Limpl_Delta z.1)), (3, (.own 1026 0 (z.2.2.2.2.1).length)), (5, (.own 1027 0 (z.2.2.2.2.2).length)), (6, (e_int z.2.1)), (7, (e_int z.2.2.1)), (8, (e_int z.2.2.2.1))]) (fun z : (List S_impl_Delta) × Int × Int × Int × (List (List S_impl_Value)) × (List S_impl_Delta) => [(1026, (lob 1 e_Limpl_Value z.2.2.2.2.1)), (1027, (lob 2 e_impl_Delta z.2.2.2.2.2))]) (fun z : (List S_impl_Delta) × Int × Int × Int × (List (List S_impl_Value)) × (List S_impl_Delta) => m_spec_l11Sum_j2  (m_spec_l11Sum_l2  n2) (m_spec_l11Sum_l3  (m_spec_l11Sum_l2  n2) n3) z.1 z.2.1 z.2.2.1 z.2.2.2.1 z.2.2.2.2.1 z.2.2.2.2.2) r (fun _ => by simp [hkeys]) ?_ ?_
        ·rintro ⟨t0, t6, t7, t8, o1026, o1027⟩ h
         replace h : m_spec_l11Sum_j2  (m_spec_l11Sum_l2  n2) (m_spec_l11Sum_l3  (m_spec_l11Sum_l2  n2) n3) t0 t6 t7 t8 o1026 o1027 = some _ := h
         refine LWP.region (l := [_,_,_]) ?_
         refine LWo.move (e_int t8) rfl (hn := ?_)
         refine bk h fun x43 e43 h => ?_
         refine LWo.int _ rfl rfl (add_ck e43) (hn := ?_)
         refine LWo.assign (e_int x43) rfl (hn := ?_)
         refine LWo.nil (hN29 (t0, t6, t7, x43, o1026, o1027) _ ⟨rfl, rfl, rfl, rfl, rfl, rfl, trivial⟩ ⟨rfl, rfl, trivial⟩ h)
        ·intro N34 hN34
         refine LWP.block ?_
         refine LWP.seq_k fun N35 hN35 => ?_
         refine bk h fun x36 e36 h => ?_
         refine bk h fun x37 e37 h => ?_
         refine bk h fun x38 e38 h => ?_
         refine bk h fun x39 e39 h => ?_
         refine LWP.drawF (l := [_,_,_,_,_,_,_,_,_,_]) [] [0, 3, 5, 6, 7, 8] [([0], []), ([8], []), ([40, 41], []), ([42], []), ([43], []), ([3], []), ([6], []), ([45, 46], [1026]), ([47], [1026]), ([44, 48], [])] [0, 3, 5, 6, 7, 8, 49] [1026, 1027] mixed (by kernel_rfl) rfl (by decide) ?_
         refine dq 40 rfl (fun _ g u h => LWo.move (e_Limpl_Delta t0) u.1 (hn := .nil (zn g))) ?_
         refine dq 41 rfl (fun _ g u h => LWo.move (e_int t8) u.1 (hn := .nil (zn g))) ?_
         refine dq 42 rfl (fun _ g u h => LWo.indexM (f := e_impl_Delta) e36 u_Limpl_Delta s_impl_Delta u.1 u.2.1 (hn := .nil (zn g))) ?_
         refine dq 43 rfl (fun _ g u h => LWo.fieldAddr _ u_impl_Delta rfl s_Limpl_Value u.1 rfl (hn := .nil (zn g))) ?_
         refine dq 44 rfl (fun _ g u h => LWo.load1 (c := (e_Limpl_Value x36.Row)) g_Limpl_Value u.1 (hn := .nil (zn g))) ?_
         refine dq 45 rfl (fun _ g u h => LWo.move (.own 1026 0 (o1026).length) u.1 (hn := .nil (zn g))) ?_
         refine dq 46 rfl (fun _ g u h => LWo.move (e_int t6) u.1 (hn := .nil (zn g))) ?_
         refine dq 47 rfl (fun _ g u h => LWo.indexO e37 rfl u_LLimpl_Value s_Limpl_Value u.1 u.2.1 h.1 (hn := .nil (zn g))) ?_
         refine dq 48 rfl (fun _ g u h => LWo.loadO1 (e_Limpl_Value x38) e38 g_Limpl_Value u.1 h.1 rfl (hn := .nil (zn g))) ?_
         refine dq 49 rfl (fun _ g u h => LWo.vcall rfl (av2 u.1 u.2.1) (c_spec_l3Same _ _ _ e39) (.same (.same (.nil))) (hn := .nil (zn g))) ?_
         refine ⟨rfl, by kernel_rfl, hN35 _ ?_⟩
         refine LWP.cond_split rfl (fun h40 => ?_) (fun h40 => ?_)
         ·have h := bT h40 h
          refine LWP.region (l := [_,_,_,_,_,_,_,_]) ?_
          refine LWo.move (e_int t7) rfl (hn := ?_)
          refine LWo.move (e_Limpl_Delta t0) rfl (hn := ?_)
          refine LWo.move (e_int t8) rfl (hn := ?_)
          refine bk h fun x41 e41 h => ?_
          refine LWo.indexM (f := e_impl_Delta) e41 u_Limpl_Delta s_impl_Delta rfl rfl (hn := ?_)
          refine LWo.fieldAddr _ u_impl_Delta rfl s_int rfl rfl (hn := ?_)
          refine LWo.load1 (c := (e_int x41.Many)) g_int rfl (hn := ?_)
          refine bk h fun x42 e42 h => ?_
          refine LWo.int _ rfl rfl (add_ck e42) (hn := ?_)
          refine LWo.assign (e_int x42) rfl (hn := ?_)
          refine LWo.nil (hN34 (t0, t6, x42, t8, o1026, o1027) _ ⟨rfl, rfl, rfl, rfl, rfl, rfl, trivial⟩ ⟨rfl, rfl, trivial⟩ h)
         ·have h := bF h40 h
          refine LWP.skip (hN34 (t0, t6, t7, t8, o1026, o1027) _ ⟨rfl, rfl, rfl, rfl, rfl, rfl, trivial⟩ ⟨rfl, rfl, trivial⟩ h)
       ·have h := bF h33 h
        refine LWP.exit (hN27 (t0, t6, t7, o1026, o1027) _ ⟨rfl, rfl, rfl, rfl, rfl, trivial⟩ ⟨rfl, rfl, trivial⟩ h)
    ·have h := bF h24 h
     refine LWP.exit (hN18 o1027 _ ⟨rfl, trivial⟩ ⟨rfl, trivial⟩ h)
  ·intro N3 hN3
   refine LWP.seq_k fun N4 hN4 => ?_
   refine LWP.region (l := [_]) ?_
   refine LWo.assign (e_int (0 : Int)) rfl (hn := ?_)
   refine LWo.nil (hN4 _ ?_)
   refine LWP.block ?_
   refine LWP.loopM (α := (List S_impl_Delta) × Int × (List (List S_impl_Value))) (fun z : (List S_impl_Delta) × Int × (List (List S_impl_Value)) => [(0, (e_Limpl_Delta z.1)), (3, (.own 1009 0 (z.2.2).length)), (4, (e_int z.2.1))]) (fun z : (List S_impl_Delta) × Int × (List (List S_impl_Value)) => [(1009, (lob 1 e_Limpl_Value z.2.2))]) (fun n1 (z : (List S_impl_Delta) × Int × (List (List S_impl_Value))) => m_spec_l11Sum_l1  n1 z.1 z.2.1 z.2.2) r _ (a0, (0 : Int), ([] : (List (List S_impl_Value)))) h (fun _ => rfl) (fun _ => by simp [hkeys]) ⟨rfl, rfl, rfl, trivial⟩ ⟨rfl, trivial⟩ ?_
   rintro n1 ⟨t0, t4, o1009⟩ h N5 hN5
   replace h : m_spec_l11Sum_l1  (n1 + 1) t0 t4 o1009 = some _ := h
   refine LWP.seq_k fun N7 hN7 => ?_
   refine LWP.seq_k fun N8 hN8 => ?_
   refine LWP.region (l := [_,_,_,_]) ?_
   refine LWo.move (e_int t4) rfl (hn := ?_)
   refine LWo.move (e_Limpl_Delta t0) rfl (hn := ?_)
   refine LWo.lenM (f := e_impl_Delta) (l := t0) u_Limpl_Delta rfl (hn := ?_)
   refine LWo.int _ rfl rfl rfl (hn := ?_)
   refine LWo.nil (hN8 _ ?_)
   refine LWP.cond_split rfl (fun h9 => ?_) (fun h9 => ?_)
   ·have h := bT h9 h
    refine LWP.skip (hN7 _ ?_)
    refine LWP.seq_k fun N10 hN10 => ?_
    refine LWP.block ?_
    refine LWP.region (l := [_,_,_,_,_,_,_,_,_]) ?_
    refine LWo.move (.own 1009 0 (o1009).length) rfl (hn := ?_)
    refine LWo.move (e_Limpl_Delta t0) rfl (hn := ?_)
    refine LWo.move (e_int t4) rfl (hn := ?_)
    refine bk h fun x11 e11 h => ?_
    refine LWo.indexM (f := e_impl_Delta) e11 u_Limpl_Delta s_impl_Delta rfl rfl (hn := ?_)
    refine LWo.fieldAddr _ u_impl_Delta rfl s_Limpl_Value rfl rfl (hn := ?_)
    refine LWo.load1 (c := (e_Limpl_Value x11.Row)) g_Limpl_Value rfl (hn := ?_)
    refine LWo.lit (ops := [_]) [(e_Limpl_Value x11.Row)] u_LLimpl_Value s_Limpl_Value z_Limpl_Value rfl rfl rfl rfl rfl rfl (hn := ?_)
    refine bk h fun x12 e12 h => ?_
    refine LWo.appendM (f := e_Limpl_Value) e12 rfl u_LLimpl_Value u_LLimpl_Value (fun _ h => by cases h) s_Limpl_Value i_Limpl_Value rfl rfl rfl (.sl rfl) rfl rfl (hn := ?_)
    refine LWo.assign (.own 1009 0 (x12).length) rfl (hn := ?_)
    refine LWo.nil (hN10 _ ?_)
    refine LWP.region (l := [_,_,_]) ?_
    refine LWo.move (e_int t4) rfl (hn := ?_)
    refine bk h fun x13 e13 h => ?_
    refine LWo.int _ rfl rfl (add_ck e13) (hn := ?_)
    refine LWo.assign (e_int x13) rfl (hn := ?_)
    refine LWo.nil (hN5 (t0, x13, x12) _ ⟨rfl, rfl, rfl, trivial⟩ ⟨rfl, trivial⟩ h)
   ·have h := bF h9 h
    refine LWP.exit (hN3 (t0, o1009) _ ⟨rfl, rfl, trivial⟩ ⟨rfl, trivial⟩ h)

def m_spec_DeltaOf_j2 (o1008 : (List S_impl_Delta)) : Option (List S_impl_Delta) :=
  (m_spec_l11Sum o1008).bind fun x38 =>
  some x38
def m_spec_DeltaOf_l2 : Nat → (List (List S_impl_Value)) → Int → (List S_impl_Delta) → Option (List S_impl_Delta)
  | 0, _, _, _ => none
  | n2 + 1, t1, t7, o1008 =>
    bif decide (t7 < (t1.length : Int)) then ((at? t1 t7).bind fun x30 =>
    (m_spec_RowOk x30).bind fun x31 =>
    bif (!x31) then (some ([] : (List S_impl_Delta)))
    else ((at? t1 t7).bind fun x34 =>
    (app? o1008 ([(⟨x34, (1 : Int)⟩ : S_impl_Delta)] : (List S_impl_Delta))).bind fun x35 =>
    (ckI (t7 + (1 : Int))).bind fun x36 =>
    (m_spec_DeltaOf_l2  n2) t1 x36 x35))
    else (m_spec_DeltaOf_j2  o1008)
def m_spec_DeltaOf_j1 (t1 : (List (List S_impl_Value))) (o1008 : (List S_impl_Delta)) : Option (List S_impl_Delta) :=
  m_spec_DeltaOf_l2  (((t1.length : Int) - (0 : Int)).toNat + 1) t1 (0 : Int) o1008
def m_spec_DeltaOf_l1 : Nat → (List (List S_impl_Value)) → (List (List S_impl_Value)) → Int → (List S_impl_Delta) → Option (List S_impl_Delta)
  | 0, _, _, _, _ => none
  | n1 + 1, t0, t1, t6, o1008 =>
    bif decide (t6 < (t0.length : Int)) then ((at? t0 t6).bind fun x13 =>
    (m_spec_RowOk x13).bind fun x14 =>
    bif (!x14) then (some ([] : (List S_impl_Delta)))
    else ((at? t0 t6).bind fun x17 =>
    (app? o1008 ([(⟨x17, (-1 : Int)⟩ : S_impl_Delta)] : (List S_impl_Delta))).bind fun x18 =>
    (ckI (t6 + (1 : Int))).bind fun x19 =>
    (m_spec_DeltaOf_l1  n1) t0 t1 x19 x18))
    else (m_spec_DeltaOf_j1  t1 o1008)
def m_spec_DeltaOf (a0 : (List (List S_impl_Value))) (a1 : (List (List S_impl_Value))) : Option (List S_impl_Delta) :=
  m_spec_DeltaOf_l1  (((a0.length : Int) - (0 : Int)).toNat + 1) a0 a1 (0 : Int) ([] : (List S_impl_Delta))
theorem c_spec_DeltaOf (a0 : (List (List S_impl_Value))) (a1 : (List (List S_impl_Value))) (r : (List S_impl_Delta)) (h : m_spec_DeltaOf a0 a1 = some r) : Ret Try.prog f_spec_DeltaOf [e_LLimpl_Value a0, e_LLimpl_Value a1] (.nw 2 (r.map e_impl_Delta) false) := by
  refine Does.goG [] F_spec_DeltaOf rfl e_spec_DeltaOf n_spec_DeltaOf rfl (rvs := [.tmp 4]) rfl rfl ?_
  intro w0 ok0 lent ρ0
  refine LWP.seq_k fun N1 hN1 => ?_
  refine LWP.region (l := [_]) ?_
  refine LWo.assign _ rfl (hn := ?_)
  refine LWo.ownNil 4 1004 2 rfl rfl rfl ?_
  refine LWo.known 4 (.own 1004 0 ([] : (List S_impl_Delta)).length) rfl ?_
  refine LWo.nil (hN1 _ ?_)
  refine LWP.seq_k fun N2 hN2 => ?_
  refine LWP.region (l := [_,_]) ?_
  refine LWo.lit0 1008 u_Limpl_Delta s_impl_Delta z_impl_Delta (hn := ?_)
  refine LWo.known 8 (.own 1008 0 ([] : (List S_impl_Delta)).length) rfl ?_
  refine LWo.assign (.own 1008 0 (([] : (List S_impl_Delta))).length) rfl (hn := ?_)
  refine LWo.nil (hN2 _ ?_)
  refine LWP.join (α := (List (List S_impl_Value)) × (List S_impl_Delta)) (fun z : (List (List S_impl_Value)) × (List S_impl_Delta) => [(1, (e_LLimpl_Value z.1)), (5, (.own 1008 0 (z.2).length))]) (fun z : (List (List S_impl_Value)) × (List S_impl_Delta) => [(1008, (lob 2 e_impl_Delta z.2))]) (fun z : (List (List S_impl_Value)) × (List S_impl_Delta) => m_spec_DeltaOf_j1  z.1 z.2) r (fun _ => by simp [hkeys]) ?_ ?_
  ·rintro ⟨t1, o1008⟩ h
   replace h : m_spec_DeltaOf_j1  t1 o1008 = some _ := h
   refine LWP.join (α := (List S_impl_Delta)) (fun z : (List S_impl_Delta) => [(5, (.own 1008 0 (z).length))]) (fun z : (List S_impl_Delta) => [(1008, (lob 2 e_impl_Delta z))]) (fun z : (List S_impl_Delta) => m_spec_DeltaOf_j2  z) r (fun _ => by simp [hkeys]) ?_ ?_
   ·rintro o1008 h
    replace h : m_spec_DeltaOf_j2  o1008 = some _ := h
    refine LWP.seq_k fun N37 hN37 => ?_
    refine LWP.region (l := [_,_,_]) ?_
    refine LWo.move (.own 1008 0 (o1008).length) rfl (hn := ?_)
    refine bk h fun x38 e38 h => ?_
    refine LWo.frzL (f := e_impl_Delta) (l := o1008) [5, 51] 1008 rfl rfl ⟨rfl, rfl, trivial⟩ ?_
    refine LWo.ncall (e := e_impl_Delta) 1052 rfl rfl (c_spec_l11Sum _ _ e38) (.same (.nil)) rfl (hn := ?_)
    refine LWo.assign (.own 1052 0 (x38).length) rfl (hn := ?_)
    refine LWo.nil (hN37 _ ?_)
    obtain rfl := Option.some.inj h
    refine LWP.ret (QG.mk (.inr rfl) (.cons (.tmp (x := (.own 1052 0 (x38).length)) rfl) (.nil)) (RetOK.one0 (.nwM rfl rfl) (by decide)) rfl rfl)
   ·intro N20 hN20
    refine LWP.seq_k fun N21 hN21 => ?_
    refine LWP.region (l := [_]) ?_
    refine LWo.assign (e_int (0 : Int)) rfl (hn := ?_)
    refine LWo.nil (hN21 _ ?_)
    refine LWP.block ?_
    refine LWP.loopM (α := (List (List S_impl_Value)) × Int × (List S_impl_Delta)) (fun z : (List (List S_impl_Value)) × Int × (List S_impl_Delta) => [(1, (e_LLimpl_Value z.1)), (5, (.own 1008 0 (z.2.2).length)), (7, (e_int z.2.1))]) (fun z : (List (List S_impl_Value)) × Int × (List S_impl_Delta) => [(1008, (lob 2 e_impl_Delta z.2.2))]) (fun n2 (z : (List (List S_impl_Value)) × Int × (List S_impl_Delta)) => m_spec_DeltaOf_l2  n2 z.1 z.2.1 z.2.2) r _ (t1, (0 : Int), o1008) h (fun _ => rfl) (fun _ => by simp [hkeys]) ⟨rfl, rfl, rfl, trivial⟩ ⟨rfl, trivial⟩ ?_
    rintro n2 ⟨t1, t7, o1008⟩ h N22 hN22
    replace h : m_spec_DeltaOf_l2  (n2 + 1) t1 t7 o1008 = some _ := h
    refine LWP.seq_k fun N24 hN24 => ?_
    refine LWP.seq_k fun N25 hN25 => ?_
    refine LWP.region (l := [_,_,_,_]) ?_
    refine LWo.move (e_int t7) rfl (hn := ?_)
    refine LWo.move (e_LLimpl_Value t1) rfl (hn := ?_)
    refine LWo.lenM (f := e_Limpl_Value) (l := t1) u_LLimpl_Value rfl (hn := ?_)
    refine LWo.int _ rfl rfl rfl (hn := ?_)
    refine LWo.nil (hN25 _ ?_)
    refine LWP.cond_split rfl (fun h26 => ?_) (fun h26 => ?_)
    ·have h := bT h26 h
     refine LWP.skip (hN24 _ ?_)
     refine LWP.seq_k fun N27 hN27 => ?_
     refine LWP.block ?_
     refine LWP.seq_k fun N28 hN28 => ?_
     refine LWP.seq_k fun N29 hN29 => ?_
     refine LWP.region (l := [_,_,_,_,_,_]) ?_
     refine LWo.move (e_LLimpl_Value t1) rfl (hn := ?_)
     refine LWo.move (e_int t7) rfl (hn := ?_)
     refine bk h fun x30 e30 h => ?_
     refine LWo.indexM (f := e_Limpl_Value) e30 u_LLimpl_Value s_Limpl_Value rfl rfl (hn := ?_)
     refine LWo.load1 (c := (e_Limpl_Value x30)) g_Limpl_Value rfl (hn := ?_)
     refine bk h fun x31 e31 h => ?_
     refine LWo.vcall rfl rfl (c_spec_RowOk _ _ e31) (.same (.nil)) (hn := ?_)
     refine LWo.not rfl (hn := ?_)
     refine LWo.nil (hN29 _ ?_)
     refine LWP.cond_split rfl (fun h32 => ?_) (fun h32 => ?_)
     ·have h := bT h32 h
      refine LWP.seq_k fun N33 hN33 => ?_
      refine LWP.region (l := [_,_]) ?_
      refine LWo.lit0 1042 u_Limpl_Delta s_impl_Delta z_impl_Delta (hn := ?_)
      refine LWo.known 42 (.own 1042 0 ([] : (List S_impl_Delta)).length) rfl ?_
      refine LWo.assign (.own 1042 0 (([] : (List S_impl_Delta))).length) rfl (hn := ?_)
      refine LWo.nil (hN33 _ ?_)
      obtain rfl := Option.some.inj h
      refine LWP.ret (QG.mk (.inr rfl) (.cons (.tmp (x := (.own 1042 0 (([] : (List S_impl_Delta))).length)) rfl) (.nil)) (RetOK.one0 (.nwM rfl rfl) (by decide)) rfl rfl)
     ·have h := bF h32 h
      refine LWP.skip (hN28 _ ?_)
      refine LWP.region (l := [_,_,_,_,_,_,_,_,_]) ?_
      refine LWo.move (.own 1008 0 (o1008).length) rfl (hn := ?_)
      refine LWo.move (e_LLimpl_Value t1) rfl (hn := ?_)
      refine LWo.move (e_int t7) rfl (hn := ?_)
      refine bk h fun x34 e34 h => ?_
      refine LWo.indexM (f := e_Limpl_Value) e34 u_LLimpl_Value s_Limpl_Value rfl rfl (hn := ?_)
      refine LWo.load1 (c := (e_Limpl_Value x34)) g_Limpl_Value rfl (hn := ?_)
      refine LWo.build_impl_Delta (parts := [_, _]) (⟨x34, (1 : Int)⟩ : S_impl_Delta) rfl rfl rfl .refl (hn := ?_)
      refine LWo.lit (ops := [_]) [(e_impl_Delta (⟨x34, (1 : Int)⟩ : S_impl_Delta))] u_Limpl_Delta s_impl_Delta z_impl_Delta rfl rfl rfl rfl rfl rfl (hn := ?_)
      refine bk h fun x35 e35 h => ?_
      refine LWo.appendM (f := e_impl_Delta) e35 rfl u_Limpl_Delta u_Limpl_Delta (fun _ h => by cases h) s_impl_Delta i_impl_Delta rfl rfl rfl (.sl rfl) rfl rfl (hn := ?_)
      refine LWo.assign (.own 1008 0 (x35).length) rfl (hn := ?_)
      refine LWo.nil (hN27 _ ?_)
      refine LWP.region (l := [_,_,_]) ?_
      refine LWo.move (e_int t7) rfl (hn := ?_)
      refine bk h fun x36 e36 h => ?_
      refine LWo.int _ rfl rfl (add_ck e36) (hn := ?_)
      refine LWo.assign (e_int x36) rfl (hn := ?_)
      refine LWo.nil (hN22 (t1, x36, x35) _ ⟨rfl, rfl, rfl, trivial⟩ ⟨rfl, trivial⟩ h)
    ·have h := bF h26 h
     refine LWP.exit (hN20 o1008 _ ⟨rfl, trivial⟩ ⟨rfl, trivial⟩ h)
  ·intro N3 hN3
   refine LWP.seq_k fun N4 hN4 => ?_
   refine LWP.region (l := [_]) ?_
   refine LWo.assign (e_int (0 : Int)) rfl (hn := ?_)
   refine LWo.nil (hN4 _ ?_)
   refine LWP.block ?_
   refine LWP.loopM (α := (List (List S_impl_Value)) × (List (List S_impl_Value)) × Int × (List S_impl_Delta)) (fun z : (List (List S_impl_Value)) × (List (List S_impl_Value)) × Int × (List S_impl_Delta) => [(0, (e_LLimpl_Value z.1)), (1, (e_LLimpl_Value z.2.1)), (5, (.own 1008 0 (z.2.2.2).length)), (6, (e_int z.2.2.1))]) (fun z : (List (List S_impl_Value)) × (List (List S_impl_Value)) × Int × (List S_impl_Delta) => [(1008, (lob 2 e_impl_Delta z.2.2.2))]) (fun n1 (z : (List (List S_impl_Value)) × (List (List S_impl_Value)) × Int × (List S_impl_Delta)) => m_spec_DeltaOf_l1  n1 z.1 z.2.1 z.2.2.1 z.2.2.2) r _ (a0, a1, (0 : Int), ([] : (List S_impl_Delta))) h (fun _ => rfl) (fun _ => by simp [hkeys]) ⟨rfl, rfl, rfl, rfl, trivial⟩ ⟨rfl, trivial⟩ ?_
   rintro n1 ⟨t0, t1, t6, o1008⟩ h N5 hN5
   replace h : m_spec_DeltaOf_l1  (n1 + 1) t0 t1 t6 o1008 = some _ := h
   refine LWP.seq_k fun N7 hN7 => ?_
   refine LWP.seq_k fun N8 hN8 => ?_
   refine LWP.region (l := [_,_,_,_]) ?_
   refine LWo.move (e_int t6) rfl (hn := ?_)
   refine LWo.move (e_LLimpl_Value t0) rfl (hn := ?_)
   refine LWo.lenM (f := e_Limpl_Value) (l := t0) u_LLimpl_Value rfl (hn := ?_)
   refine LWo.int _ rfl rfl rfl (hn := ?_)
   refine LWo.nil (hN8 _ ?_)
   refine LWP.cond_split rfl (fun h9 => ?_) (fun h9 => ?_)
   ·have h := bT h9 h
    refine LWP.skip (hN7 _ ?_)
    refine LWP.seq_k fun N10 hN10 => ?_
    refine LWP.block ?_
    refine LWP.seq_k fun N11 hN11 => ?_
    refine LWP.seq_k fun N12 hN12 => ?_
    refine LWP.region (l := [_,_,_,_,_,_]) ?_
    refine LWo.move (e_LLimpl_Value t0) rfl (hn := ?_)
    refine LWo.move (e_int t6) rfl (hn := ?_)
    refine bk h fun x13 e13 h => ?_
    refine LWo.indexM (f := e_Limpl_Value) e13 u_LLimpl_Value s_Limpl_Value rfl rfl (hn := ?_)
    refine LWo.load1 (c := (e_Limpl_Value x13)) g_Limpl_Value rfl (hn := ?_)
    refine bk h fun x14 e14 h => ?_
    refine LWo.vcall rfl rfl (c_spec_RowOk _ _ e14) (.same (.nil)) (hn := ?_)
    refine LWo.not rfl (hn := ?_)
    refine LWo.nil (hN12 _ ?_)
    refine LWP.cond_split rfl (fun h15 => ?_) (fun h15 => ?_)
    ·have h := bT h15 h
     refine LWP.seq_k fun N16 hN16 => ?_
     refine LWP.region (l := [_,_]) ?_
     refine LWo.lit0 1021 u_Limpl_Delta s_impl_Delta z_impl_Delta (hn := ?_)
     refine LWo.known 21 (.own 1021 0 ([] : (List S_impl_Delta)).length) rfl ?_
     refine LWo.assign (.own 1021 0 (([] : (List S_impl_Delta))).length) rfl (hn := ?_)
     refine LWo.nil (hN16 _ ?_)
     obtain rfl := Option.some.inj h
     refine LWP.ret (QG.mk (.inr rfl) (.cons (.tmp (x := (.own 1021 0 (([] : (List S_impl_Delta))).length)) rfl) (.nil)) (RetOK.one0 (.nwM rfl rfl) (by decide)) rfl rfl)
    ·have h := bF h15 h
     refine LWP.skip (hN11 _ ?_)
     refine LWP.region (l := [_,_,_,_,_,_,_,_,_]) ?_
     refine LWo.move (.own 1008 0 (o1008).length) rfl (hn := ?_)
     refine LWo.move (e_LLimpl_Value t0) rfl (hn := ?_)
     refine LWo.move (e_int t6) rfl (hn := ?_)
     refine bk h fun x17 e17 h => ?_
     refine LWo.indexM (f := e_Limpl_Value) e17 u_LLimpl_Value s_Limpl_Value rfl rfl (hn := ?_)
     refine LWo.load1 (c := (e_Limpl_Value x17)) g_Limpl_Value rfl (hn := ?_)
     refine LWo.build_impl_Delta (parts := [_, _]) (⟨x17, (-1 : Int)⟩ : S_impl_Delta) rfl rfl rfl .refl (hn := ?_)
     refine LWo.lit (ops := [_]) [(e_impl_Delta (⟨x17, (-1 : Int)⟩ : S_impl_Delta))] u_Limpl_Delta s_impl_Delta z_impl_Delta rfl rfl rfl rfl rfl rfl (hn := ?_)
     refine bk h fun x18 e18 h => ?_
     refine LWo.appendM (f := e_impl_Delta) e18 rfl u_Limpl_Delta u_Limpl_Delta (fun _ h => by cases h) s_impl_Delta i_impl_Delta rfl rfl rfl (.sl rfl) rfl rfl (hn := ?_)
     refine LWo.assign (.own 1008 0 (x18).length) rfl (hn := ?_)
     refine LWo.nil (hN10 _ ?_)
     refine LWP.region (l := [_,_,_]) ?_
     refine LWo.move (e_int t6) rfl (hn := ?_)
     refine bk h fun x19 e19 h => ?_
     refine LWo.int _ rfl rfl (add_ck e19) (hn := ?_)
     refine LWo.assign (e_int x19) rfl (hn := ?_)
     refine LWo.nil (hN5 (t0, t1, x19, x18) _ ⟨rfl, rfl, rfl, rfl, trivial⟩ ⟨rfl, trivial⟩ h)
   ·have h := bF h9 h
    refine LWP.exit (hN3 (t1, o1008) _ ⟨rfl, rfl, trivial⟩ ⟨rfl, trivial⟩ h)

def m_spec_l32Row_j1 (t2 : Bool) : Option Bool :=
  some t2
def m_spec_l32Row (a0 : (List S_impl_Value)) : Option Bool :=
  (m_spec_RowOk a0).bind fun x3 =>
  bif x3 then (bif ((a0.length : Int) == (2 : Int)) then ((at? a0 (1 : Int)).bind fun x6 =>
      bif (x6.Kind == (1 : Int)) then (m_spec_l32Row_j1  true)
      else ((at? a0 (1 : Int)).bind fun x8 =>
        m_spec_l32Row_j1  (x8.Kind == (0 : Int))))
    else (m_spec_l32Row_j1  false))
  else (m_spec_l32Row_j1  false)
theorem c_spec_l32Row (a0 : (List S_impl_Value)) (r : Bool) (h : m_spec_l32Row a0 = some r) : Ret Try.prog f_spec_l32Row [e_Limpl_Value a0] (e_bool r) := by
  refine Does.goG [] F_spec_l32Row rfl e_spec_l32Row n_spec_l32Row rfl (rvs := [.tmp 2]) rfl rfl ?_
  intro w0 ok0 lent ρ0
  refine LWP.seq_k fun N1 hN1 => ?_
  refine LWP.region (l := [_]) ?_
  refine LWo.assign (e_bool false) rfl (hn := ?_)
  refine LWo.nil (hN1 _ ?_)
  refine LWP.join (α := Bool) (fun z : Bool => [(2, (e_bool z))]) (fun z : Bool => []) (fun z : Bool => m_spec_l32Row_j1  z) r (fun _ => by simp [hkeys]) ?_ ?_
  ·rintro t2 h
   replace h : m_spec_l32Row_j1  t2 = some _ := h
   obtain rfl := Option.some.inj h
   refine LWP.ret (QG.mk (.inr rfl) (.cons (.tmp (x := (e_bool t2)) rfl) (.nil)) (RetOK.one0 (.pure rfl) (by decide)) rfl rfl)
  ·intro N2 hN2
   refine LWP.region (l := [_,_,_,_,_,_,_,_,_,_,_,_,_,_,_,_,_,_,_,_,_,_]) ?_
   refine LWo.move (e_Limpl_Value a0) rfl (hn := ?_)
   refine bk h fun x3 e3 h => ?_
   refine LWo.vcall rfl rfl (c_spec_RowOk _ _ e3) (.same (.nil)) (hn := ?_)
   refine LWo.move (e_bool x3) rfl (hn := ?_)
   refine LWo.byCases (t := 5) _ rfl (fun h4 => ?_) (fun h4 => ?_)
   ·have h := bT h4 h
    refine LWo.guardY (t := 5) rfl h4 rfl rfl ?_
    refine LWo.move (e_Limpl_Value a0) rfl (hn := ?_)
    refine LWo.guardY (t := 5) rfl h4 rfl rfl ?_
    refine LWo.lenM (f := e_impl_Value) (l := a0) u_Limpl_Value rfl (hn := ?_)
    refine LWo.guardY (t := 5) rfl h4 rfl rfl ?_
    refine LWo.int _ rfl rfl rfl (hn := ?_)
    refine LWo.pickTM (e_bool ((a0.length : Int) == (2 : Int))) rfl h4 rfl (hn := ?_)
    refine LWo.move (e_bool ((a0.length : Int) == (2 : Int))) rfl (hn := ?_)
    refine LWo.byCases (t := 10) _ rfl (fun h5 => ?_) (fun h5 => ?_)
    ·have h := bT h5 h
     refine LWo.guardY (t := 10) rfl h5 rfl rfl ?_
     refine LWo.move (e_Limpl_Value a0) rfl (hn := ?_)
     refine bk h fun x6 e6 h => ?_
     refine LWo.guardY (t := 10) rfl h5 rfl rfl ?_
     refine LWo.indexM (f := e_impl_Value) e6 u_Limpl_Value s_impl_Value rfl rfl (hn := ?_)
     refine LWo.guardY (t := 10) rfl h5 rfl rfl ?_
     refine LWo.fieldAddr _ u_impl_Value rfl s_int rfl rfl (hn := ?_)
     refine LWo.guardY (t := 10) rfl h5 rfl rfl ?_
     refine LWo.load1 (c := (e_int x6.Kind)) g_int rfl (hn := ?_)
     refine LWo.guardY (t := 10) rfl h5 rfl rfl ?_
     refine LWo.int _ rfl rfl rfl (hn := ?_)
     refine LWo.guardY (t := 10) rfl h5 rfl rfl ?_
     refine LWo.move (e_bool (x6.Kind == (1 : Int))) rfl (hn := ?_)
     refine LWo.byCases (t := 16) _ rfl (fun h7 => ?_) (fun h7 => ?_)
     ·have h := bT h7 h
      refine LWo.guardNU (t := 16) rfl h7 rfl rfl rfl rfl rfl ?_
      refine LWo.guardNU (t := 16) rfl h7 rfl rfl rfl rfl rfl ?_
      refine LWo.guardNU (t := 16) rfl h7 rfl rfl rfl rfl rfl ?_
      refine LWo.guardNU (t := 16) rfl h7 rfl rfl rfl rfl rfl ?_
      refine LWo.guardNU (t := 16) rfl h7 rfl rfl rfl rfl rfl ?_
      refine LWo.guardY (t := 10) rfl h5 rfl rfl ?_
      refine LWo.pickTM (e_bool true) rfl h7 rfl (hn := ?_)
      refine LWo.pickTM (e_bool true) rfl h5 rfl (hn := ?_)
      refine LWo.assign (e_bool true) rfl (hn := ?_)
      refine LWo.nil (hN2 true _ ⟨rfl, trivial⟩ trivial h)
     ·have h := bF h7 h
      refine LWo.guardY (t := 16) rfl h7 rfl rfl ?_
      refine LWo.move (e_Limpl_Value a0) rfl (hn := ?_)
      refine bk h fun x8 e8 h => ?_
      refine LWo.guardY (t := 16) rfl h7 rfl rfl ?_
      refine LWo.indexM (f := e_impl_Value) e8 u_Limpl_Value s_impl_Value rfl rfl (hn := ?_)
      refine LWo.guardY (t := 16) rfl h7 rfl rfl ?_
      refine LWo.fieldAddr _ u_impl_Value rfl s_int rfl rfl (hn := ?_)
      refine LWo.guardY (t := 16) rfl h7 rfl rfl ?_
      refine LWo.load1 (c := (e_int x8.Kind)) g_int rfl (hn := ?_)
      refine LWo.guardY (t := 16) rfl h7 rfl rfl ?_
      refine LWo.int _ rfl rfl rfl (hn := ?_)
      refine LWo.guardY (t := 10) rfl h5 rfl rfl ?_
      refine LWo.pickFM (e_bool (x8.Kind == (0 : Int))) rfl h7 rfl (hn := ?_)
      refine LWo.pickTM (e_bool (x8.Kind == (0 : Int))) rfl h5 rfl (hn := ?_)
      refine LWo.assign (e_bool (x8.Kind == (0 : Int))) rfl (hn := ?_)
      refine LWo.nil (hN2 (x8.Kind == (0 : Int)) _ ⟨rfl, trivial⟩ trivial h)
    ·have h := bF h5 h
     refine LWo.guardNU (t := 10) rfl h5 rfl rfl rfl rfl rfl ?_
     refine LWo.guardNU (t := 10) rfl h5 rfl rfl rfl rfl rfl ?_
     refine LWo.guardNU (t := 10) rfl h5 rfl rfl rfl rfl rfl ?_
     refine LWo.guardNU (t := 10) rfl h5 rfl rfl rfl rfl rfl ?_
     refine LWo.guardNU (t := 10) rfl h5 rfl rfl rfl rfl rfl ?_
     refine LWo.guardNU (t := 10) rfl h5 rfl rfl rfl rfl rfl ?_
     refine LWo.guardU (t := 16) rfl rfl rfl rfl rfl ?_
     refine LWo.guardU (t := 16) rfl rfl rfl rfl rfl ?_
     refine LWo.guardU (t := 16) rfl rfl rfl rfl rfl ?_
     refine LWo.guardU (t := 16) rfl rfl rfl rfl rfl ?_
     refine LWo.guardU (t := 16) rfl rfl rfl rfl rfl ?_
     refine LWo.guardNU (t := 10) rfl h5 rfl rfl rfl rfl rfl ?_
     refine LWo.pickFM (e_bool false) rfl h5 rfl (hn := ?_)
     refine LWo.assign (e_bool false) rfl (hn := ?_)
     refine LWo.nil (hN2 false _ ⟨rfl, trivial⟩ trivial h)
   ·have h := bF h4 h
    refine LWo.guardNU (t := 5) rfl h4 rfl rfl rfl rfl rfl ?_
    refine LWo.guardNU (t := 5) rfl h4 rfl rfl rfl rfl rfl ?_
    refine LWo.guardNU (t := 5) rfl h4 rfl rfl rfl rfl rfl ?_
    refine LWo.pickFM (e_bool false) rfl h4 rfl (hn := ?_)
    refine LWo.move (e_bool false) rfl (hn := ?_)
    refine LWo.guardNU (t := 10) rfl rfl rfl rfl rfl rfl rfl ?_
    refine LWo.guardNU (t := 10) rfl rfl rfl rfl rfl rfl rfl ?_
    refine LWo.guardNU (t := 10) rfl rfl rfl rfl rfl rfl rfl ?_
    refine LWo.guardNU (t := 10) rfl rfl rfl rfl rfl rfl rfl ?_
    refine LWo.guardNU (t := 10) rfl rfl rfl rfl rfl rfl rfl ?_
    refine LWo.guardNU (t := 10) rfl rfl rfl rfl rfl rfl rfl ?_
    refine LWo.guardU (t := 16) rfl rfl rfl rfl rfl ?_
    refine LWo.guardU (t := 16) rfl rfl rfl rfl rfl ?_
    refine LWo.guardU (t := 16) rfl rfl rfl rfl rfl ?_
    refine LWo.guardU (t := 16) rfl rfl rfl rfl rfl ?_
    refine LWo.guardU (t := 16) rfl rfl rfl rfl rfl ?_
    refine LWo.guardNU (t := 10) rfl rfl rfl rfl rfl rfl rfl ?_
    refine LWo.pickFM (e_bool false) rfl rfl rfl (hn := ?_)
    refine LWo.assign (e_bool false) rfl (hn := ?_)
    refine LWo.nil (hN2 false _ ⟨rfl, trivial⟩ trivial h)

def m_spec_l32Turn_j8 (o1029 : (List S_impl_Tally)) : Option (List S_impl_Tally) :=
  some o1029
def m_spec_l32Turn_j7 (t11 : Bool) (o9 : S_impl_Tally) (o1029 : (List S_impl_Tally)) : Option (List S_impl_Tally) :=
  bif (!t11) then ((app? o1029 ([o9] : (List S_impl_Tally))).bind fun x53 =>
    m_spec_l32Turn_j8  x53)
  else (m_spec_l32Turn_j8  o1029)
def m_spec_l32Turn_j6 (k1 : (List S_impl_Tally) → Bool → Int → S_impl_Tally → (List S_impl_Tally) → Option (List S_impl_Tally)) (t0 : (List S_impl_Tally)) (t11 : Bool) (t12 : Int) (o9 : S_impl_Tally) (o1029 : (List S_impl_Tally)) : Option (List S_impl_Tally) :=
  (ckI (t12 + (1 : Int))).bind fun x49 =>
  k1 t0 t11 x49 o9 o1029
def m_spec_l32Turn_j5 (k1 : (List S_impl_Tally) → Bool → Int → S_impl_Tally → (List S_impl_Tally) → Option (List S_impl_Tally)) (t0 : (List S_impl_Tally)) (t11 : Bool) (t12 : Int) (t87 : Bool) (o9 : S_impl_Tally) (o13 : S_impl_Tally) (o1029 : (List S_impl_Tally)) : Option (List S_impl_Tally) :=
  bif t87 then ((app? o1029 ([o13] : (List S_impl_Tally))).bind fun x48 =>
    m_spec_l32Turn_j6  k1 t0 t11 t12 o9 x48)
  else (m_spec_l32Turn_j6  k1 t0 t11 t12 o9 o1029)
def m_spec_l32Turn_j4 (k1 : (List S_impl_Tally) → Bool → Int → S_impl_Tally → (List S_impl_Tally) → Option (List S_impl_Tally)) (t0 : (List S_impl_Tally)) (t11 : Bool) (t12 : Int) (o9 : S_impl_Tally) (o13 : S_impl_Tally) (o1029 : (List S_impl_Tally)) : Option (List S_impl_Tally) :=
  bif (o13.Rows != (0 : Int)) then (m_spec_l32Turn_j5  k1 t0 t11 t12 true o9 o13 o1029)
  else (bif (o13.Many != (0 : Int)) then (m_spec_l32Turn_j5  k1 t0 t11 t12 true o9 o13 o1029)
    else (m_spec_l32Turn_j5  k1 t0 t11 t12 (o13.Sum != (0 : Int)) o9 o13 o1029))
def m_spec_l32Turn_j3 (k1 : (List S_impl_Tally) → Bool → Int → S_impl_Tally → (List S_impl_Tally) → Option (List S_impl_Tally)) (t0 : (List S_impl_Tally)) (t11 : Bool) (t12 : Int) (t14 : Int) (o9 : S_impl_Tally) (o13 : S_impl_Tally) (o1029 : (List S_impl_Tally)) : Option (List S_impl_Tally) :=
  bif (t14 == (0 : Int)) then ((ckI (o13.Rows + o9.Rows)).bind fun x36 =>
    lt ({ o13 with Rows := x36 }) fun y37 =>
    (ckI (y37.Many + o9.Many)).bind fun x39 =>
    lt ({ y37 with Many := x39 }) fun y40 =>
    (ckI (y40.Sum + o9.Sum)).bind fun x42 =>
    lt ({ y40 with Sum := x42 }) fun y43 =>
    m_spec_l32Turn_j4  k1 t0 true t12 o9 y43 o1029)
  else (m_spec_l32Turn_j4  k1 t0 t11 t12 o9 o13 o1029)
def m_spec_l32Turn_j2 (k1 : (List S_impl_Tally) → Bool → Int → S_impl_Tally → (List S_impl_Tally) → Option (List S_impl_Tally)) (t0 : (List S_impl_Tally)) (t11 : Bool) (t12 : Int) (t14 : Int) (t50 : Bool) (o9 : S_impl_Tally) (o13 : S_impl_Tally) (o1029 : (List S_impl_Tally)) : Option (List S_impl_Tally) :=
  bif t50 then ((app? o1029 ([o9] : (List S_impl_Tally))).bind fun x31 =>
    m_spec_l32Turn_j3  k1 t0 true t12 t14 o9 o13 x31)
  else (m_spec_l32Turn_j3  k1 t0 t11 t12 t14 o9 o13 o1029)
def m_spec_l32Turn_l1 : Nat → (List S_impl_Tally) → Bool → Int → S_impl_Tally → (List S_impl_Tally) → Option (List S_impl_Tally)
  | 0, _, _, _, _, _ => none
  | n1 + 1, t0, t11, t12, o9, o1029 =>
    bif decide (t12 < (t0.length : Int)) then ((at? t0 t12).bind fun x22 =>
    lt (x22) fun y23 =>
    (m_spec_RowOrder y23.Key o9.Key).bind fun x25 =>
    bif decide (x25 > (0 : Int)) then (m_spec_l32Turn_j2  (m_spec_l32Turn_l1  n1) t0 t11 t12 x25 (!t11) o9 y23 o1029)
    else (m_spec_l32Turn_j2  (m_spec_l32Turn_l1  n1) t0 t11 t12 x25 false o9 y23 o1029))
    else (m_spec_l32Turn_j7  t11 o9 o1029)
def m_spec_l32Turn_j1 (t0 : (List S_impl_Tally)) (o9 : S_impl_Tally) : Option (List S_impl_Tally) :=
  m_spec_l32Turn_l1  (((t0.length : Int) - (0 : Int)).toNat + 1) t0 false (0 : Int) o9 ([] : (List S_impl_Tally))
def m_spec_l32Turn (a0 : (List S_impl_Tally)) (a1 : S_impl_Value) (a2 : S_impl_Value) (a3 : Int) : Option (List S_impl_Tally) :=
  lt ((⟨([a1] : (List S_impl_Value)), a3, (0 : Int), (0 : Int)⟩ : S_impl_Tally)) fun y3 =>
  bif (a2.Kind == (1 : Int)) then (lt ({ y3 with Many := a3 }) fun y8 =>
    (ckI (a3 * a2.N)).bind fun x9 =>
    lt ({ y8 with Sum := x9 }) fun y10 =>
    m_spec_l32Turn_j1  a0 y10)
  else (m_spec_l32Turn_j1  a0 y3)
theorem c_spec_l32Turn (a0 : (List S_impl_Tally)) (a1 : S_impl_Value) (a2 : S_impl_Value) (a3 : Int) (r : (List S_impl_Tally)) (h : m_spec_l32Turn a0 a1 a2 a3 = some r) : Ret Try.prog f_spec_l32Turn [e_Limpl_Tally a0, e_impl_Value a1, e_impl_Value a2, e_int a3] (.nw 4 (r.map e_impl_Tally) false) := by
  refine Does.goG [] F_spec_l32Turn rfl e_spec_l32Turn n_spec_l32Turn rfl (rvs := [.tmp 8]) rfl rfl ?_
  intro w0 ok0 lent ρ0
  refine LWP.seq_k fun N1 hN1 => ?_
  refine LWP.region (l := [_,_,_]) ?_
  refine LWo.boxF (e_impl_Value a1) rfl rfl rfl (hn := ?_)
  refine LWo.boxF (e_impl_Value a2) rfl rfl rfl (hn := ?_)
  refine LWo.assign _ rfl (hn := ?_)
  refine LWo.ownNil 8 1008 4 rfl rfl rfl ?_
  refine LWo.known 8 (.own 1008 0 ([] : (List S_impl_Tally)).length) rfl ?_
  refine LWo.nil (hN1 _ ?_)
  refine LWP.seq_k fun N2 hN2 => ?_
  refine LWP.region (l := [_,_,_,_,_,_]) ?_
  refine LWo.loadN ((e_impl_Value a1)).cells g_impl_Value s_impl_Value rfl (Nat.le_of_ble_eq_true rfl) rfl (hn := ?_)
  refine LWo.lit (ops := [_]) [(e_impl_Value a1)] u_Limpl_Value s_impl_Value z_impl_Value rfl rfl rfl rfl rfl rfl (hn := ?_)
  refine LWo.move (e_int a3) rfl (hn := ?_)
  refine LWo.build_impl_Tally (parts := [_, _]) (⟨([a1] : (List S_impl_Value)), a3, (0 : Int), (0 : Int)⟩ : S_impl_Tally) rfl rfl rfl .refl (hn := ?_)
  refine LWo.alloc_impl_Tally 9 rfl (hn := ?_)
  refine lk h fun y3 e3 h => ?_
  refine LWo.storeW (y := (⟨[], (0 : Int), (0 : Int), (0 : Int)⟩ : S_impl_Tally)) y3 s_impl_Tally rfl rfl rfl rfl rfl rfl (by rw [e3]; exact .refl) rfl (hn := ?_)
  refine LWo.nil (hN2 _ ?_)
  refine LWP.join (α := (List S_impl_Tally) × S_impl_Tally) (fun z : (List S_impl_Tally) × S_impl_Tally => [(0, (e_Limpl_Tally z.1)), (9, (.ptr 9 0 0))]) (fun z : (List S_impl_Tally) × S_impl_Tally => [(9, (vob 4 e_impl_Tally z.2))]) (fun z : (List S_impl_Tally) × S_impl_Tally => m_spec_l32Turn_j1  z.1 z.2) r (fun _ => by simp [hkeys]) ?_ ?_
  ·rintro ⟨t0, o9⟩ h
   replace h : m_spec_l32Turn_j1  t0 o9 = some _ := h
   refine LWP.seq_k fun N11 hN11 => ?_
   refine LWP.region (l := [_,_]) ?_
   refine LWo.lit0 1029 u_Limpl_Tally s_impl_Tally z_impl_Tally (hn := ?_)
   refine LWo.known 29 (.own 1029 0 ([] : (List S_impl_Tally)).length) rfl ?_
   refine LWo.assign (.own 1029 0 (([] : (List S_impl_Tally))).length) rfl (hn := ?_)
   refine LWo.nil (hN11 _ ?_)
   refine LWP.seq_k fun N12 hN12 => ?_
   refine LWP.region (l := [_]) ?_
   refine LWo.assign (e_bool false) rfl (hn := ?_)
   refine LWo.nil (hN12 _ ?_)
   refine LWP.join (α := Bool × S_impl_Tally × (List S_impl_Tally)) (fun z : Bool × S_impl_Tally × (List S_impl_Tally) => [(9, (.ptr 9 0 0)), (10, (.own 1029 0 (z.2.2).length)), (11, (e_bool z.1))]) (fun z : Bool × S_impl_Tally × (List S_impl_Tally) => [(9, (vob 4 e_impl_Tally z.2.1)), (1029, (lob 4 e_impl_Tally z.2.2))]) (fun z : Bool × S_impl_Tally × (List S_impl_Tally) => m_spec_l32Turn_j7  z.1 z.2.1 z.2.2) r (fun _ => by simp [hkeys]) ?_ ?_
   ·rintro ⟨t11, o9, o1029⟩ h
    replace h : m_spec_l32Turn_j7  t11 o9 o1029 = some _ := h
    refine LWP.join (α := (List S_impl_Tally)) (fun z : (List S_impl_Tally) => [(10, (.own 1029 0 (z).length))]) (fun z : (List S_impl_Tally) => [(1029, (lob 4 e_impl_Tally z))]) (fun z : (List S_impl_Tally) => m_spec_l32Turn_j8  z) r (fun _ => by simp [hkeys]) ?_ ?_
    ·rintro o1029 h
     replace h : m_spec_l32Turn_j8  o1029 = some _ := h
     refine LWP.seq_k fun N54 hN54 => ?_
     refine LWP.region (l := [_,_]) ?_
     refine LWo.move (.own 1029 0 (o1029).length) rfl (hn := ?_)
     refine LWo.assign (.own 1029 0 (o1029).length) rfl (hn := ?_)
     refine LWo.nil (hN54 _ ?_)
     obtain rfl := Option.some.inj h
     refine LWP.ret (QG.mk (.inr rfl) (.cons (.tmp (x := (.own 1029 0 (o1029).length)) rfl) (.nil)) (RetOK.one0 (.nwM rfl rfl) (by decide)) rfl rfl)
    ·intro N50 hN50
     refine LWP.seq_k fun N51 hN51 => ?_
     refine LWP.region (l := [_,_]) ?_
     refine LWo.move (e_bool t11) rfl (hn := ?_)
     refine LWo.not rfl (hn := ?_)
     refine LWo.nil (hN51 _ ?_)
     refine LWP.cond_split rfl (fun h52 => ?_) (fun h52 => ?_)
     ·have h := bT h52 h
      refine LWP.region (l := [_,_,_,_,_]) ?_
      refine LWo.move (.own 1029 0 (o1029).length) rfl (hn := ?_)
      refine LWo.loadVN ((e_impl_Tally o9)).cells  g_impl_Tally s_impl_Tally rfl rfl rfl rfl (hn := ?_)
      refine LWo.lit (ops := [_]) [(e_impl_Tally o9)] u_Limpl_Tally s_impl_Tally z_impl_Tally rfl rfl rfl rfl rfl rfl (hn := ?_)
      refine bk h fun x53 e53 h => ?_
      refine LWo.appendM (f := e_impl_Tally) e53 rfl u_Limpl_Tally u_Limpl_Tally (fun _ h => by cases h) s_impl_Tally i_impl_Tally rfl rfl rfl (.sl rfl) rfl rfl (hn := ?_)
      refine LWo.assign (.own 1029 0 (x53).length) rfl (hn := ?_)
      refine LWo.nil (hN50 x53 _ ⟨rfl, trivial⟩ ⟨rfl, trivial⟩ h)
     ·have h := bF h52 h
      refine LWP.skip (hN50 o1029 _ ⟨rfl, trivial⟩ ⟨rfl, trivial⟩ h)
   ·intro N13 hN13
    refine LWP.seq_k fun N14 hN14 => ?_
    refine LWP.region (l := [_]) ?_
    refine LWo.assign (e_int (0 : Int)) rfl (hn := ?_)
    refine LWo.nil (hN14 _ ?_)
    refine LWP.block ?_
    refine LWP.loopM (α := (List S_impl_Tally) × Bool × Int × S_impl_Tally × (List S_impl_Tally)) (fun z : (List S_impl_Tally) × Bool × Int × S_impl_Tally × (List S_impl_Tally) => [(0, (e_Limpl_Tally z.1)), (9, (.ptr 9 0 0)), (10, (.own 1029 0 (z.2.2.2.2).length)), (11, (e_bool z.2.1)), (12, (e_int z.2.2.1))]) (fun z : (List S_impl_Tally) × Bool × Int × S_impl_Tally × (List S_impl_Tally) => [(9, (vob 4 e_impl_Tally z.2.2.2.1)), (1029, (lob 4 e_impl_Tally z.2.2.2.2))]) (fun n1 (z : (List S_impl_Tally) × Bool × Int × S_impl_Tally × (List S_impl_Tally)) => m_spec_l32Turn_l1  n1 z.1 z.2.1 z.2.2.1 z.2.2.2.1 z.2.2.2.2) r _ (t0, false, (0 : Int), o9, ([] : (List S_impl_Tally))) h (fun _ => rfl) (fun _ => by simp [hkeys]) ⟨rfl, rfl, rfl, rfl, rfl, trivial⟩ ⟨rfl, rfl, trivial⟩ ?_
    rintro n1 ⟨t0, t11, t12, o9, o1029⟩ h N15 hN15
    replace h : m_spec_l32Turn_l1  (n1 + 1) t0 t11 t12 o9 o1029 = some _ := h
    refine LWP.seq_k fun N17 hN17 => ?_
    refine LWP.seq_k fun N18 hN18 => ?_
    refine LWP.region (l := [_,_,_,_]) ?_
    refine LWo.move (e_int t12) rfl (hn := ?_)
    refine LWo.move (e_Limpl_Tally t0) rfl (hn := ?_)
    refine LWo.lenM (f := e_impl_Tally) (l := t0) u_Limpl_Tally rfl (hn := ?_)
    refine LWo.int _ rfl rfl rfl (hn := ?_)
    refine LWo.nil (hN18 _ ?_)
    refine LWP.cond_split rfl (fun h19 => ?_) (fun h19 => ?_)
    ·have h := bT h19 h
     refine LWP.skip (hN17 _ ?_)
     refine LWP.join (α := (List S_impl_Tally) × Bool × Int × S_impl_Tally × (List S_impl_Tally)) (fun z : (List S_impl_Tally) × Bool × Int × S_impl_Tally × (List S_impl_Tally) => [(0, (e_Limpl_Tally z.1)), (9, (.ptr 9 0 0)), (10, (.own 1029 0 (z.2.2.2.2).length)), (11, (e_bool z.2.1)), (12, (e_int z.2.2.1))]) (fun z : (List S_impl_Tally) × Bool × Int × S_impl_Tally × (List S_impl_Tally) => [(9, (vob 4 e_impl_Tally z.2.2.2.1)), (1029, (lob 4 e_impl_Tally z.2.2.2.2))]) (fun z : (List S_impl_Tally) × Bool × Int × S_impl_Tally × (List S_impl_Tally) => m_spec_l32Turn_j6  (m_spec_l32Turn_l1  n1) z.1 z.2.1 z.2.2.1 z.2.2.2.1 z.2.2.2.2) r (fun _ => by simp [hkeys]) ?_ ?_
     ·rintro ⟨t0, t11, t12, o9, o1029⟩ h
      replace h : m_spec_l32Turn_j6  (m_spec_l32Turn_l1  n1) t0 t11 t12 o9 o1029 = some _ := h
      refine LWP.region (l := [_,_,_]) ?_
      refine LWo.move (e_int t12) rfl (hn := ?_)
      refine bk h fun x49 e49 h => ?_
      refine LWo.int _ rfl rfl (add_ck e49) (hn := ?_)
      refine LWo.assign (e_int x49) rfl (hn := ?_)
      refine LWo.nil (hN15 (t0, t11, x49, o9, o1029) _ ⟨rfl, rfl, rfl, rfl, rfl, trivial⟩ ⟨rfl, rfl, trivial⟩ h)
     ·intro N20 hN20
      refine LWP.block ?_
      refine LWP.seq_k fun N21 hN21 => ?_
      refine LWP.region (l := [_,_,_,_,_,_]) ?_
      refine LWo.move (e_Limpl_Tally t0) rfl (hn := ?_)
      refine LWo.move (e_int t12) rfl (hn := ?_)
      refine bk h fun x22 e22 h => ?_
      refine LWo.indexM (f := e_impl_Tally) e22 u_Limpl_Tally s_impl_Tally rfl rfl (hn := ?_)
      refine LWo.loadN ((e_impl_Tally x22)).cells g_impl_Tally s_impl_Tally rfl (Nat.le_of_ble_eq_true rfl) rfl (hn := ?_)
      refine LWo.alloc_impl_Tally 13 rfl (hn := ?_)
      refine lk h fun y23 e23 h => ?_
      refine LWo.storeW (y := (⟨[], (0 : Int), (0 : Int), (0 : Int)⟩ : S_impl_Tally)) y23 s_impl_Tally rfl rfl rfl rfl rfl rfl (by rw [e23]; exact .refl) rfl (hn := ?_)
      refine LWo.nil (hN21 _ ?_)
      refine LWP.seq_k fun N24 hN24 => ?_
      refine LWP.region (l := [_,_,_,_,_,_]) ?_
      refine LWo.fieldPtr u_impl_Tally rfl s_Limpl_Value rfl rfl (hn := ?_)
      refine LWo.loadV1 (e_Limpl_Value y23.Key)  g_Limpl_Value rfl rfl rfl (hn := ?_)
      refine LWo.fieldPtr u_impl_Tally rfl s_Limpl_Value rfl rfl (hn := ?_)
      refine LWo.loadV1 (e_Limpl_Value o9.Key)  g_Limpl_Value rfl rfl rfl (hn := ?_)
      refine bk h fun x25 e25 h => ?_
      refine LWo.vcall rfl rfl (c_spec_RowOrder _ _ _ e25) (.same (.same (.nil))) (hn := ?_)
      refine LWo.assign (e_int x25) rfl (hn := ?_)
      refine LWo.nil (hN24 _ ?_)
      refine LWP.join (α := (List S_impl_Tally) × Bool × Int × Int × S_impl_Tally × S_impl_Tally × (List S_impl_Tally)) (fun z : (List S_impl_Tally) × Bool × Int × Int × S_impl_Tally × S_impl_Tally × (List S_impl_Tally) => [(0, (e_Limpl_Tally z.1)), (9, (.ptr 9 0 0)), (10, (.own 1029 0 (z.2.2.2.2.2.2).length)), (11, (e_bool z.2.1)), (12, (e_int z.2.2.1)), (13, (.ptr 13 0 0)), (14, (e_int z.2.2.2.1))]) (fun z : (List S_impl_Tally) × Bool × Int × Int × S_impl_Tally × S_impl_Tally × (List S_impl_Tally) => [(9, (vob 4 e_impl_Tally z.2.2.2.2.1)), (13, (vob 4 e_impl_Tally z.2.2.2.2.2.1)), (1029, (lob 4 e_impl_Tally z.2.2.2.2.2.2))]) (fun z : (List S_impl_Tally) × Bool × Int × Int × S_impl_Tally × S_impl_Tally × (List S_impl_Tally) => m_spec_l32Turn_j3  (m_spec_l32Turn_l1  n1) z.1 z.2.1 z.2.2.1 z.2.2.2.1 z.2.2.2.2.1 z.2.2.2.2.2.1 z.2.2.2.2.2.2) r (fun _ => by simp [hkeys]) ?_ ?_
      ·rintro ⟨t0, t11, t12, t14, o9, o13, o1029⟩ h
       replace h : m_spec_l32Turn_j3  (m_spec_l32Turn_l1  n1) t0 t11 t12 t14 o9 o13 o1029 = some _ := h
       refine LWP.join (α := (List S_impl_Tally) × Bool × Int × S_impl_Tally × S_impl_Tally × (List S_impl_Tally)) (fun z : (List S_impl_Tally) × Bool × Int × S_impl_Tally × S_impl_Tally × (List S_impl_Tally) => [(0, (e_Limpl_Tally z.1)), (9, (.ptr 9 0 0)), (10, (.own 1029 0 (z.2.2.2.2.2).length)), (11, (e_bool z.2.1)), (12, (e_int z.2.2.1)), (13, (.ptr 13 0 0))]) (fun z : (List S_impl_Tally) × Bool × Int × S_impl_Tally × S_impl_Tally × (List S_impl_Tally) => [(9, (vob 4 e_impl_Tally z.2.2.2.1)), (13, (vob 4 e_impl_Tally z.2.2.2.2.1)), (1029, (lob 4 e_impl_Tally z.2.2.2.2.2))]) (fun z : (List S_impl_Tally) × Bool × Int × S_impl_Tally × S_impl_Tally × (List S_impl_Tally) => m_spec_l32Turn_j4  (m_spec_l32Turn_l1  n1) z.1 z.2.1 z.2.2.1 z.2.2.2.1 z.2.2.2.2.1 z.2.2.2.2.2) r (fun _ => by simp [hkeys]) ?_ ?_
       ·rintro ⟨t0, t11, t12, o9, o13, o1029⟩ h
        replace h : m_spec_l32Turn_j4  (m_spec_l32Turn_l1  n1) t0 t11 t12 o9 o13 o1029 = some _ := h
        refine LWP.join (α := (List S_impl_Tally) × Bool × Int × Bool × S_impl_Tally × S_impl_Tally × (List S_impl_Tally)) (fun z : (List S_impl_Tally) × Bool × Int × Bool × S_impl_Tally × S_impl_Tally × (List S_impl_Tally) => [(0, (e_Limpl_Tally z.1)), (9, (.ptr 9 0 0)), (10, (.own 1029 0 (z.2.2.2.2.2.2).length)), (11, (e_bool z.2.1)), (12, (e_int z.2.2.1)), (13, (.ptr 13 0 0)), (87, (e_bool z.2.2.2.1))]) (fun z : (List S_impl_Tally) × Bool × Int × Bool × S_impl_Tally × S_impl_Tally × (List S_impl_Tally) => [(9, (vob 4 e_impl_Tally z.2.2.2.2.1)), (13, (vob 4 e_impl_Tally z.2.2.2.2.2.1)), (1029, (lob 4 e_impl_Tally z.2.2.2.2.2.2))]) (fun z : (List S_impl_Tally) × Bool × Int × Bool × S_impl_Tally × S_impl_Tally × (List S_impl_Tally) => m_spec_l32Turn_j5  (m_spec_l32Turn_l1  n1) z.1 z.2.1 z.2.2.1 z.2.2.2.1 z.2.2.2.2.1 z.2.2.2.2.2.1 z.2.2.2.2.2.2) r (fun _ => by simp [hkeys]) ?_ ?_
        ·rintro ⟨t0, t11, t12, t87, o9, o13, o1029⟩ h
         replace h : m_spec_l32Turn_j5  (m_spec_l32Turn_l1  n1) t0 t11 t12 t87 o9 o13 o1029 = some _ := h
         refine LWP.cond_split rfl (fun h47 => ?_) (fun h47 => ?_)
         ·have h := bT h47 h
          refine LWP.region (l := [_,_,_,_,_]) ?_
          refine LWo.move (.own 1029 0 (o1029).length) rfl (hn := ?_)
          refine LWo.loadVN ((e_impl_Tally o13)).cells  g_impl_Tally s_impl_Tally rfl rfl rfl rfl (hn := ?_)
          refine LWo.lit (ops := [_]) [(e_impl_Tally o13)] u_Limpl_Tally s_impl_Tally z_impl_Tally rfl rfl rfl rfl rfl rfl (hn := ?_)
          refine bk h fun x48 e48 h => ?_
          refine LWo.appendM (f := e_impl_Tally) e48 rfl u_Limpl_Tally u_Limpl_Tally (fun _ h => by cases h) s_impl_Tally i_impl_Tally rfl rfl rfl (.sl rfl) rfl rfl (hn := ?_)
          refine LWo.assign (.own 1029 0 (x48).length) rfl (hn := ?_)
          refine LWo.nil (hN20 (t0, t11, t12, o9, x48) _ ⟨rfl, rfl, rfl, rfl, rfl, trivial⟩ ⟨rfl, rfl, trivial⟩ h)
         ·have h := bF h47 h
          refine LWP.skip (hN20 (t0, t11, t12, o9, o1029) _ ⟨rfl, rfl, rfl, rfl, rfl, trivial⟩ ⟨rfl, rfl, trivial⟩ h)
        ·intro N44 hN44
         refine LWP.region (l := [_,_,_,_,_,_,_,_,_,_,_,_,_]) ?_
         refine LWo.fieldPtr u_impl_Tally rfl s_int rfl rfl (hn := ?_)
         refine LWo.loadV1 (e_int o13.Rows)  g_int rfl rfl rfl (hn := ?_)
         refine LWo.int _ rfl rfl rfl (hn := ?_)
         refine LWo.move (e_bool (o13.Rows != (0 : Int))) rfl (hn := ?_)
         refine LWo.byCases (t := 78) _ rfl (fun h45 => ?_) (fun h45 => ?_)
         ·have h := bT h45 h
          refine LWo.guardNU (t := 78) rfl h45 rfl rfl rfl rfl rfl ?_
          refine LWo.guardNU (t := 78) rfl h45 rfl rfl rfl rfl rfl ?_
          refine LWo.guardNU (t := 78) rfl h45 rfl rfl rfl rfl rfl ?_
          refine LWo.pickTM (e_bool true) rfl h45 rfl (hn := ?_)
          refine LWo.move (e_bool true) rfl (hn := ?_)
          refine LWo.guardNU (t := 83) rfl rfl rfl rfl rfl rfl rfl ?_
          refine LWo.guardNU (t := 83) rfl rfl rfl rfl rfl rfl rfl ?_
          refine LWo.guardNU (t := 83) rfl rfl rfl rfl rfl rfl rfl ?_
          refine LWo.pickTM (e_bool true) rfl rfl rfl (hn := ?_)
          refine LWo.nil (hN44 (t0, t11, t12, true, o9, o13, o1029) _ ⟨rfl, rfl, rfl, rfl, rfl, rfl, rfl, trivial⟩ ⟨rfl, rfl, rfl, trivial⟩ h)
         ·have h := bF h45 h
          refine LWo.guardY (t := 78) rfl h45 rfl rfl ?_
          refine LWo.fieldPtr u_impl_Tally rfl s_int rfl rfl (hn := ?_)
          refine LWo.guardY (t := 78) rfl h45 rfl rfl ?_
          refine LWo.loadV1 (e_int o13.Many)  g_int rfl rfl rfl (hn := ?_)
          refine LWo.guardY (t := 78) rfl h45 rfl rfl ?_
          refine LWo.int _ rfl rfl rfl (hn := ?_)
          refine LWo.pickFM (e_bool (o13.Many != (0 : Int))) rfl h45 rfl (hn := ?_)
          refine LWo.move (e_bool (o13.Many != (0 : Int))) rfl (hn := ?_)
          refine LWo.byCases (t := 83) _ rfl (fun h46 => ?_) (fun h46 => ?_)
          ·have h := bT h46 h
           refine LWo.guardNU (t := 83) rfl h46 rfl rfl rfl rfl rfl ?_
           refine LWo.guardNU (t := 83) rfl h46 rfl rfl rfl rfl rfl ?_
           refine LWo.guardNU (t := 83) rfl h46 rfl rfl rfl rfl rfl ?_
           refine LWo.pickTM (e_bool true) rfl h46 rfl (hn := ?_)
           refine LWo.nil (hN44 (t0, t11, t12, true, o9, o13, o1029) _ ⟨rfl, rfl, rfl, rfl, rfl, rfl, rfl, trivial⟩ ⟨rfl, rfl, rfl, trivial⟩ h)
          ·have h := bF h46 h
           refine LWo.guardY (t := 83) rfl h46 rfl rfl ?_
           refine LWo.fieldPtr u_impl_Tally rfl s_int rfl rfl (hn := ?_)
           refine LWo.guardY (t := 83) rfl h46 rfl rfl ?_
           refine LWo.loadV1 (e_int o13.Sum)  g_int rfl rfl rfl (hn := ?_)
           refine LWo.guardY (t := 83) rfl h46 rfl rfl ?_
           refine LWo.int _ rfl rfl rfl (hn := ?_)
           refine LWo.pickFM (e_bool (o13.Sum != (0 : Int))) rfl h46 rfl (hn := ?_)
           refine LWo.nil (hN44 (t0, t11, t12, (o13.Sum != (0 : Int)), o9, o13, o1029) _ ⟨rfl, rfl, rfl, rfl, rfl, rfl, rfl, trivial⟩ ⟨rfl, rfl, rfl, trivial⟩ h)
       ·intro N32 hN32
        refine LWP.seq_k fun N33 hN33 => ?_
        refine LWP.region (l := [_,_]) ?_
        refine LWo.move (e_int t14) rfl (hn := ?_)
        refine LWo.int _ rfl rfl rfl (hn := ?_)
        refine LWo.nil (hN33 _ ?_)
        refine LWP.cond_split rfl (fun h34 => ?_) (fun h34 => ?_)
        ·have h := bT h34 h
         refine LWP.seq_k fun N35 hN35 => ?_
         refine LWP.region (l := [_,_,_,_,_,_,_]) ?_
         refine LWo.fieldPtr u_impl_Tally rfl s_int rfl rfl (hn := ?_)
         refine LWo.loadV1 (e_int o13.Rows)  g_int rfl rfl rfl (hn := ?_)
         refine LWo.fieldPtr u_impl_Tally rfl s_int rfl rfl (hn := ?_)
         refine LWo.loadV1 (e_int o9.Rows)  g_int rfl rfl rfl (hn := ?_)
         refine bk h fun x36 e36 h => ?_
         refine LWo.int _ rfl rfl (add_ck e36) (hn := ?_)
         refine LWo.fieldPtr u_impl_Tally rfl s_int rfl rfl (hn := ?_)
         refine lk h fun y37 e37 h => ?_
         refine LWo.storeW (y := o13) y37 s_int rfl rfl rfl rfl rfl rfl (by rw [e37]; exact .refl) rfl (hn := ?_)
         refine LWo.nil (hN35 _ ?_)
         refine LWP.seq_k fun N38 hN38 => ?_
         refine LWP.region (l := [_,_,_,_,_,_,_]) ?_
         refine LWo.fieldPtr u_impl_Tally rfl s_int rfl rfl (hn := ?_)
         refine LWo.loadV1 (e_int y37.Many)  g_int rfl rfl rfl (hn := ?_)
         refine LWo.fieldPtr u_impl_Tally rfl s_int rfl rfl (hn := ?_)
         refine LWo.loadV1 (e_int o9.Many)  g_int rfl rfl rfl (hn := ?_)
         refine bk h fun x39 e39 h => ?_
         refine LWo.int _ rfl rfl (add_ck e39) (hn := ?_)
         refine LWo.fieldPtr u_impl_Tally rfl s_int rfl rfl (hn := ?_)
         refine lk h fun y40 e40 h => ?_
         refine LWo.storeW (y := y37) y40 s_int rfl rfl rfl rfl rfl rfl (by rw [e40]; exact .refl) rfl (hn := ?_)
         refine LWo.nil (hN38 _ ?_)
         refine LWP.seq_k fun N41 hN41 => ?_
         refine LWP.region (l := [_,_,_,_,_,_,_]) ?_
         refine LWo.fieldPtr u_impl_Tally rfl s_int rfl rfl (hn := ?_)
         refine LWo.loadV1 (e_int y40.Sum)  g_int rfl rfl rfl (hn := ?_)
         refine LWo.fieldPtr u_impl_Tally rfl s_int rfl rfl (hn := ?_)
         refine LWo.loadV1 (e_int o9.Sum)  g_int rfl rfl rfl (hn := ?_)
         refine bk h fun x42 e42 h => ?_
         refine LWo.int _ rfl rfl (add_ck e42) (hn := ?_)
         refine LWo.fieldPtr u_impl_Tally rfl s_int rfl rfl (hn := ?_)
         refine lk h fun y43 e43 h => ?_
         refine LWo.storeW (y := y40) y43 s_int rfl rfl rfl rfl rfl rfl (by rw [e43]; exact .refl) rfl (hn := ?_)
         refine LWo.nil (hN41 _ ?_)
         refine LWP.region (l := [_]) ?_
         refine LWo.assign (e_bool true) rfl (hn := ?_)
         refine LWo.nil (hN32 (t0, true, t12, o9, y43, o1029) _ ⟨rfl, rfl, rfl, rfl, rfl, rfl, trivial⟩ ⟨rfl, rfl, rfl, trivial⟩ h)
        ·have h := bF h34 h
         refine LWP.skip (hN32 (t0, t11, t12, o9, o13, o1029) _ ⟨rfl, rfl, rfl, rfl, rfl, rfl, trivial⟩ ⟨rfl, rfl, rfl, trivial⟩ h)
      ·intro N26 hN26
       refine LWP.join (α := (List S_impl_Tally) × Bool × Int × Int × Bool × S_impl_Tally × S_impl_Tally × (List S_impl_Tally)) (fun z : (List S_impl_Tally) × Bool × Int × Int × Bool × S_impl_Tally × S_impl_Tally × (List S_impl_Tally) => [(0, (e_Limpl_Tally z.1)), (9, (.ptr 9 0 0)), (10, (.own 1029 0 (z.2.2.2.2.2.2.2).length)), (11, (e_bool z.2.1)), (12, (e_int z.2.2.1)), (13, (.ptr 13 0 0)), (14, (e_int z.2.2.2.1)), (50, (e_bool z.2.2.2.2.1))]) (fun z : (List S_impl_Tally) × Bool × Int × Int × Bool × S_impl_Tally × S_impl_Tally × (List S_impl_Tally) => [(9, (vob 4 e_impl_Tally z.2.2.2.2.2.1)), (13, (vob 4 e_impl_Tally z.2.2.2.2.2.2.1)), (1029, (lob 4 e_impl_Tally z.2.2.2.2.2.2.2))]) (fun z : (List S_impl_Tally) × Bool × Int × Int × Bool × S_impl_Tally × S_impl_Tally × (List S_impl_Tally) => m_spec_l32Turn_j2  (m_spec_l32Turn_l1  n1) z.1 z.2.1 z.2.2.1 z.2.2.2.1 z.2.2.2.2.1 z.2.2.2.2.2.1 z.2.2.2.2.2.2.1 z.2.2.2.2.2.2.2) r (fun _ => by simp [hkeys]) ?_ ?_
       ·rintro ⟨t0, t11, t12, t14, t50, o9, o13, o1029⟩ h
        replace h : m_spec_l32Turn_j2  (m_spec_l32Turn_l1  n1) t0 t11 t12 t14 t50 o9 o13 o1029 = some _ := h
        refine LWP.cond_split rfl (fun h29 => ?_) (fun h29 => ?_)
        ·have h := bT h29 h
         refine LWP.seq_k fun N30 hN30 => ?_
         refine LWP.region (l := [_,_,_,_,_]) ?_
         refine LWo.move (.own 1029 0 (o1029).length) rfl (hn := ?_)
         refine LWo.loadVN ((e_impl_Tally o9)).cells  g_impl_Tally s_impl_Tally rfl rfl rfl rfl (hn := ?_)
         refine LWo.lit (ops := [_]) [(e_impl_Tally o9)] u_Limpl_Tally s_impl_Tally z_impl_Tally rfl rfl rfl rfl rfl rfl (hn := ?_)
         refine bk h fun x31 e31 h => ?_
         refine LWo.appendM (f := e_impl_Tally) e31 rfl u_Limpl_Tally u_Limpl_Tally (fun _ h => by cases h) s_impl_Tally i_impl_Tally rfl rfl rfl (.sl rfl) rfl rfl (hn := ?_)
         refine LWo.assign (.own 1029 0 (x31).length) rfl (hn := ?_)
         refine LWo.nil (hN30 _ ?_)
         refine LWP.region (l := [_]) ?_
         refine LWo.assign (e_bool true) rfl (hn := ?_)
         refine LWo.nil (hN26 (t0, true, t12, t14, o9, o13, x31) _ ⟨rfl, rfl, rfl, rfl, rfl, rfl, rfl, trivial⟩ ⟨rfl, rfl, rfl, trivial⟩ h)
        ·have h := bF h29 h
         refine LWP.skip (hN26 (t0, t11, t12, t14, o9, o13, o1029) _ ⟨rfl, rfl, rfl, rfl, rfl, rfl, rfl, trivial⟩ ⟨rfl, rfl, rfl, trivial⟩ h)
       ·intro N27 hN27
        refine LWP.region (l := [_,_,_,_,_,_]) ?_
        refine LWo.move (e_int x25) rfl (hn := ?_)
        refine LWo.int _ rfl rfl rfl (hn := ?_)
        refine LWo.move (e_bool (decide (x25 > (0 : Int)))) rfl (hn := ?_)
        refine LWo.byCases (t := 47) _ rfl (fun h28 => ?_) (fun h28 => ?_)
        ·have h := bT h28 h
         refine LWo.guardY (t := 47) rfl h28 rfl rfl ?_
         refine LWo.move (e_bool t11) rfl (hn := ?_)
         refine LWo.guardY (t := 47) rfl h28 rfl rfl ?_
         refine LWo.not rfl (hn := ?_)
         refine LWo.pickTM (e_bool (!t11)) rfl h28 rfl (hn := ?_)
         refine LWo.nil (hN27 (t0, t11, t12, x25, (!t11), o9, y23, o1029) _ ⟨rfl, rfl, rfl, rfl, rfl, rfl, rfl, rfl, trivial⟩ ⟨rfl, rfl, rfl, trivial⟩ h)
        ·have h := bF h28 h
         refine LWo.guardNU (t := 47) rfl h28 rfl rfl rfl rfl rfl ?_
         refine LWo.guardNU (t := 47) rfl h28 rfl rfl rfl rfl rfl ?_
         refine LWo.pickFM (e_bool false) rfl h28 rfl (hn := ?_)
         refine LWo.nil (hN27 (t0, t11, t12, x25, false, o9, y23, o1029) _ ⟨rfl, rfl, rfl, rfl, rfl, rfl, rfl, rfl, trivial⟩ ⟨rfl, rfl, rfl, trivial⟩ h)
    ·have h := bF h19 h
     refine LWP.exit (hN13 (t11, o9, o1029) _ ⟨rfl, rfl, rfl, trivial⟩ ⟨rfl, rfl, trivial⟩ h)
  ·intro N4 hN4
   refine LWP.seq_k fun N5 hN5 => ?_
   refine LWP.region (l := [_,_,_]) ?_
   refine LWo.fieldAddr _ u_impl_Value rfl s_int rfl rfl (hn := ?_)
   refine LWo.load1 (c := (e_int a2.Kind)) g_int rfl (hn := ?_)
   refine LWo.int _ rfl rfl rfl (hn := ?_)
   refine LWo.nil (hN5 _ ?_)
   refine LWP.cond_split rfl (fun h6 => ?_) (fun h6 => ?_)
   ·have h := bT h6 h
    refine LWP.seq_k fun N7 hN7 => ?_
    refine LWP.region (l := [_,_,_]) ?_
    refine LWo.move (e_int a3) rfl (hn := ?_)
    refine LWo.fieldPtr u_impl_Tally rfl s_int rfl rfl (hn := ?_)
    refine lk h fun y8 e8 h => ?_
    refine LWo.storeW (y := y3) y8 s_int rfl rfl rfl rfl rfl rfl (by rw [e8]; exact .refl) rfl (hn := ?_)
    refine LWo.nil (hN7 _ ?_)
    refine LWP.region (l := [_,_,_,_,_,_]) ?_
    refine LWo.move (e_int a3) rfl (hn := ?_)
    refine LWo.fieldAddr _ u_impl_Value rfl s_int rfl rfl (hn := ?_)
    refine LWo.load1 (c := (e_int a2.N)) g_int rfl (hn := ?_)
    refine bk h fun x9 e9 h => ?_
    refine LWo.int _ rfl rfl (mul_ck e9) (hn := ?_)
    refine LWo.fieldPtr u_impl_Tally rfl s_int rfl rfl (hn := ?_)
    refine lk h fun y10 e10 h => ?_
    refine LWo.storeW (y := y8) y10 s_int rfl rfl rfl rfl rfl rfl (by rw [e10]; exact .refl) rfl (hn := ?_)
    refine LWo.nil (hN4 (a0, y10) _ ⟨rfl, rfl, trivial⟩ ⟨rfl, trivial⟩ h)
   ·have h := bF h6 h
    refine LWP.skip (hN4 (a0, y3) _ ⟨rfl, rfl, trivial⟩ ⟨rfl, trivial⟩ h)

def m_spec_TalliesOf_j3 (o1006 : (List S_impl_Tally)) : Option (List S_impl_Tally) :=
  some o1006
def m_spec_TalliesOf_l2 : Nat → (List (List S_impl_Value)) → Int → (List S_impl_Tally) → Option (List S_impl_Tally)
  | 0, _, _, _ => none
  | n2 + 1, t0, t5, o1006 =>
    bif decide (t5 < (t0.length : Int)) then ((at? t0 t5).bind fun x26 =>
    (at? x26 (0 : Int)).bind fun x27 =>
    (at? t0 t5).bind fun x28 =>
    (at? x28 (1 : Int)).bind fun x29 =>
    (m_spec_l32Turn o1006 x27 x29 (1 : Int)).bind fun x30 =>
    (ckI (t5 + (1 : Int))).bind fun x31 =>
    (m_spec_TalliesOf_l2  n2) t0 x31 x30)
    else (m_spec_TalliesOf_j3  o1006)
def m_spec_TalliesOf_j2 (t0 : (List (List S_impl_Value))) (o1006 : (List S_impl_Tally)) : Option (List S_impl_Tally) :=
  m_spec_TalliesOf_l2  (((t0.length : Int) - (0 : Int)).toNat + 1) t0 (0 : Int) o1006
def m_spec_TalliesOf_j1 (k1 : (List (List S_impl_Value)) → Int → (List S_impl_Tally) → Option (List S_impl_Tally)) (t0 : (List (List S_impl_Value))) (t4 : Int) (t23 : Bool) (o1006 : (List S_impl_Tally)) : Option (List S_impl_Tally) :=
  bif t23 then (some ([] : (List S_impl_Tally)))
  else ((ckI (t4 + (1 : Int))).bind fun x17 =>
  k1 t0 x17 o1006)
def m_spec_TalliesOf_l1 : Nat → (List (List S_impl_Value)) → Int → (List S_impl_Tally) → Option (List S_impl_Tally)
  | 0, _, _, _ => none
  | n1 + 1, t0, t4, o1006 =>
    bif decide (t4 < (t0.length : Int)) then ((at? t0 t4).bind fun x12 =>
    (m_spec_l32Row x12).bind fun x13 =>
    bif (!x13) then (m_spec_TalliesOf_j1  (m_spec_TalliesOf_l1  n1) t0 t4 true o1006)
    else (m_spec_TalliesOf_j1  (m_spec_TalliesOf_l1  n1) t0 t4 (decide ((t0.length : Int) > (100 : Int))) o1006))
    else (m_spec_TalliesOf_j2  t0 o1006)
def m_spec_TalliesOf (a0 : (List (List S_impl_Value))) : Option (List S_impl_Tally) :=
  m_spec_TalliesOf_l1  (((a0.length : Int) - (0 : Int)).toNat + 1) a0 (0 : Int) ([] : (List S_impl_Tally))
theorem c_spec_TalliesOf (a0 : (List (List S_impl_Value))) (r : (List S_impl_Tally)) (h : m_spec_TalliesOf a0 = some r) : Ret Try.prog f_spec_TalliesOf [e_LLimpl_Value a0] (.nw 4 (r.map e_impl_Tally) false) := by
  refine Does.goG [] F_spec_TalliesOf rfl e_spec_TalliesOf n_spec_TalliesOf rfl (rvs := [.tmp 2]) rfl rfl ?_
  intro w0 ok0 lent ρ0
  refine LWP.seq_k fun N1 hN1 => ?_
  refine LWP.region (l := [_]) ?_
  refine LWo.assign _ rfl (hn := ?_)
  refine LWo.ownNil 2 1002 4 rfl rfl rfl ?_
  refine LWo.known 2 (.own 1002 0 ([] : (List S_impl_Tally)).length) rfl ?_
  refine LWo.nil (hN1 _ ?_)
  refine LWP.seq_k fun N2 hN2 => ?_
  refine LWP.region (l := [_,_]) ?_
  refine LWo.lit0 1006 u_Limpl_Tally s_impl_Tally z_impl_Tally (hn := ?_)
  refine LWo.known 6 (.own 1006 0 ([] : (List S_impl_Tally)).length) rfl ?_
  refine LWo.assign (.own 1006 0 (([] : (List S_impl_Tally))).length) rfl (hn := ?_)
  refine LWo.nil (hN2 _ ?_)
  refine LWP.join (α := (List (List S_impl_Value)) × (List S_impl_Tally)) (fun z : (List (List S_impl_Value)) × (List S_impl_Tally) => [(0, (e_LLimpl_Value z.1)), (3, (.own 1006 0 (z.2).length))]) (fun z : (List (List S_impl_Value)) × (List S_impl_Tally) => [(1006, (lob 4 e_impl_Tally z.2))]) (fun z : (List (List S_impl_Value)) × (List S_impl_Tally) => m_spec_TalliesOf_j2  z.1 z.2) r (fun _ => by simp [hkeys]) ?_ ?_
  ·rintro ⟨t0, o1006⟩ h
   replace h : m_spec_TalliesOf_j2  t0 o1006 = some _ := h
   refine LWP.join (α := (List S_impl_Tally)) (fun z : (List S_impl_Tally) => [(3, (.own 1006 0 (z).length))]) (fun z : (List S_impl_Tally) => [(1006, (lob 4 e_impl_Tally z))]) (fun z : (List S_impl_Tally) => m_spec_TalliesOf_j3  z) r (fun _ => by simp [hkeys]) ?_ ?_
   ·rintro o1006 h
    replace h : m_spec_TalliesOf_j3  o1006 = some _ := h
    refine LWP.seq_k fun N32 hN32 => ?_
    refine LWP.region (l := [_,_]) ?_
    refine LWo.move (.own 1006 0 (o1006).length) rfl (hn := ?_)
    refine LWo.assign (.own 1006 0 (o1006).length) rfl (hn := ?_)
    refine LWo.nil (hN32 _ ?_)
    obtain rfl := Option.some.inj h
    refine LWP.ret (QG.mk (.inr rfl) (.cons (.tmp (x := (.own 1006 0 (o1006).length)) rfl) (.nil)) (RetOK.one0 (.nwM rfl rfl) (by decide)) rfl rfl)
   ·intro N18 hN18
    refine LWP.seq_k fun N19 hN19 => ?_
    refine LWP.region (l := [_]) ?_
    refine LWo.assign (e_int (0 : Int)) rfl (hn := ?_)
    refine LWo.nil (hN19 _ ?_)
    refine LWP.block ?_
    refine LWP.loopM (α := (List (List S_impl_Value)) × Int × (List S_impl_Tally)) (fun z : (List (List S_impl_Value)) × Int × (List S_impl_Tally) => [(0, (e_LLimpl_Value z.1)), (3, (.own 1006 0 (z.2.2).length)), (5, (e_int z.2.1))]) (fun z : (List (List S_impl_Value)) × Int × (List S_impl_Tally) => [(1006, (lob 4 e_impl_Tally z.2.2))]) (fun n2 (z : (List (List S_impl_Value)) × Int × (List S_impl_Tally)) => m_spec_TalliesOf_l2  n2 z.1 z.2.1 z.2.2) r _ (t0, (0 : Int), o1006) h (fun _ => rfl) (fun _ => by simp [hkeys]) ⟨rfl, rfl, rfl, trivial⟩ ⟨rfl, trivial⟩ ?_
    rintro n2 ⟨t0, t5, o1006⟩ h N20 hN20
    replace h : m_spec_TalliesOf_l2  (n2 + 1) t0 t5 o1006 = some _ := h
    refine LWP.seq_k fun N22 hN22 => ?_
    refine LWP.seq_k fun N23 hN23 => ?_
    refine LWP.region (l := [_,_,_,_]) ?_
    refine LWo.move (e_int t5) rfl (hn := ?_)
    refine LWo.move (e_LLimpl_Value t0) rfl (hn := ?_)
    refine LWo.lenM (f := e_Limpl_Value) (l := t0) u_LLimpl_Value rfl (hn := ?_)
    refine LWo.int _ rfl rfl rfl (hn := ?_)
    refine LWo.nil (hN23 _ ?_)
    refine LWP.cond_split rfl (fun h24 => ?_) (fun h24 => ?_)
    ·have h := bT h24 h
     refine LWP.skip (hN22 _ ?_)
     refine LWP.seq_k fun N25 hN25 => ?_
     refine LWP.block ?_
     refine LWP.frzL (f := e_impl_Tally) (l := o1006) [3] 1006 rfl rfl ⟨rfl, trivial⟩ ?_
     refine bk h fun x26 e26 h => ?_
     refine bk h fun x27 e27 h => ?_
     refine bk h fun x28 e28 h => ?_
     refine bk h fun x29 e29 h => ?_
     refine bk h fun x30 e30 h => ?_
     refine LWP.drawF (l := [_,_,_,_,_,_,_,_,_,_,_,_,_,_,_]) [1044] [0, 3, 5] [([3], []), ([0], []), ([5], []), ([32, 33], []), ([34], []), ([35], []), ([36], []), ([0], []), ([5], []), ([38, 39], []), ([40], []), ([41], []), ([42], []), ([31, 37, 43], []), ([44], [])] [0, 3, 5] [1044] mixed (by kernel_rfl) rfl (by decide) ?_
     refine dq 31 rfl (fun _ g u h => LWo.move (e_Limpl_Tally o1006) u.1 (hn := .nil (zn g))) ?_
     refine dq 32 rfl (fun _ g u h => LWo.move (e_LLimpl_Value t0) u.1 (hn := .nil (zn g))) ?_
     refine dq 33 rfl (fun _ g u h => LWo.move (e_int t5) u.1 (hn := .nil (zn g))) ?_
     refine dq 34 rfl (fun _ g u h => LWo.indexM (f := e_Limpl_Value) e26 u_LLimpl_Value s_Limpl_Value u.1 u.2.1 (hn := .nil (zn g))) ?_
     refine dq 35 rfl (fun _ g u h => LWo.load1 (c := (e_Limpl_Value x26)) g_Limpl_Value u.1 (hn := .nil (zn g))) ?_
     refine dq 36 rfl (fun _ g u h => LWo.indexM (f := e_impl_Value) e27 u_Limpl_Value s_impl_Value u.1 rfl (hn := .nil (zn g))) ?_
     refine dq 37 rfl (fun _ g u h => LWo.loadN ((e_impl_Value x27)).cells g_impl_Value s_impl_Value u.1 (Nat.le_of_ble_eq_true rfl) rfl (hn := .nil (zn g))) ?_
     refine dq 38 rfl (fun _ g u h => LWo.move (e_LLimpl_Value t0) u.1 (hn := .nil (zn g))) ?_
     refine dq 39 rfl (fun _ g u h => LWo.move (e_int t5) u.1 (hn := .nil (zn g))) ?_
     refine dq 40 rfl (fun _ g u h => LWo.indexM (f := e_Limpl_Value) e28 u_LLimpl_Value s_Limpl_Value u.1 u.2.1 (hn := .nil (zn g))) ?_
     refine dq 41 rfl (fun _ g u h => LWo.load1 (c := (e_Limpl_Value x28)) g_Limpl_Value u.1 (hn := .nil (zn g))) ?_
     refine dq 42 rfl (fun _ g u h => LWo.indexM (f := e_impl_Value) e29 u_Limpl_Value s_impl_Value u.1 rfl (hn := .nil (zn g))) ?_
     refine dq 43 rfl (fun _ g u h => LWo.loadN ((e_impl_Value x29)).cells g_impl_Value s_impl_Value u.1 (Nat.le_of_ble_eq_true rfl) rfl (hn := .nil (zn g))) ?_
     refine ⟨rfl, .make 44 _ 1044 _, (by exact (goodC rfl goodN)), fun _ g u h => LWo.ncall (e := e_impl_Tally) 1044 rfl (av4 u.1 u.2.1 u.2.2.1 rfl) (c_spec_l32Turn _ _ _ _ _ e30) (.same (.same (.same (.same (.nil))))) (lone_of g rfl) (hn := LWo.nil ⟨rfl, .inl rfl, Ef.good_ok (e := .make 44 _ 1044 _) (by exact (goodC rfl goodN)) g⟩), ?_⟩
     refine dq 3 rfl (fun _ g u h => LWo.assign (.own 1044 0 (x30).length) u.1 (hn := .nil (zn g))) ?_
     refine ⟨rfl, by kernel_rfl, hN25 _ ?_⟩
     refine LWP.region (l := [_,_,_]) ?_
     refine LWo.move (e_int t5) rfl (hn := ?_)
     refine bk h fun x31 e31 h => ?_
     refine LWo.int _ rfl rfl (add_ck e31) (hn := ?_)
     refine LWo.assign (e_int x31) rfl (hn := ?_)
     refine LWo.rekey 3 1044 1006 rfl rfl rfl rfl rfl rfl ?_
     refine LWo.nil (hN20 (t0, x31, x30) _ ⟨rfl, rfl, rfl, trivial⟩ ⟨rfl, trivial⟩ h)
    ·have h := bF h24 h
     refine LWP.exit (hN18 o1006 _ ⟨rfl, trivial⟩ ⟨rfl, trivial⟩ h)
  ·intro N3 hN3
   refine LWP.seq_k fun N4 hN4 => ?_
   refine LWP.region (l := [_]) ?_
   refine LWo.assign (e_int (0 : Int)) rfl (hn := ?_)
   refine LWo.nil (hN4 _ ?_)
   refine LWP.block ?_
   refine LWP.loopM (α := (List (List S_impl_Value)) × Int × (List S_impl_Tally)) (fun z : (List (List S_impl_Value)) × Int × (List S_impl_Tally) => [(0, (e_LLimpl_Value z.1)), (3, (.own 1006 0 (z.2.2).length)), (4, (e_int z.2.1))]) (fun z : (List (List S_impl_Value)) × Int × (List S_impl_Tally) => [(1006, (lob 4 e_impl_Tally z.2.2))]) (fun n1 (z : (List (List S_impl_Value)) × Int × (List S_impl_Tally)) => m_spec_TalliesOf_l1  n1 z.1 z.2.1 z.2.2) r _ (a0, (0 : Int), ([] : (List S_impl_Tally))) h (fun _ => rfl) (fun _ => by simp [hkeys]) ⟨rfl, rfl, rfl, trivial⟩ ⟨rfl, trivial⟩ ?_
   rintro n1 ⟨t0, t4, o1006⟩ h N5 hN5
   replace h : m_spec_TalliesOf_l1  (n1 + 1) t0 t4 o1006 = some _ := h
   refine LWP.seq_k fun N7 hN7 => ?_
   refine LWP.seq_k fun N8 hN8 => ?_
   refine LWP.region (l := [_,_,_,_]) ?_
   refine LWo.move (e_int t4) rfl (hn := ?_)
   refine LWo.move (e_LLimpl_Value t0) rfl (hn := ?_)
   refine LWo.lenM (f := e_Limpl_Value) (l := t0) u_LLimpl_Value rfl (hn := ?_)
   refine LWo.int _ rfl rfl rfl (hn := ?_)
   refine LWo.nil (hN8 _ ?_)
   refine LWP.cond_split rfl (fun h9 => ?_) (fun h9 => ?_)
   ·have h := bT h9 h
    refine LWP.skip (hN7 _ ?_)
    refine LWP.seq_k fun N10 hN10 => ?_
    refine LWP.block ?_
    refine LWP.join (α := (List (List S_impl_Value)) × Int × Bool × (List S_impl_Tally)) (fun z : (List (List S_impl_Value)) × Int × Bool × (List S_impl_Tally) => [(0, (e_LLimpl_Value z.1)), (3, (.own 1006 0 (z.2.2.2).length)), (4, (e_int z.2.1)), (23, (e_bool z.2.2.1))]) (fun z : (List (List S_impl_Value)) × Int × Bool × (List S_impl_Tally) => [(1006, (lob 4 e_impl_Tally z.2.2.2))]) (fun z : (List (List S_impl_Value)) × Int × Bool × (List S_impl_Tally) => m_spec_TalliesOf_j1  (m_spec_TalliesOf_l1  n1) z.1 z.2.1 z.2.2.1 z.2.2.2) r (fun _ => by simp [hkeys]) ?_ ?_
    ·rintro ⟨t0, t4, t23, o1006⟩ h
     replace h : m_spec_TalliesOf_j1  (m_spec_TalliesOf_l1  n1) t0 t4 t23 o1006 = some _ := h
     refine LWP.cond_split rfl (fun h15 => ?_) (fun h15 => ?_)
     ·have h := bT h15 h
      refine LWP.seq_k fun N16 hN16 => ?_
      refine LWP.region (l := [_,_]) ?_
      refine LWo.lit0 1024 u_Limpl_Tally s_impl_Tally z_impl_Tally (hn := ?_)
      refine LWo.known 24 (.own 1024 0 ([] : (List S_impl_Tally)).length) rfl ?_
      refine LWo.assign (.own 1024 0 (([] : (List S_impl_Tally))).length) rfl (hn := ?_)
      refine LWo.nil (hN16 _ ?_)
      obtain rfl := Option.some.inj h
      refine LWP.ret (QG.mk (.inr rfl) (.cons (.tmp (x := (.own 1024 0 (([] : (List S_impl_Tally))).length)) rfl) (.nil)) (RetOK.one0 (.nwM rfl rfl) (by decide)) rfl rfl)
     ·have h := bF h15 h
      refine LWP.skip (hN10 _ ?_)
      refine LWP.region (l := [_,_,_]) ?_
      refine LWo.move (e_int t4) rfl (hn := ?_)
      refine bk h fun x17 e17 h => ?_
      refine LWo.int _ rfl rfl (add_ck e17) (hn := ?_)
      refine LWo.assign (e_int x17) rfl (hn := ?_)
      refine LWo.nil (hN5 (t0, x17, o1006) _ ⟨rfl, rfl, rfl, trivial⟩ ⟨rfl, trivial⟩ h)
    ·intro N11 hN11
     refine LWP.region (l := [_,_,_,_,_,_,_,_,_,_,_]) ?_
     refine LWo.move (e_LLimpl_Value t0) rfl (hn := ?_)
     refine LWo.move (e_int t4) rfl (hn := ?_)
     refine bk h fun x12 e12 h => ?_
     refine LWo.indexM (f := e_Limpl_Value) e12 u_LLimpl_Value s_Limpl_Value rfl rfl (hn := ?_)
     refine LWo.load1 (c := (e_Limpl_Value x12)) g_Limpl_Value rfl (hn := ?_)
     refine bk h fun x13 e13 h => ?_
     refine LWo.vcall rfl rfl (c_spec_l32Row _ _ e13) (.same (.nil)) (hn := ?_)
     refine LWo.not rfl (hn := ?_)
     refine LWo.move (e_bool (!x13)) rfl (hn := ?_)
     refine LWo.byCases (t := 19) _ rfl (fun h14 => ?_) (fun h14 => ?_)
     ·have h := bT h14 h
      refine LWo.guardNU (t := 19) rfl h14 rfl rfl rfl rfl rfl ?_
      refine LWo.guardNU (t := 19) rfl h14 rfl rfl rfl rfl rfl ?_
      refine LWo.guardNU (t := 19) rfl h14 rfl rfl rfl rfl rfl ?_
      refine LWo.pickTM (e_bool true) rfl h14 rfl (hn := ?_)
      refine LWo.nil (hN11 (t0, t4, true, o1006) _ ⟨rfl, rfl, rfl, rfl, trivial⟩ ⟨rfl, trivial⟩ h)
     ·have h := bF h14 h
      refine LWo.guardY (t := 19) rfl h14 rfl rfl ?_
      refine LWo.move (e_LLimpl_Value t0) rfl (hn := ?_)
      refine LWo.guardY (t := 19) rfl h14 rfl rfl ?_
      refine LWo.lenM (f := e_Limpl_Value) (l := t0) u_LLimpl_Value rfl (hn := ?_)
      refine LWo.guardY (t := 19) rfl h14 rfl rfl ?_
      refine LWo.int _ rfl rfl rfl (hn := ?_)
      refine LWo.pickFM (e_bool (decide ((t0.length : Int) > (100 : Int)))) rfl h14 rfl (hn := ?_)
      refine LWo.nil (hN11 (t0, t4, decide ((t0.length : Int) > (100 : Int)), o1006) _ ⟨rfl, rfl, rfl, rfl, trivial⟩ ⟨rfl, trivial⟩ h)
   ·have h := bF h9 h
    refine LWP.exit (hN3 (t0, o1006) _ ⟨rfl, rfl, trivial⟩ ⟨rfl, trivial⟩ h)
end Go.Proofs.Ytijihchddhikhaa
