/- Mirrors of functions, and that the functions return what the mirrors say. -/
import Derived.Test.YtogiaehagciojaaXW2
set_option linter.unusedVariables false
set_option linter.unusedSimpArgs false
set_option linter.unnecessarySimpa false
namespace Go.Proofs.Ytogiaehagciojaa
open Go.Proofs Go.Lift Go.RowKit
def m_cmp_Or_int_j1 (t3 : Int) : Option Int :=
  some t3
def m_cmp_Or_int_l1 : Nat → Int → (List Int) → Int → Int → Option Int
  | 0, _, _, _, _ => none
  | n1 + 1, t3, t6, t7, t8 =>
    bif decide (t8 < t7) then ((at? t6 t8).bind fun x12 =>
    bif (x12 != t3) then (some x12)
    else ((ckI (t8 + (1 : Int))).bind fun x16 =>
    (m_cmp_Or_int_l1  n1) t3 t6 t7 x16))
    else (m_cmp_Or_int_j1  t3)
def m_cmp_Or_int (a0 : (List Int)) : Option Int :=
  m_cmp_Or_int_l1  (((a0.length : Int) - (0 : Int)).toNat + 1) (0 : Int) a0 (a0.length : Int) (0 : Int)
theorem c_cmp_Or_int (a0 : (List Int)) (r : Int) (h : m_cmp_Or_int a0 = some r) : Ret Try.prog f_cmp_Or_int [e_Lint a0] (e_int r) := by
  refine Does.goG [] F_cmp_Or_int rfl e_cmp_Or_int n_cmp_Or_int rfl (rvs := [.tmp 2]) rfl rfl ?_
  intro w0 ok0 lent ρ0
  refine LWP.seq_k fun N1 hN1 => ?_
  refine LWP.region (l := [_]) ?_
  refine LWo.assign (e_int (0 : Int)) rfl (hn := ?_)
  refine LWo.nil (hN1 _ ?_)
  refine LWP.seq_k fun N2 hN2 => ?_
  refine LWP.region (l := [_]) ?_
  refine LWo.assign (e_int (0 : Int)) rfl (hn := ?_)
  refine LWo.nil (hN2 _ ?_)
  refine LWP.join (α := Int) (fun z : Int => [(3, (e_int z))]) (fun z : Int => []) (fun z : Int => m_cmp_Or_int_j1  z) r (fun _ => by simp [hkeys]) ?_ ?_
  ·rintro t3 h
   replace h : m_cmp_Or_int_j1  t3 = some _ := h
   refine LWP.seq_k fun N17 hN17 => ?_
   refine LWP.region (l := [_,_]) ?_
   refine LWo.move (e_int t3) rfl (hn := ?_)
   refine LWo.assign (e_int t3) rfl (hn := ?_)
   refine LWo.nil (hN17 _ ?_)
   obtain rfl := Option.some.inj h
   refine LWP.ret (QG.mk (.inr rfl) (.cons (.tmp (x := (e_int t3)) rfl) (.nil)) (RetOK.one0 (.pure rfl) (by decide)) rfl rfl)
  ·intro N3 hN3
   refine LWP.seq_k fun N4 hN4 => ?_
   refine LWP.region (l := [_,_,_]) ?_
   refine LWo.move (e_Lint a0) rfl (hn := ?_)
   refine LWo.lenM (f := e_int) (l := a0) u_Lint rfl (hn := ?_)
   refine LWo.move (e_int (0 : Int)) rfl (hn := ?_)
   refine LWo.nil (hN4 _ ?_)
   refine LWP.block ?_
   refine LWP.loopM (α := Int × (List Int) × Int × Int) (fun z : Int × (List Int) × Int × Int => [(3, (e_int z.1)), (6, (e_Lint z.2.1)), (7, (e_int z.2.2.1)), (8, (e_int z.2.2.2))]) (fun z : Int × (List Int) × Int × Int => []) (fun n1 (z : Int × (List Int) × Int × Int) => m_cmp_Or_int_l1  n1 z.1 z.2.1 z.2.2.1 z.2.2.2) r _ ((0 : Int), a0, (a0.length : Int), (0 : Int)) h (fun _ => rfl) (fun _ => by simp [hkeys]) ⟨rfl, rfl, rfl, rfl, trivial⟩ trivial ?_
   rintro n1 ⟨t3, t6, t7, t8⟩ h N5 hN5
   replace h : m_cmp_Or_int_l1  (n1 + 1) t3 t6 t7 t8 = some _ := h
   refine LWP.seq_k fun N7 hN7 => ?_
   refine LWP.region (l := [_]) ?_
   refine LWo.int _ rfl rfl rfl (hn := ?_)
   refine LWo.nil (hN7 _ ?_)
   refine LWP.seq_k fun N8 hN8 => ?_
   refine LWP.cond_split rfl (fun h9 => ?_) (fun h9 => ?_)
   ·have h := bT h9 h
    refine LWP.skip (hN8 _ ?_)
    refine LWP.seq_k fun N10 hN10 => ?_
    refine LWP.block ?_
    refine LWP.seq_k fun N11 hN11 => ?_
    refine LWP.region (l := [_,_,_]) ?_
    refine bk h fun x12 e12 h => ?_
    refine LWo.indexM (f := e_int) e12 u_Lint s_int rfl rfl (hn := ?_)
    refine LWo.load1 (c := (e_int x12)) g_int rfl (hn := ?_)
    refine LWo.assign (e_int x12) rfl (hn := ?_)
    refine LWo.nil (hN11 _ ?_)
    refine LWP.seq_k fun N13 hN13 => ?_
    refine LWP.region (l := [_,_,_]) ?_
    refine LWo.move (e_int x12) rfl (hn := ?_)
    refine LWo.move (e_int t3) rfl (hn := ?_)
    refine LWo.int _ rfl rfl rfl (hn := ?_)
    refine LWo.nil (hN13 _ ?_)
    refine LWP.cond_split rfl (fun h14 => ?_) (fun h14 => ?_)
    ·have h := bT h14 h
     refine LWP.seq_k fun N15 hN15 => ?_
     refine LWP.region (l := [_,_]) ?_
     refine LWo.move (e_int x12) rfl (hn := ?_)
     refine LWo.assign (e_int x12) rfl (hn := ?_)
     refine LWo.nil (hN15 _ ?_)
     obtain rfl := Option.some.inj h
     refine LWP.ret (QG.mk (.inr rfl) (.cons (.tmp (x := (e_int x12)) rfl) (.nil)) (RetOK.one0 (.pure rfl) (by decide)) rfl rfl)
    ·have h := bF h14 h
     refine LWP.skip (hN10 _ ?_)
     refine LWP.region (l := [_,_]) ?_
     refine bk h fun x16 e16 h => ?_
     refine LWo.int _ rfl rfl (add_ck e16) (hn := ?_)
     refine LWo.move (e_int x16) rfl (hn := ?_)
     refine LWo.nil (hN5 (t3, t6, t7, x16) _ ⟨rfl, rfl, rfl, rfl, trivial⟩ trivial h)
   ·have h := bF h9 h
    refine LWP.exit (hN3 t3 _ ⟨rfl, trivial⟩ trivial h)

def m_impl_Value_order (a0 : S_impl_Value) (a1 : S_impl_Value) : Option Int :=
  (m_cmp_Compare_int a0.Kind a1.Kind).bind fun x3 =>
  (m_cmp_Compare_int a0.N a1.N).bind fun x4 =>
  (m_cmp_Compare_string a0.S a1.S).bind fun x5 =>
  (m_cmp_Or_int ([x3, x4, x5] : (List Int))).bind fun x6 =>
  some x6
theorem c_impl_Value_order (a0 : S_impl_Value) (a1 : S_impl_Value) (r : Int) (h : m_impl_Value_order a0 a1 = some r) : Ret Try.prog f_impl_Value_order [e_impl_Value a0, e_impl_Value a1] (e_int r) := by
  refine Does.goG [] F_impl_Value_order rfl e_impl_Value_order n_impl_Value_order rfl (rvs := [.tmp 4]) rfl rfl ?_
  intro w0 ok0 lent ρ0
  refine LWP.seq_k fun N1 hN1 => ?_
  refine LWP.region (l := [_,_,_]) ?_
  refine LWo.boxF (e_impl_Value a0) rfl rfl rfl (hn := ?_)
  refine LWo.boxF (e_impl_Value a1) rfl rfl rfl (hn := ?_)
  refine LWo.assign (e_int (0 : Int)) rfl (hn := ?_)
  refine LWo.nil (hN1 _ ?_)
  refine LWP.seq_k fun N2 hN2 => ?_
  refine bk h fun x3 e3 h => ?_
  refine bk h fun x4 e4 h => ?_
  refine bk h fun x5 e5 h => ?_
  refine bk h fun x6 e6 h => ?_
  refine LWP.drawF (l := [_,_,_,_,_,_,_,_,_,_,_,_,_,_,_,_,_,_]) [] [2, 3] [([2], []), ([5], []), ([3], []), ([7], []), ([6, 8], []), ([2], []), ([10], []), ([3], []), ([12], []), ([11, 13], []), ([2], []), ([15], []), ([3], []), ([17], []), ([16, 18], []), ([9, 14, 19], []), ([20], []), ([21], [])] [4] [] mixed (by kernel_rfl) rfl (by decide) ?_
  refine dq 5 rfl (fun _ g u h => LWo.fieldAddr _ u_impl_Value rfl s_int u.1 rfl (hn := .nil (zn g))) ?_
  refine dq 6 rfl (fun _ g u h => LWo.load1 (c := (e_int a0.Kind)) g_int u.1 (hn := .nil (zn g))) ?_
  refine dq 7 rfl (fun _ g u h => LWo.fieldAddr _ u_impl_Value rfl s_int u.1 rfl (hn := .nil (zn g))) ?_
  refine dq 8 rfl (fun _ g u h => LWo.load1 (c := (e_int a1.Kind)) g_int u.1 (hn := .nil (zn g))) ?_
  refine dq 9 rfl (fun _ g u h => LWo.vcall rfl (av2 u.1 u.2.1) (c_cmp_Compare_int _ _ _ e3) (.same (.same (.nil))) (hn := .nil (zn g))) ?_
  refine dq 10 rfl (fun _ g u h => LWo.fieldAddr _ u_impl_Value rfl s_int u.1 rfl (hn := .nil (zn g))) ?_
  refine dq 11 rfl (fun _ g u h => LWo.load1 (c := (e_int a0.N)) g_int u.1 (hn := .nil (zn g))) ?_
  refine dq 12 rfl (fun _ g u h => LWo.fieldAddr _ u_impl_Value rfl s_int u.1 rfl (hn := .nil (zn g))) ?_
  refine dq 13 rfl (fun _ g u h => LWo.load1 (c := (e_int a1.N)) g_int u.1 (hn := .nil (zn g))) ?_
  refine dq 14 rfl (fun _ g u h => LWo.vcall rfl (av2 u.1 u.2.1) (c_cmp_Compare_int _ _ _ e4) (.same (.same (.nil))) (hn := .nil (zn g))) ?_
  refine dq 15 rfl (fun _ g u h => LWo.fieldAddr _ u_impl_Value rfl s_string u.1 rfl (hn := .nil (zn g))) ?_
  refine dq 16 rfl (fun _ g u h => LWo.load1 (c := (e_string a0.S)) g_string u.1 (hn := .nil (zn g))) ?_
  refine dq 17 rfl (fun _ g u h => LWo.fieldAddr _ u_impl_Value rfl s_string u.1 rfl (hn := .nil (zn g))) ?_
  refine dq 18 rfl (fun _ g u h => LWo.load1 (c := (e_string a1.S)) g_string u.1 (hn := .nil (zn g))) ?_
  refine dq 19 rfl (fun _ g u h => LWo.vcall rfl (av2 u.1 u.2.1) (c_cmp_Compare_string _ _ _ e5) (.same (.same (.nil))) (hn := .nil (zn g))) ?_
  refine dq 20 rfl (fun _ g u h => LWo.lit (ops := [_, _, _]) [(e_int x3), (e_int x4), (e_int x5)] u_Lint s_int z_int (lv3 u.1 u.2.1 u.2.2.1) rfl rfl rfl rfl rfl (hn := .nil (zn g))) ?_
  refine dq 21 rfl (fun _ g u h => LWo.vcall rfl (av1 u.1) (c_cmp_Or_int _ _ e6) (.same (.nil)) (hn := .nil (zn g))) ?_
  refine dq 4 rfl (fun _ g u h => LWo.assign (e_int x6) u.1 (hn := .nil (zn g))) ?_
  refine ⟨rfl, by kernel_rfl, hN2 _ ?_⟩
  obtain rfl := Option.some.inj h
  refine LWP.ret (QG.mk (.inr rfl) (.cons (.tmp (x := (e_int x6)) rfl) (.nil)) (RetOK.one0 (.pure rfl) (by decide)) rfl rfl)

def m_impl_rowOrder (a0 : (List S_impl_Value)) (a1 : (List S_impl_Value)) : Option Int :=
  (m_slices_CompareFunc_Limpl_Value_Limpl_Value_impl_Value_impl_Value a0 a1 (fun b0_ b1_ => m_impl_Value_order b0_ b1_ )).bind fun x3 =>
  (m_cmp_Compare_int (a0.length : Int) (a1.length : Int)).bind fun x4 =>
  (m_cmp_Or_int ([x3, x4] : (List Int))).bind fun x5 =>
  some x5
theorem c_impl_rowOrder (a0 : (List S_impl_Value)) (a1 : (List S_impl_Value)) (r : Int) (h : m_impl_rowOrder a0 a1 = some r) : Ret Try.prog f_impl_rowOrder [e_Limpl_Value a0, e_Limpl_Value a1] (e_int r) := by
  refine Does.goG [] F_impl_rowOrder rfl e_impl_rowOrder n_impl_rowOrder rfl (rvs := [.tmp 4]) rfl rfl ?_
  intro w0 ok0 lent ρ0
  refine LWP.seq_k fun N1 hN1 => ?_
  refine LWP.region (l := [_]) ?_
  refine LWo.assign (e_int (0 : Int)) rfl (hn := ?_)
  refine LWo.nil (hN1 _ ?_)
  refine LWP.seq_k fun N2 hN2 => ?_
  refine LWP.region (l := [_,_,_,_,_,_,_,_,_,_,_]) ?_
  refine LWo.move (e_Limpl_Value a0) rfl (hn := ?_)
  refine LWo.move (e_Limpl_Value a1) rfl (hn := ?_)
  refine bk h fun x3 e3 h => ?_
  refine LWo.vcall rfl rfl (c_slices_CompareFunc_Limpl_Value_Limpl_Value_impl_Value_impl_Value _ _ _ f_impl_Value_order [] (fun _ => rfl) (fun b0_ b1_ v hv => c_impl_Value_order b0_ b1_  v hv) _ e3) (.same (.same (.same (.nil)))) (hn := ?_)
  refine LWo.move (e_Limpl_Value a0) rfl (hn := ?_)
  refine LWo.lenM (f := e_impl_Value) (l := a0) u_Limpl_Value rfl (hn := ?_)
  refine LWo.move (e_Limpl_Value a1) rfl (hn := ?_)
  refine LWo.lenM (f := e_impl_Value) (l := a1) u_Limpl_Value rfl (hn := ?_)
  refine bk h fun x4 e4 h => ?_
  refine LWo.vcall rfl rfl (c_cmp_Compare_int _ _ _ e4) (.same (.same (.nil))) (hn := ?_)
  refine LWo.lit (ops := [_, _]) [(e_int x3), (e_int x4)] u_Lint s_int z_int rfl rfl rfl rfl rfl rfl (hn := ?_)
  refine bk h fun x5 e5 h => ?_
  refine LWo.vcall rfl rfl (c_cmp_Or_int _ _ e5) (.same (.nil)) (hn := ?_)
  refine LWo.assign (e_int x5) rfl (hn := ?_)
  refine LWo.nil (hN2 _ ?_)
  obtain rfl := Option.some.inj h
  refine LWP.ret (QG.mk (.inr rfl) (.cons (.tmp (x := (e_int x5)) rfl) (.nil)) (RetOK.one0 (.pure rfl) (by decide)) rfl rfl)

def m_impl_RowOrder_j1 (t0 : (List S_impl_Value)) (t1 : (List S_impl_Value)) (t12 : Bool) : Option Int :=
  bif t12 then (some (0 : Int))
  else ((m_impl_rowOrder t0 t1).bind fun x10 =>
  some x10)
def m_impl_RowOrder (a0 : (List S_impl_Value)) (a1 : (List S_impl_Value)) : Option Int :=
  (m_impl_RowOk a0).bind fun x4 =>
  bif (!x4) then (m_impl_RowOrder_j1  a0 a1 true)
  else ((m_impl_RowOk a1).bind fun x6 =>
    m_impl_RowOrder_j1  a0 a1 (!x6))
theorem c_impl_RowOrder (a0 : (List S_impl_Value)) (a1 : (List S_impl_Value)) (r : Int) (h : m_impl_RowOrder a0 a1 = some r) : Ret Try.prog f_impl_RowOrder [e_Limpl_Value a0, e_Limpl_Value a1] (e_int r) := by
  refine Does.goG [] F_impl_RowOrder rfl e_impl_RowOrder n_impl_RowOrder rfl (rvs := [.tmp 4]) rfl rfl ?_
  intro w0 ok0 lent ρ0
  refine LWP.seq_k fun N1 hN1 => ?_
  refine LWP.region (l := [_]) ?_
  refine LWo.assign (e_int (0 : Int)) rfl (hn := ?_)
  refine LWo.nil (hN1 _ ?_)
  refine LWP.seq_k fun N2 hN2 => ?_
  refine LWP.join (α := (List S_impl_Value) × (List S_impl_Value) × Bool) (fun z : (List S_impl_Value) × (List S_impl_Value) × Bool => [(0, (e_Limpl_Value z.1)), (1, (e_Limpl_Value z.2.1)), (12, (e_bool z.2.2))]) (fun z : (List S_impl_Value) × (List S_impl_Value) × Bool => []) (fun z : (List S_impl_Value) × (List S_impl_Value) × Bool => m_impl_RowOrder_j1  z.1 z.2.1 z.2.2) r (fun _ => by simp [hkeys]) ?_ ?_
  ·rintro ⟨t0, t1, t12⟩ h
   replace h : m_impl_RowOrder_j1  t0 t1 t12 = some _ := h
   refine LWP.cond_split rfl (fun h7 => ?_) (fun h7 => ?_)
   ·have h := bT h7 h
    refine LWP.seq_k fun N8 hN8 => ?_
    refine LWP.region (l := [_]) ?_
    refine LWo.assign (e_int (0 : Int)) rfl (hn := ?_)
    refine LWo.nil (hN8 _ ?_)
    obtain rfl := Option.some.inj h
    refine LWP.ret (QG.mk (.inr rfl) (.cons (.tmp (x := (e_int (0 : Int))) rfl) (.nil)) (RetOK.one0 (.pure rfl) (by decide)) rfl rfl)
   ·have h := bF h7 h
    refine LWP.skip (hN2 _ ?_)
    refine LWP.seq_k fun N9 hN9 => ?_
    refine LWP.region (l := [_,_,_,_]) ?_
    refine LWo.move (e_Limpl_Value t0) rfl (hn := ?_)
    refine LWo.move (e_Limpl_Value t1) rfl (hn := ?_)
    refine bk h fun x10 e10 h => ?_
    refine LWo.vcall rfl rfl (c_impl_rowOrder _ _ _ e10) (.same (.same (.nil))) (hn := ?_)
    refine LWo.assign (e_int x10) rfl (hn := ?_)
    refine LWo.nil (hN9 _ ?_)
    obtain rfl := Option.some.inj h
    refine LWP.ret (QG.mk (.inr rfl) (.cons (.tmp (x := (e_int x10)) rfl) (.nil)) (RetOK.one0 (.pure rfl) (by decide)) rfl rfl)
  ·intro N3 hN3
   refine LWP.region (l := [_,_,_,_,_,_,_,_]) ?_
   refine LWo.move (e_Limpl_Value a0) rfl (hn := ?_)
   refine bk h fun x4 e4 h => ?_
   refine LWo.vcall rfl rfl (c_impl_RowOk _ _ e4) (.same (.nil)) (hn := ?_)
   refine LWo.not rfl (hn := ?_)
   refine LWo.move (e_bool (!x4)) rfl (hn := ?_)
   refine LWo.byCases (t := 8) _ rfl (fun h5 => ?_) (fun h5 => ?_)
   ·have h := bT h5 h
    refine LWo.guardNU (t := 8) rfl h5 rfl rfl rfl rfl rfl ?_
    refine LWo.guardNU (t := 8) rfl h5 rfl rfl rfl rfl rfl ?_
    refine LWo.guardNU (t := 8) rfl h5 rfl rfl rfl rfl rfl ?_
    refine LWo.pickTM (e_bool true) rfl h5 rfl (hn := ?_)
    refine LWo.nil (hN3 (a0, a1, true) _ ⟨rfl, rfl, rfl, trivial⟩ trivial h)
   ·have h := bF h5 h
    refine LWo.guardY (t := 8) rfl h5 rfl rfl ?_
    refine LWo.move (e_Limpl_Value a1) rfl (hn := ?_)
    refine bk h fun x6 e6 h => ?_
    refine LWo.guardY (t := 8) rfl h5 rfl rfl ?_
    refine LWo.vcall rfl rfl (c_impl_RowOk _ _ e6) (.same (.nil)) (hn := ?_)
    refine LWo.guardY (t := 8) rfl h5 rfl rfl ?_
    refine LWo.not rfl (hn := ?_)
    refine LWo.pickFM (e_bool (!x6)) rfl h5 rfl (hn := ?_)
    refine LWo.nil (hN3 (a0, a1, (!x6)) _ ⟨rfl, rfl, rfl, trivial⟩ trivial h)

def m_slices_Reverse_LLimpl_Value_Limpl_Value_l1 : Nat → Int → Int → (List (List S_impl_Value)) → Option (List (List S_impl_Value))
  | 0, _, _, _ => none
  | n1 + 1, t2, t3, o0 =>
    bif decide (t2 < t3) then ((at? o0 t3).bind fun x9 =>
    (at? o0 t3).bind fun x10 =>
    (at? o0 t2).bind fun x11 =>
    (at? o0 t2).bind fun x12 =>
    (at? o0 t2).bind fun x13 =>
    (at? o0 t2).bind fun x14 =>
    lt (x10) fun y15 =>
    (at? (o0.set (t2).toNat y15) t3).bind fun x16 =>
    (at? (o0.set (t2).toNat y15) t3).bind fun x17 =>
    lt (x12) fun y18 =>
    (ckI (t2 + (1 : Int))).bind fun x19 =>
    (ckI (t3 - (1 : Int))).bind fun x20 =>
    (m_slices_Reverse_LLimpl_Value_Limpl_Value_l1  n1) x19 x20 ((o0.set (t2).toNat y15).set (t3).toNat y18))
    else (some o0)
def m_slices_Reverse_LLimpl_Value_Limpl_Value (o0 : (List (List S_impl_Value))) : Option (List (List S_impl_Value)) :=
  (ckI ((o0.length : Int) - (1 : Int))).bind fun x2 =>
  m_slices_Reverse_LLimpl_Value_Limpl_Value_l1  ((x2 - (0 : Int)).toNat + 1) (0 : Int) x2 o0
theorem c_slices_Reverse_LLimpl_Value_Limpl_Value (o0 : (List (List S_impl_Value))) (r : (List (List S_impl_Value))) (h : m_slices_Reverse_LLimpl_Value_Limpl_Value o0 = some r) : Does Try.prog f_slices_Reverse_LLimpl_Value_Limpl_Value [.own 0 0 o0.length] [(0, (lob 1 e_Limpl_Value o0))] (fun x hh => x = .tup [] ∧ hh = [(0, (lob 1 e_Limpl_Value r))]) := by
  refine Does.goG [0] F_slices_Reverse_LLimpl_Value_Limpl_Value rfl e_slices_Reverse_LLimpl_Value_Limpl_Value n_slices_Reverse_LLimpl_Value_Limpl_Value rfl (rvs := []) rfl rfl ?_
  intro w0 ok0 lent ρ0
  refine LWP.seq_k fun N1 hN1 => ?_
  refine LWP.region (l := [_,_,_,_,_]) ?_
  refine LWo.move (.own 0 0 (o0).length) rfl (hn := ?_)
  refine LWo.lenO u_LLimpl_Value rfl (hn := ?_)
  refine bk h fun x2 e2 h => ?_
  refine LWo.int _ rfl rfl (sub_ck e2) (hn := ?_)
  refine LWo.assign (e_int (0 : Int)) rfl (hn := ?_)
  refine LWo.assign (e_int x2) rfl (hn := ?_)
  refine LWo.nil (hN1 _ ?_)
  refine LWP.block ?_
  refine LWP.loopM (α := Int × Int × (List (List S_impl_Value))) (fun z : Int × Int × (List (List S_impl_Value)) => [(0, (.own 0 0 (z.2.2).length)), (2, (e_int z.1)), (3, (e_int z.2.1))]) (fun z : Int × Int × (List (List S_impl_Value)) => [(0, (lob 1 e_Limpl_Value z.2.2))]) (fun n1 (z : Int × Int × (List (List S_impl_Value))) => m_slices_Reverse_LLimpl_Value_Limpl_Value_l1  n1 z.1 z.2.1 z.2.2) r _ ((0 : Int), x2, o0) h (fun _ => rfl) (fun _ => by simp [hkeys]) ⟨rfl, rfl, rfl, trivial⟩ ⟨rfl, trivial⟩ ?_
  rintro n1 ⟨t2, t3, o0⟩ h N3 hN3
  replace h : m_slices_Reverse_LLimpl_Value_Limpl_Value_l1  (n1 + 1) t2 t3 o0 = some _ := h
  refine LWP.seq_k fun N5 hN5 => ?_
  refine LWP.seq_k fun N6 hN6 => ?_
  refine LWP.region (l := [_,_,_]) ?_
  refine LWo.move (e_int t2) rfl (hn := ?_)
  refine LWo.move (e_int t3) rfl (hn := ?_)
  refine LWo.int _ rfl rfl rfl (hn := ?_)
  refine LWo.nil (hN6 _ ?_)
  refine LWP.cond_split rfl (fun h7 => ?_) (fun h7 => ?_)
  ·have h := bT h7 h
   refine LWP.skip (hN5 _ ?_)
   refine LWP.seq_k fun N8 hN8 => ?_
   refine LWP.block ?_
   refine bk h fun x9 e9 h => ?_
   refine bk h fun x10 e10 h => ?_
   refine bk h fun x11 e11 h => ?_
   refine bk h fun x12 e12 h => ?_
   refine bk h fun x13 e13 h => ?_
   refine bk h fun x14 e14 h => ?_
   refine lk h fun y15 e15 h => ?_
   refine bk h fun x16 e16 h => ?_
   refine bk h fun x17 e17 h => ?_
   refine lk h fun y18 e18 h => ?_
   refine LWP.drawF (l := [_,_,_,_,_,_,_,_,_,_,_,_,_,_,_,_]) [] [0, 2, 3] [([0], []), ([2], []), ([0], []), ([3], []), ([0], []), ([3], []), ([18, 19], [0]), ([20], [0]), ([0], []), ([2], []), ([22, 23], [0]), ([24], [0]), ([14, 15], [0]), ([21, 26], [0]), ([16, 17], [0]), ([25, 27], [0])] [0, 2, 3] [0] mixed (by kernel_rfl) rfl (by decide) ?_
   refine dq 14 rfl (fun _ g u h => LWo.move (.own 0 0 (o0).length) u.1 (hn := .nil (zn g))) ?_
   refine dq 15 rfl (fun _ g u h => LWo.move (e_int t2) u.1 (hn := .nil (zn g))) ?_
   refine dq 16 rfl (fun _ g u h => LWo.move (.own 0 0 (o0).length) u.1 (hn := .nil (zn g))) ?_
   refine dq 17 rfl (fun _ g u h => LWo.move (e_int t3) u.1 (hn := .nil (zn g))) ?_
   refine dq 18 rfl (fun _ g u h => LWo.move (.own 0 0 (o0).length) u.1 (hn := .nil (zn g))) ?_
   refine dq 19 rfl (fun _ g u h => LWo.move (e_int t3) u.1 (hn := .nil (zn g))) ?_
   refine dq 20 rfl (fun _ g u h => LWo.indexO e9 rfl u_LLimpl_Value s_Limpl_Value u.1 u.2.1 h.1 (hn := .nil (zn g))) ?_
   refine dq 21 rfl (fun _ g u h => LWo.loadO1 (e_Limpl_Value x10) e10 g_Limpl_Value u.1 h.1 rfl (hn := .nil (zn g))) ?_
   refine dq 22 rfl (fun _ g u h => LWo.move (.own 0 0 (o0).length) u.1 (hn := .nil (zn g))) ?_
   refine dq 23 rfl (fun _ g u h => LWo.move (e_int t2) u.1 (hn := .nil (zn g))) ?_
   refine dq 24 rfl (fun _ g u h => LWo.indexO e11 rfl u_LLimpl_Value s_Limpl_Value u.1 u.2.1 h.1 (hn := .nil (zn g))) ?_
   refine dq 25 rfl (fun _ g u h => LWo.loadO1 (e_Limpl_Value x12) e12 g_Limpl_Value u.1 h.1 rfl (hn := .nil (zn g))) ?_
   refine dq 26 rfl (fun _ g u h => LWo.indexO e13 rfl u_LLimpl_Value s_Limpl_Value u.1 u.2.1 h.1 (hn := .nil (zn g))) ?_
   refine ⟨rfl, .upd none .junk 0 _, (fun _ h => by cases h), fun _ g u h => LWo.storeO y15 e14 s_Limpl_Value u.2.1 u.1 rfl rfl rfl h.1 rfl (by rw [e15]; rfl) (hn := LWo.nil ⟨rfl, .inl rfl, Ef.good_ok (e := .upd none .junk 0 _) (fun _ h => by cases h) g⟩), ?_⟩
   refine dq 27 rfl (fun _ g u h => LWo.indexO e16 List.length_set.symm u_LLimpl_Value s_Limpl_Value u.1 u.2.1 h.1 (hn := .nil (zn g))) ?_
   refine ⟨rfl, .upd none .junk 0 _, (fun _ h => by cases h), fun _ g u h => LWo.storeO y18 e17 s_Limpl_Value u.2.1 u.1 rfl rfl rfl h.1 rfl (by rw [e18]; rfl) (hn := LWo.nil ⟨rfl, .inl rfl, Ef.good_ok (e := .upd none .junk 0 _) (fun _ h => by cases h) g⟩), ?_⟩
   refine ⟨rfl, by kernel_rfl, hN8 _ ?_⟩
   refine LWP.region (l := [_,_,_,_,_,_]) ?_
   refine LWo.move (e_int t2) rfl (hn := ?_)
   refine bk h fun x19 e19 h => ?_
   refine LWo.int _ rfl rfl (add_ck e19) (hn := ?_)
   refine LWo.move (e_int t3) rfl (hn := ?_)
   refine bk h fun x20 e20 h => ?_
   refine LWo.int _ rfl rfl (sub_ck e20) (hn := ?_)
   refine LWo.assign (e_int x19) rfl (hn := ?_)
   refine LWo.assign (e_int x20) rfl (hn := ?_)
   refine LWo.nil (hN3 (x19, x20, ((o0.set (t2).toNat y15).set (t3).toNat y18)) _ ⟨(congrArg (LV.own 0 0) (List.length_set.symm.trans List.length_set.symm)), rfl, rfl, trivial⟩ ⟨rfl, trivial⟩ h)
  ·have h := bF h7 h
   obtain rfl := Option.some.inj h
   refine LWP.exit (QG.mk (.inl rfl) (.nil) (RetOK.many1 (.nil) (by simp) (by decide) rfl rfl rfl rfl rfl) rfl rfl)
theorem k_slices_Reverse_LLimpl_Value_Limpl_Value (o0 : (List (List S_impl_Value))) (r : (List (List S_impl_Value))) (h : m_slices_Reverse_LLimpl_Value_Limpl_Value o0 = some r) (k : Nat) : Does Try.prog f_slices_Reverse_LLimpl_Value_Limpl_Value [.own k 0 o0.length] [(k, (lob 1 e_Limpl_Value o0))] (fun x hh => x = .tup [] ∧ hh = [(k, (lob 1 e_Limpl_Value r))]) :=
  Does.nameO (c_slices_Reverse_LLimpl_Value_Limpl_Value o0 r h) (fun _ => rfl) k

def m_slices_rotateLeft_Limpl_Value (o0 : (List (List S_impl_Value))) (a1 : Int) : Option (List (List S_impl_Value)) :=
  (cut? o0 (0 : Int) a1).bind fun x2 =>
  none
theorem c_slices_rotateLeft_Limpl_Value (o0 : (List (List S_impl_Value))) (a1 : Int) (r : (List (List S_impl_Value))) (h : m_slices_rotateLeft_Limpl_Value o0 a1 = some r) : Does Try.prog f_slices_rotateLeft_Limpl_Value [.own 0 0 o0.length, e_int a1] [(0, (lob 1 e_Limpl_Value o0))] (fun x hh => x = .tup [] ∧ hh = [(0, (lob 1 e_Limpl_Value r))]) := by
  refine Does.goG [0] F_slices_rotateLeft_Limpl_Value rfl e_slices_rotateLeft_Limpl_Value n_slices_rotateLeft_Limpl_Value rfl (rvs := []) rfl rfl ?_
  intro w0 ok0 lent ρ0
  refine LWP.seq_k fun N1 hN1 => ?_
  refine LWP.region (l := [_,_,_,_]) ?_
  refine LWo.move (.own 0 0 (o0).length) rfl (hn := ?_)
  refine LWo.move (e_int a1) rfl (hn := ?_)
  refine bk h fun x2 e2 h => ?_
  refine LWo.frzL (f := e_Limpl_Value) (l := o0) [0, 4] 0 rfl rfl ⟨rfl, rfl, trivial⟩ ?_
  refine LWo.cutM (f := e_Limpl_Value) e2 u_LLimpl_Value s_Limpl_Value rfl rfl ⟨_, rfl⟩ (hn := ?_)
  exact no h
theorem k_slices_rotateLeft_Limpl_Value (o0 : (List (List S_impl_Value))) (a1 : Int) (r : (List (List S_impl_Value))) (h : m_slices_rotateLeft_Limpl_Value o0 a1 = some r) (k : Nat) : Does Try.prog f_slices_rotateLeft_Limpl_Value [.own k 0 o0.length, e_int a1] [(k, (lob 1 e_Limpl_Value o0))] (fun x hh => x = .tup [] ∧ hh = [(k, (lob 1 e_Limpl_Value r))]) :=
  Does.nameO (c_slices_rotateLeft_Limpl_Value o0 a1 r h) (fun _ => rfl) k

def m_slices_rotateRight_Limpl_Value (o0 : (List (List S_impl_Value))) (a1 : Int) : Option (List (List S_impl_Value)) :=
  (ckI ((o0.length : Int) - a1)).bind fun x1 =>
  (m_slices_rotateLeft_Limpl_Value o0 x1).bind fun x2 =>
  (lenQ x2.length o0.length ()).bind fun u3 =>
  some x2
theorem c_slices_rotateRight_Limpl_Value (o0 : (List (List S_impl_Value))) (a1 : Int) (r : (List (List S_impl_Value))) (h : m_slices_rotateRight_Limpl_Value o0 a1 = some r) : Does Try.prog f_slices_rotateRight_Limpl_Value [.own 0 0 o0.length, e_int a1] [(0, (lob 1 e_Limpl_Value o0))] (fun x hh => x = .tup [] ∧ hh = [(0, (lob 1 e_Limpl_Value r))]) := by
  refine Does.goG [0] F_slices_rotateRight_Limpl_Value rfl e_slices_rotateRight_Limpl_Value n_slices_rotateRight_Limpl_Value rfl (rvs := []) rfl rfl ?_
  intro w0 ok0 lent ρ0
  refine LWP.region (l := [_,_,_,_,_,_]) ?_
  refine LWo.move (.own 0 0 (o0).length) rfl (hn := ?_)
  refine LWo.move (.own 0 0 (o0).length) rfl (hn := ?_)
  refine LWo.lenO u_LLimpl_Value rfl (hn := ?_)
  refine LWo.move (e_int a1) rfl (hn := ?_)
  refine bk h fun x1 e1 h => ?_
  refine LWo.int _ rfl rfl (sub_ck e1) (hn := ?_)
  refine bk h fun x2 e2 h => ?_
  refine bk h fun u3 e3 h => ?_
  refine LWo.ucallM (e := e_Limpl_Value) rfl rfl (k_slices_rotateLeft_Limpl_Value _ _ _ e2 0) rfl rfl (some 9) rfl (hn := ?_)
  obtain rfl := Option.some.inj h
  refine LWo.nil (QG.mk (.inl rfl) (.nil) (RetOK.many1 (.nil) (by simp) (by decide) rfl rfl rfl rfl rfl) rfl rfl)
theorem k_slices_rotateRight_Limpl_Value (o0 : (List (List S_impl_Value))) (a1 : Int) (r : (List (List S_impl_Value))) (h : m_slices_rotateRight_Limpl_Value o0 a1 = some r) (k : Nat) : Does Try.prog f_slices_rotateRight_Limpl_Value [.own k 0 o0.length, e_int a1] [(k, (lob 1 e_Limpl_Value o0))] (fun x hh => x = .tup [] ∧ hh = [(k, (lob 1 e_Limpl_Value r))]) :=
  Does.nameO (c_slices_rotateRight_Limpl_Value o0 a1 r h) (fun _ => rfl) k

theorem ins_fresh {xs : List LV} {v z : LV} {i m : Nat} (hi : i ≤ xs.length) (h : xs.length + 1 ≤ i + m) :
    ((((xs.take i ++ List.replicate m z).take i ++ [v] ++ (xs.take i ++ List.replicate m z).drop (i + [v].length)).take (i + 1) ++ xs.drop i ++
      ((xs.take i ++ List.replicate m z).take i ++ [v] ++ (xs.take i ++ List.replicate m z).drop (i + [v].length)).drop (i + 1 + (xs.drop i).length)).take (xs.length + 1)) = xs.take i ++ v :: xs.drop i := by
  have h0 : (xs.take i ++ List.replicate m z).take i = xs.take i := by
    rw [List.take_append_of_le_length (by simp; omega), List.take_take, Nat.min_self]
  have h1 : (xs.take i ++ [v]).length = i + 1 := by simp; omega
  rw [h0]
  rw [List.take_append_of_le_length (l₁ := xs.take i ++ [v]) (by omega), List.take_of_length_le (l := xs.take i ++ [v]) (by omega)]
  rw [List.take_append_of_le_length (by simp; omega), List.take_of_length_le (by simp; omega)]
  simp
theorem ins_place {xs : List LV} {v : LV} {i : Nat} (hi : i ≤ xs.length) (hi' : i < xs.length) :
    (((xs.take (i + 1) ++ xs.drop i ++ xs.drop (i + 1 + (xs.drop i).length)).take i ++ [v] ++ (xs.take (i + 1) ++ xs.drop i ++ xs.drop (i + 1 + (xs.drop i).length)).drop (i + [v].length)).take (xs.length + 1)) = xs.take i ++ v :: xs.drop i := by
  have e : xs.drop (i + 1 + (xs.drop i).length) = [] := List.drop_eq_nil_of_le (by simp; omega)
  rw [e, List.append_nil]
  have h1 : (xs.take (i + 1)).length = i + 1 := by simp; omega
  have e1 : (xs.take (i + 1) ++ xs.drop i).take i = xs.take i := by rw [List.take_append_of_le_length (by omega), List.take_take, Nat.min_eq_left (by omega)]
  have e2 : (xs.take (i + 1) ++ xs.drop i).drop (i + [v].length) = xs.drop i := by
    rw [List.drop_append_of_le_length (by simp; omega), List.drop_of_length_le (l := xs.take (i + 1)) (by simp; omega)]; simp
  rw [e1, e2, List.take_of_length_le (by simp; omega)]
  simp



theorem ov_LLimpl_Value (vs : Array Value) (w : World) : (callFunc f_slices_overlaps_Limpl_Value vs).run Try.prog w = ((Extern.SlicesOverlaps.overlaps #[t_LLimpl_Value, t_LLimpl_Value] #[t_bool] vs).run Try.prog w).andThen fun v w => .ok (.value v) w := by
  rw [run_callFunc_extern F_slices_overlaps_Limpl_Value (by kernel_rfl) (by kernel_rfl) (by kernel_rfl) (e := Extern.SlicesOverlaps.overlaps #[t_LLimpl_Value, t_LLimpl_Value] #[t_bool]) (by kernel_rfl)]

theorem cc_slices_Insert_LLimpl_Value_Limpl_Value (xs : List LV) (v : LV) (i : Nat) (hi : i ≤ xs.length) (hv : v.cells.length = 1) (hu : ∀ x ∈ xs, x.cells.length = 1) (hlen : xs.length ≤ 1000000000) :
    Does Try.prog f_slices_Insert_LLimpl_Value_Limpl_Value [.own 0 0 xs.length, e_int i, .sl 1 [v]] [(0, { kind := .fro, sz := 1, elems := xs })] (fun r h => r = .nw 1 (xs.take i ++ v :: xs.drop i) false ∧ h = []) := by
  refine Does.go [0] F_slices_Insert_LLimpl_Value_Limpl_Value rfl e_slices_Insert_LLimpl_Value_Limpl_Value n_slices_Insert_LLimpl_Value_Limpl_Value rfl (ts := [6]) rfl rfl rfl ?_
  intro w0 ok0 lent ρ0
  refine LWP.rekey 0 0 1 rfl rfl rfl rfl rfl rfl ?_
  refine LWP.seq_k fun N1 hN1 => ?_
  refine LWP.region (l := [_]) ?_
  refine LWo.assign _ rfl (hn := ?_)
  refine LWo.nil (hN1 _ ?_)
  refine LWP.seq_k fun N2 hN2 => ?_
  refine LWP.region (l := [_,_,_]) ?_
  refine LWo.move _ rfl (hn := ?_)
  refine LWo.move _ rfl (hn := ?_)
  refine LWo.cutOwn (l := i) (h := xs.length) u_LLimpl_Value s_Limpl_Value rfl rfl rfl ⟨_, rfl⟩ rfl trivial (.inl rfl) (by omega) (by omega) rfl rfl (hn := ?_)
  refine LWo.nil (hN2 _ ?_)
  refine LWP.seq_k fun N3 hN3 => ?_
  refine LWP.region (l := [_,_,_]) ?_
  refine LWo.move _ rfl (hn := ?_)
  refine LWo.len u_LLimpl_Value rfl (hn := ?_)
  refine LWo.assign _ rfl (hn := ?_)
  refine LWo.nil (hN3 _ ?_)
  refine LWP.seq_k fun N4 hN4 => ?_
  refine LWP.seq_k fun N5 hN5 => ?_
  refine LWP.region (l := [_,_]) ?_
  refine LWo.move _ rfl (hn := ?_)
  refine LWo.int _ rfl rfl rfl (hn := ?_)
  refine LWo.nil (hN5 _ ?_)
  refine LWP.cond_split rfl (fun h6 => ?_) (fun h6 => ?_)
  · -- t16 = True
    try simp only [List.length_map, decide_eq_true_eq, decide_eq_false_iff_not, Int.ofNat_lt, Int.ofNat_le, Int.not_lt, Int.not_le, ge_iff_le, gt_iff_lt, Nat.not_le, Nat.not_lt] at h6
    refine LWP.seq_k fun N7 hN7 => ?_
    refine LWP.region (l := [_,_]) ?_
    refine LWo.move _ rfl (hn := ?_)
    refine LWo.assign _ rfl (hn := ?_)
    refine LWo.nil (hN7 _ ?_)
    exact absurd h6 (by simp)
  · -- t16 = False
    try simp only [List.length_map, decide_eq_true_eq, decide_eq_false_iff_not, Int.ofNat_lt, Int.ofNat_le, Int.not_lt, Int.not_le, ge_iff_le, gt_iff_lt, Nat.not_le, Nat.not_lt] at h6
    refine LWP.skip (hN4 _ ?_)
    refine LWP.seq_k fun N8 hN8 => ?_
    refine LWP.region (l := [_,_,_]) ?_
    refine LWo.move _ rfl (hn := ?_)
    refine LWo.len u_LLimpl_Value rfl (hn := ?_)
    refine LWo.assign _ rfl (hn := ?_)
    refine LWo.nil (hN8 _ ?_)
    refine LWP.seq_k fun N9 hN9 => ?_
    refine LWP.seq_k fun N10 hN10 => ?_
    refine LWP.region (l := [_,_,_]) ?_
    refine LWo.move _ rfl (hn := ?_)
    refine LWo.move _ rfl (hn := ?_)
    refine LWo.int _ rfl rfl rfl (hn := ?_)
    refine LWo.nil (hN10 _ ?_)
    refine LWP.cond_split rfl (fun h11 => ?_) (fun h11 => ?_)
    · -- t22 = True
      try simp only [List.length_map, decide_eq_true_eq, decide_eq_false_iff_not, Int.ofNat_lt, Int.ofNat_le, Int.not_lt, Int.not_le, ge_iff_le, gt_iff_lt, Nat.not_le, Nat.not_lt] at h11
      refine LWP.seq_k fun N12 hN12 => ?_
      refine LWP.region (l := [_,_,_,_]) ?_
      refine LWo.move _ rfl (hn := ?_)
      refine LWo.move _ rfl (hn := ?_)
      refine LWo.append [v] u_LLimpl_Value u_LLimpl_Value (fun _ h => by cases h) s_Limpl_Value i_Limpl_Value rfl rfl rfl rfl rfl rfl (Nat.le_refl _) (.inl rfl) rfl rfl (by simp; omega) (by simp; omega) (hn := ?_)
      refine LWo.assign _ rfl (hn := ?_)
      refine LWo.nil (hN12 _ ?_)
      refine LWP.ret (QRet.own1 (.inr rfl) rfl rfl rfl rfl (by simp) ⟨(by have e : i = xs.length := (by simp at h11; omega); subst e; simp [List.take_of_length_le]), rfl⟩)
    · -- t22 = False
      try simp only [List.length_map, decide_eq_true_eq, decide_eq_false_iff_not, Int.ofNat_lt, Int.ofNat_le, Int.not_lt, Int.not_le, ge_iff_le, gt_iff_lt, Nat.not_le, Nat.not_lt] at h11
      refine LWP.skip (hN9 _ ?_)
      refine LWP.seq_k fun N13 hN13 => ?_
      refine LWP.seq_k fun N14 hN14 => ?_
      refine LWP.region (l := [_,_,_,_,_,_]) ?_
      have hin : i < xs.length := by simp at h11; omega
      refine LWo.ownCap 0 rfl (by omega) (ho := rfl) (fun c hc1 hc2 => ?_)
      refine LWo.move _ rfl (hn := ?_)
      refine LWo.move _ rfl (hn := ?_)
      refine LWo.int _ rfl rfl (add_in (by simp only [List.length_cons, List.length_nil]; omega) (by simp only [List.length_cons, List.length_nil]; omega)) (hn := ?_)
      refine LWo.move _ rfl (hn := ?_)
      refine LWo.capC u_LLimpl_Value rfl (hn := ?_)
      refine LWo.int _ rfl rfl rfl (hn := ?_)
      refine LWo.nil (hN14 _ ?_)
      refine LWP.cond_split rfl (fun h15 => ?_) (fun h15 => ?_)
      · -- t31 = True
        try simp only [List.length_map, decide_eq_true_eq, decide_eq_false_iff_not, Int.ofNat_lt, Int.ofNat_le, Int.not_lt, Int.not_le, ge_iff_le, gt_iff_lt, Nat.not_le, Nat.not_lt] at h15
        refine LWP.seq_k fun N16 hN16 => ?_
        have hcc : c < i + (xs.length + 1 - i) := by simp at h15; omega
        refine LWP.region (l := [_,_,_,_,_,_,_,_,_,_]) ?_
        refine LWo.move _ rfl (hn := ?_)
        refine LWo.move _ rfl (hn := ?_)
        refine LWo.cutCC u_LLimpl_Value s_Limpl_Value rfl rfl rfl (h := i) ⟨_, rfl⟩ (by omega) (by omega) (hn := ?_)
        refine LWo.move _ rfl (hn := ?_)
        refine LWo.move _ rfl (hn := ?_)
        refine LWo.int _ rfl rfl (add_in (by simp only [List.length_cons, List.length_nil]; omega) (by simp only [List.length_cons, List.length_nil]; omega)) (hn := ?_)
        refine LWo.move _ rfl (hn := ?_)
        refine LWo.int _ rfl rfl (sub_in (by simp only [List.length_cons, List.length_nil]; omega) (by simp only [List.length_cons, List.length_nil]; omega)) (hn := ?_)
        refine LWo.appendMake (m := xs.length + 1 - i) 40 (.imm (.slice none 0 0)) u_LLimpl_Value u_int i_Limpl_Value (zs := [.slice none 0 0]) rfl rfl (by simp [Value.oneCell']) rfl (.own rfl rfl rfl rfl (by show i ≤ xs.length; omega) rfl hcc (fun x hx => hu x (List.mem_of_mem_take hx))) (congrArg (fun z => LV.imm (Value.int .i64 z)) (show ((xs.length : Int) + (([v] : List LV).length : Nat)) - (i : Int) = ((xs.length + 1 - i : Nat) : Int) by simp; omega)) rfl rfl (by simp; omega) (by simp; omega) (by omega) (by decide) (hn := ?_)
        refine LWo.assign _ rfl (hn := ?_)
        refine LWo.nil (hN16 _ ?_)
        refine LWP.seq_k fun N17 hN17 => ?_
        refine LWP.region (l := [_,_,_,_,_]) ?_
        refine LWo.move _ rfl (hn := ?_)
        refine LWo.move _ rfl (hn := ?_)
        refine LWo.cutOwn (l := i) (h := xs.length + 1) u_LLimpl_Value s_Limpl_Value rfl rfl rfl ⟨_, rfl⟩ (show xs.length + 1 = (xs.take i).length + (xs.length + 1 - i) by rw [List.length_take]; omega) trivial (.inl rfl) (by omega) (show xs.length + 1 ≤ (xs.take i).length + (xs.length + 1 - i) by rw [List.length_take]; omega) rfl rfl (hn := ?_)
        refine LWo.move _ rfl (hn := ?_)
        refine LWo.copy [v] u_LLimpl_Value s_Limpl_Value rfl (by omega) rfl rfl rfl rfl (by simp; omega) (.sl rfl rfl rfl) (by simp; omega) (hn := ?_)
        refine LWo.nil (hN17 _ ?_)
        refine LWP.seq_k fun N18 hN18 => ?_
        refine LWP.drawPU (l := [_,_,_,_,_,_,_,_]) (o := _) [0, 1, 7, 9] [(46, [9]), (47, [1]), (48, [7]), (49, [47, 48]), (50, [46, 49]), (51, [0]), (52, [1]), (53, [51, 52])] [9] 54 [50, 53] 40 mixed (by kernel_rfl) ?_
        refine ⟨rfl, _, fun u hu hh => LWo.move _ hu.1 (hn := LWo.nil ⟨rfl, .inl rfl, good0⟩), ?_⟩
        refine ⟨rfl, _, fun u hu hh => LWo.move (.imm (.int _ _)) hu.1 (hn := LWo.nil ⟨rfl, .inl rfl, good0⟩), ?_⟩
        refine ⟨rfl, _, fun u hu hh => LWo.move (.imm (.int _ _)) hu.1 (hn := LWo.nil ⟨rfl, .inl rfl, good0⟩), ?_⟩
        refine ⟨rfl, _, fun u hu hh => LWo.int _ hu.1 hu.2.1 (add_in (by simp only [List.length_cons, List.length_nil]; omega) (by simp only [List.length_cons, List.length_nil]; omega)) (hn := LWo.nil ⟨rfl, .inl rfl, good0⟩), ?_⟩
        refine ⟨rfl, _, fun u hu hh => LWo.cutOwn (l := i + 1) (h := xs.length + 1) u_LLimpl_Value s_Limpl_Value hu.1 (hh _ _ rfl) rfl ⟨_, hu.2.1.trans (congrArg (fun z => LV.imm (Value.int .i64 z)) (show ((i : Int) + (([v] : List LV).length : Nat)) = ((i + 1 : Nat) : Int) by simp))⟩ (show xs.length + 1 = (xs.take i).length + (xs.length + 1 - i) by rw [List.length_take]; omega) trivial (.inl rfl) (by omega) (show xs.length + 1 ≤ (xs.take i).length + (xs.length + 1 - i) by rw [List.length_take]; omega) rfl rfl (hn := LWo.nil ⟨rfl, .inl rfl, good0⟩), ?_⟩
        refine ⟨rfl, _, fun u hu hh => LWo.move _ hu.1 (hn := LWo.nil ⟨rfl, .inl rfl, good0⟩), ?_⟩
        refine ⟨rfl, _, fun u hu hh => LWo.move (.imm (.int _ _)) hu.1 (hn := LWo.nil ⟨rfl, .inl rfl, good0⟩), ?_⟩
        refine ⟨rfl, _, fun u hu hh => LWo.cutC (l := i) (h := xs.length) u_LLimpl_Value s_Limpl_Value hu.1 (hh _ _ rfl) rfl ⟨_, hu.2.1⟩ rfl (by omega) (by omega) rfl rfl (hn := LWo.nil ⟨rfl, .inl rfl, good0⟩), ?_⟩
        refine ⟨rfl, _, _, fun u hu hh => LWo.copy (xs.drop i) u_LLimpl_Value s_Limpl_Value hu.1 (by omega) (hh _ _ rfl) rfl rfl rfl (by simp; omega) (.own hu.2.1 (hh _ _ rfl) rfl rfl (by simp; omega) (by simp [List.take_of_length_le]) (by simp only [List.length_drop]; omega)) (by simp only [List.length_drop]; omega) (hn := LWo.nil ⟨rfl, .inl rfl, good0⟩), rfl, by kernel_rfl, hN18 _ ?_⟩
        refine LWP.seq_k fun N19 hN19 => ?_
        refine LWP.region (l := [_,_]) ?_
        refine LWo.move _ rfl (hn := ?_)
        refine LWo.assign _ rfl (hn := ?_)
        refine LWo.nil (hN19 _ ?_)
        refine LWP.ret (QRet.own1 (.inr rfl) rfl rfl rfl rfl (by simp; omega) ⟨by refine congrArg (fun l => LV.nw 1 l false) ?_; simp only [Nat.zero_add, Nat.sub_zero]; rw [← (show xs.length + 1 = (xs.take i).length + (xs.length + 1 - i) by rw [List.length_take]; omega)]; exact ins_fresh (m := xs.length + 1 - i) hi (by omega), rfl⟩)
      · -- t31 = False
        try simp only [List.length_map, decide_eq_true_eq, decide_eq_false_iff_not, Int.ofNat_lt, Int.ofNat_le, Int.not_lt, Int.not_le, ge_iff_le, gt_iff_lt, Nat.not_le, Nat.not_lt] at h15
        refine LWP.skip (hN13 _ ?_)
        refine LWP.seq_k fun N20 hN20 => ?_
        have hcc : xs.length + 1 ≤ c := by simp at h15; omega
        refine LWP.region (l := [_,_,_,_,_,_]) ?_
        refine LWo.move _ rfl (hn := ?_)
        refine LWo.move _ rfl (hn := ?_)
        refine LWo.move _ rfl (hn := ?_)
        refine LWo.int _ rfl rfl (add_in (by simp only [List.length_cons, List.length_nil]; omega) (by simp only [List.length_cons, List.length_nil]; omega)) (hn := ?_)
        refine LWo.cutC (l := 0) (h := xs.length + 1) u_LLimpl_Value s_Limpl_Value rfl rfl rfl rfl ⟨_, congrArg (fun z => LV.imm (Value.int .i64 z)) (show ((xs.length : Int) + (([v] : List LV).length : Nat)) = ((xs.length + 1 : Nat) : Int) by simp)⟩ (by omega) (by omega) rfl rfl (hn := ?_)
        refine LWo.assign _ rfl (hn := ?_)
        refine LWo.nil (hN20 _ ?_)
        refine LWP.seq_k fun N21 hN21 => ?_
        refine LWP.seq_k fun N22 hN22 => ?_
        refine LWP.region (l := [_,_,_,_,_,_,_,_]) ?_
        refine LWo.move _ rfl (hn := ?_)
        refine LWo.move _ rfl (hn := ?_)
        refine LWo.move _ rfl (hn := ?_)
        refine LWo.move _ rfl (hn := ?_)
        refine LWo.int _ rfl rfl (add_in (by simp only [List.length_cons, List.length_nil]; omega) (by simp only [List.length_cons, List.length_nil]; omega)) (hn := ?_)
        refine LWo.cutOwn (l := i + 1) (h := xs.length + 1) u_LLimpl_Value s_Limpl_Value rfl rfl rfl ⟨_, congrArg (fun z => LV.imm (Value.int .i64 z)) (show ((i : Int) + (([v] : List LV).length : Nat)) = ((i + 1 : Nat) : Int) by simp)⟩ rfl trivial (.inl rfl) (by omega) (by omega) rfl rfl (hn := ?_)
        refine LWo.overlaps ov_LLimpl_Value u_LLimpl_Value s_Limpl_Value (by decide) rfl rfl (by simp) rfl rfl (by omega) (hn := ?_)
        refine LWo.not rfl (hn := ?_)
        refine LWo.nil (hN22 _ ?_)
        refine LWP.condT rfl rfl ?_
        refine LWP.seq_k fun N23 hN23 => ?_
        refine LWP.drawPU (l := [_,_,_,_,_,_,_,_]) (o := _) [0, 1, 2, 7] [(69, [0]), (70, [1]), (71, [7]), (72, [70, 71]), (73, [69, 72]), (74, [0]), (75, [1]), (76, [74, 75])] [0, 1, 2] 77 [73, 76] 1 mixed (by kernel_rfl) ?_
        refine ⟨rfl, _, fun u hu hh => LWo.move _ hu.1 (hn := LWo.nil ⟨rfl, .inl rfl, good0⟩), ?_⟩
        refine ⟨rfl, _, fun u hu hh => LWo.move (.imm (.int _ _)) hu.1 (hn := LWo.nil ⟨rfl, .inl rfl, good0⟩), ?_⟩
        refine ⟨rfl, _, fun u hu hh => LWo.move (.imm (.int _ _)) hu.1 (hn := LWo.nil ⟨rfl, .inl rfl, good0⟩), ?_⟩
        refine ⟨rfl, _, fun u hu hh => LWo.int _ hu.1 hu.2.1 (add_in (by simp only [List.length_cons, List.length_nil]; omega) (by simp only [List.length_cons, List.length_nil]; omega)) (hn := LWo.nil ⟨rfl, .inl rfl, good0⟩), ?_⟩
        refine ⟨rfl, _, fun u hu hh => LWo.cutOwn (l := i + 1) (h := xs.length + 1) u_LLimpl_Value s_Limpl_Value hu.1 (hh _ _ rfl) rfl ⟨_, hu.2.1.trans (congrArg (fun z => LV.imm (Value.int .i64 z)) (show ((i : Int) + (([v] : List LV).length : Nat)) = ((i + 1 : Nat) : Int) by simp))⟩ rfl trivial (.inl rfl) (by omega) (by omega) rfl rfl (hn := LWo.nil ⟨rfl, .inl rfl, good0⟩), ?_⟩
        refine ⟨rfl, _, fun u hu hh => LWo.move _ hu.1 (hn := LWo.nil ⟨rfl, .inl rfl, good0⟩), ?_⟩
        refine ⟨rfl, _, fun u hu hh => LWo.move (.imm (.int _ _)) hu.1 (hn := LWo.nil ⟨rfl, .inl rfl, good0⟩), ?_⟩
        refine ⟨rfl, _, fun u hu hh => LWo.cutOwn (l := i) (h := xs.length + 1) u_LLimpl_Value s_Limpl_Value hu.1 (hh _ _ rfl) rfl ⟨_, hu.2.1⟩ rfl trivial (.inl rfl) (by omega) (by omega) rfl rfl (hn := LWo.nil ⟨rfl, .inl rfl, good0⟩), ?_⟩
        refine ⟨rfl, _, _, fun u hu hh => LWo.copy (xs.drop i) u_LLimpl_Value s_Limpl_Value hu.1 (by omega) (hh _ _ rfl) rfl rfl rfl (by simp; omega) (.own hu.2.1 (hh _ _ rfl) rfl rfl (by simp; omega) (by simp [List.take_of_length_le]) (by simp only [List.length_drop]; omega)) (by simp only [List.length_drop]; omega) (hn := LWo.nil ⟨rfl, .inl rfl, good0⟩), rfl, by kernel_rfl, hN23 _ ?_⟩
        refine LWP.seq_k fun N24 hN24 => ?_
        refine LWP.region (l := [_,_,_,_,_]) ?_
        refine LWo.move _ rfl (hn := ?_)
        refine LWo.move _ rfl (hn := ?_)
        refine LWo.cutOwn (l := i) (h := xs.length + 1) u_LLimpl_Value s_Limpl_Value rfl rfl rfl ⟨_, rfl⟩ rfl trivial (.inl rfl) (by omega) (by omega) rfl rfl (hn := ?_)
        refine LWo.move _ rfl (hn := ?_)
        refine LWo.copy [v] u_LLimpl_Value s_Limpl_Value rfl (by omega) rfl rfl rfl rfl (by simp; omega) (.sl rfl rfl rfl) (by simp; omega) (hn := ?_)
        refine LWo.nil (hN24 _ ?_)
        refine LWP.seq_k fun N25 hN25 => ?_
        refine LWP.region (l := [_,_]) ?_
        refine LWo.move _ rfl (hn := ?_)
        refine LWo.assign _ rfl (hn := ?_)
        refine LWo.nil (hN25 _ ?_)
        refine LWP.ret (QRet.own1 (.inr rfl) rfl rfl rfl rfl (by simp; omega) ⟨by refine congrArg (fun l => LV.nw 1 l false) ?_; simp only [Nat.zero_add, Nat.sub_zero]; exact ins_place hi hin, rfl⟩)

def m_slices_Insert_LLimpl_Value_Limpl_Value (o0 : List (List S_impl_Value)) (a1 : Int) (a2 : List (List S_impl_Value)) : Option (List (List S_impl_Value)) :=
  match a2 with
  | [v] => if 0 ≤ a1 ∧ a1 ≤ o0.length ∧ o0.length ≤ 1000000000 then some (o0.take a1.toNat ++ v :: o0.drop a1.toNat) else none
  | _ => none
theorem c_slices_Insert_LLimpl_Value_Limpl_Value (o0 : List (List S_impl_Value)) (a1 : Int) (a2 : List (List S_impl_Value)) (r : List (List S_impl_Value)) (h : m_slices_Insert_LLimpl_Value_Limpl_Value o0 a1 a2 = some r) : Does Try.prog f_slices_Insert_LLimpl_Value_Limpl_Value [.own 0 0 o0.length, e_int a1, .sl 1 (a2.map e_Limpl_Value)] [(0, lob 1 e_Limpl_Value o0)] (fun x hh => x = .nw 1 (r.map e_Limpl_Value) false ∧ hh = []) := by
  unfold m_slices_Insert_LLimpl_Value_Limpl_Value at h
  split at h
  · rename_i v
    split at h
    · rename_i h1
      cases h
      have := cc_slices_Insert_LLimpl_Value_Limpl_Value (o0.map e_Limpl_Value) (e_Limpl_Value v) a1.toNat (by rw [List.length_map]; omega) rfl (by intro x hx; obtain ⟨y, _, rfl⟩ := List.mem_map.1 hx; rfl) (by rw [List.length_map]; omega)
      rw [List.length_map, Int.toNat_of_nonneg h1.1] at this
      have em : (o0.take a1.toNat ++ v :: o0.drop a1.toNat).map e_Limpl_Value = (o0.map e_Limpl_Value).take a1.toNat ++ e_Limpl_Value v :: (o0.map e_Limpl_Value).drop a1.toNat := by simp
      rw [em]
      exact this
    · cases h
  · cases h



theorem cc_slices_Clip_Limpl_Value_impl_Value (xs : List LV) : Does Try.prog f_slices_Clip_Limpl_Value_impl_Value [.own 0 0 xs.length] [(0, { kind := .fro, sz := 3, elems := xs })] (fun r h => r = .nw 3 xs false ∧ h = []) := by
  refine Does.go [0] F_slices_Clip_Limpl_Value_impl_Value rfl e_slices_Clip_Limpl_Value_impl_Value n_slices_Clip_Limpl_Value_impl_Value rfl (ts := [2]) rfl rfl rfl ?_
  intro w0 ok0 lent ρ0
  refine LWP.seq_k fun N1 hN1 => ?_
  refine LWP.region (l := [_]) ?_
  refine LWo.assign _ rfl (hn := ?_)
  refine LWo.nil (hN1 _ ?_)
  refine LWP.seq_k fun N2 hN2 => ?_
  refine LWP.region (l := [_,_,_,_,_,_,_]) ?_
  refine LWo.move _ rfl (hn := ?_)
  refine LWo.move _ rfl (hn := ?_)
  refine LWo.len u_Limpl_Value rfl (hn := ?_)
  refine LWo.move _ rfl (hn := ?_)
  refine LWo.len u_Limpl_Value rfl (hn := ?_)
  refine LWo.cutOwn (l := 0) (h := xs.length) u_Limpl_Value s_impl_Value rfl rfl rfl rfl ⟨_, rfl⟩ ⟨_, _, rfl, Nat.le_refl _, Nat.le_refl _⟩ (.inr (by simp)) (Nat.zero_le _) (Nat.le_refl _) rfl rfl (hn := ?_)
  refine LWo.assign _ rfl (hn := ?_)
  refine LWo.nil (hN2 _ ?_)
  refine LWP.ret (QRet.own1 (.inr rfl) rfl rfl rfl rfl (by simp) ⟨?_, rfl⟩)
  clear hN1 hN2
  exact congrArg (fun l => LV.nw 3 l false) (by simp)
def m_slices_Clip_Limpl_Value_impl_Value_o (o0 : List S_impl_Value) : Option (List S_impl_Value) := some o0
theorem c_slices_Clip_Limpl_Value_impl_Value_o (o0 : List S_impl_Value) (r : List S_impl_Value) (h : m_slices_Clip_Limpl_Value_impl_Value_o o0 = some r) : Does Try.prog f_slices_Clip_Limpl_Value_impl_Value [.own 0 0 o0.length] [(0, lob 3 e_impl_Value o0)] (fun x hh => x = .nw 3 (r.map e_impl_Value) false ∧ hh = []) := by
  cases h
  have := cc_slices_Clip_Limpl_Value_impl_Value (o0.map e_impl_Value)
  rw [List.length_map] at this
  exact this



theorem ccd_slices_Clip_Limpl_Value_impl_Value (xs : List LV) : Does Try.prog f_slices_Clip_Limpl_Value_impl_Value [.own 0 0 xs.length] [(0, { kind := .deep, sz := 3, elems := xs })] (fun r h => r = .nw 3 xs true ∧ h = []) := by
  refine Does.go [0] F_slices_Clip_Limpl_Value_impl_Value rfl e_slices_Clip_Limpl_Value_impl_Value n_slices_Clip_Limpl_Value_impl_Value rfl (ts := [2]) rfl rfl rfl ?_
  intro w0 ok0 lent ρ0
  refine LWP.seq_k fun N1 hN1 => ?_
  refine LWP.region (l := [_]) ?_
  refine LWo.assign _ rfl (hn := ?_)
  refine LWo.nil (hN1 _ ?_)
  refine LWP.seq_k fun N2 hN2 => ?_
  refine LWP.region (l := [_,_,_,_,_,_,_]) ?_
  refine LWo.move _ rfl (hn := ?_)
  refine LWo.move _ rfl (hn := ?_)
  refine LWo.len u_Limpl_Value rfl (hn := ?_)
  refine LWo.move _ rfl (hn := ?_)
  refine LWo.len u_Limpl_Value rfl (hn := ?_)
  refine LWo.cutOwn (l := 0) (h := xs.length) u_Limpl_Value s_impl_Value rfl rfl rfl rfl ⟨_, rfl⟩ ⟨_, _, rfl, Nat.le_refl _, Nat.le_refl _⟩ (.inr (by simp)) (Nat.zero_le _) (Nat.le_refl _) rfl rfl (hn := ?_)
  refine LWo.assign _ rfl (hn := ?_)
  refine LWo.nil (hN2 _ ?_)
  refine LWP.ret (QRet.own1D (.inr rfl) rfl rfl rfl rfl (by simp) ⟨?_, rfl⟩)
  clear hN1 hN2
  exact congrArg (fun l => LV.nw 3 l true) (by simp)
def m_slices_Clip_Limpl_Value_impl_Value_d (o0 : List S_impl_Value) : Option (List S_impl_Value) := some o0
theorem c_slices_Clip_Limpl_Value_impl_Value_d (o0 : List S_impl_Value) (r : List S_impl_Value) (h : m_slices_Clip_Limpl_Value_impl_Value_d o0 = some r) : Does Try.prog f_slices_Clip_Limpl_Value_impl_Value [.own 0 0 o0.length] [(0, dob 3 e_impl_Value o0)] (fun x hh => x = .nw 3 (r.map e_impl_Value) true ∧ hh = []) := by
  cases h
  have := ccd_slices_Clip_Limpl_Value_impl_Value (o0.map e_impl_Value)
  rw [List.length_map] at this
  exact this



def m_slices_Clip_Limpl_Value_impl_Value (a0 : (List S_impl_Value)) : Option (List S_impl_Value) :=
  (cut3? a0 (0 : Int) (a0.length : Int) (a0.length : Int)).bind fun x3 =>
  some x3
theorem c_slices_Clip_Limpl_Value_impl_Value (a0 : (List S_impl_Value)) (r : (List S_impl_Value)) (h : m_slices_Clip_Limpl_Value_impl_Value a0 = some r) : Ret Try.prog f_slices_Clip_Limpl_Value_impl_Value [e_Limpl_Value a0] (e_Limpl_Value r) := by
  refine Does.goG [] F_slices_Clip_Limpl_Value_impl_Value rfl e_slices_Clip_Limpl_Value_impl_Value n_slices_Clip_Limpl_Value_impl_Value rfl (rvs := [.tmp 2]) rfl rfl ?_
  intro w0 ok0 lent ρ0
  refine LWP.seq_k fun N1 hN1 => ?_
  refine LWP.region (l := [_]) ?_
  refine LWo.assign _ rfl (hn := ?_)
  refine LWo.weakT 2 (e_Limpl_Value ([] : (List S_impl_Value))) rfl .nil ?_
  refine LWo.nil (hN1 _ ?_)
  refine LWP.seq_k fun N2 hN2 => ?_
  refine LWP.region (l := [_,_,_,_,_,_,_]) ?_
  refine LWo.move (e_Limpl_Value a0) rfl (hn := ?_)
  refine LWo.move (e_Limpl_Value a0) rfl (hn := ?_)
  refine LWo.lenM (f := e_impl_Value) (l := a0) u_Limpl_Value rfl (hn := ?_)
  refine LWo.move (e_Limpl_Value a0) rfl (hn := ?_)
  refine LWo.lenM (f := e_impl_Value) (l := a0) u_Limpl_Value rfl (hn := ?_)
  refine bk h fun x3 e3 h => ?_
  refine LWo.cutM3 (f := e_impl_Value) e3 u_Limpl_Value s_impl_Value rfl rfl ⟨_, rfl⟩ ⟨_, rfl⟩ (hn := ?_)
  refine LWo.assign (e_Limpl_Value x3) rfl (hn := ?_)
  refine LWo.nil (hN2 _ ?_)
  obtain rfl := Option.some.inj h
  refine LWP.ret (QG.mk (.inr rfl) (.cons (.tmp (x := (e_Limpl_Value x3)) rfl) (.nil)) (RetOK.one0 (.pure rfl) (by decide)) rfl rfl)

def m_impl_clone_impl_Value (a0 : (List S_impl_Value)) : Option (List S_impl_Value) :=
  bif ((a0.length : Int) == (0 : Int)) then (some ([] : (List S_impl_Value)))
  else ((appN? a0).bind fun x7 =>
  (m_slices_Clip_Limpl_Value_impl_Value_o x7).bind fun x8 =>
  some x8)
theorem c_impl_clone_impl_Value (a0 : (List S_impl_Value)) (r : (List S_impl_Value)) (h : m_impl_clone_impl_Value a0 = some r) : Ret Try.prog f_impl_clone_impl_Value [e_Limpl_Value a0] (.nw 3 (r.map e_impl_Value) false) := by
  refine Does.goG [] F_impl_clone_impl_Value rfl e_impl_clone_impl_Value n_impl_clone_impl_Value rfl (rvs := [.tmp 2]) rfl rfl ?_
  intro w0 ok0 lent ρ0
  refine LWP.seq_k fun N1 hN1 => ?_
  refine LWP.region (l := [_]) ?_
  refine LWo.assign _ rfl (hn := ?_)
  refine LWo.ownNil 2 1002 3 rfl rfl rfl ?_
  refine LWo.known 2 (.own 1002 0 ([] : (List S_impl_Value)).length) rfl ?_
  refine LWo.nil (hN1 _ ?_)
  refine LWP.seq_k fun N2 hN2 => ?_
  refine LWP.seq_k fun N3 hN3 => ?_
  refine LWP.region (l := [_,_,_]) ?_
  refine LWo.move (e_Limpl_Value a0) rfl (hn := ?_)
  refine LWo.lenM (f := e_impl_Value) (l := a0) u_Limpl_Value rfl (hn := ?_)
  refine LWo.int _ rfl rfl rfl (hn := ?_)
  refine LWo.nil (hN3 _ ?_)
  refine LWP.cond_split rfl (fun h4 => ?_) (fun h4 => ?_)
  ·have h := bT h4 h
   refine LWP.seq_k fun N5 hN5 => ?_
   refine LWP.region (l := [_]) ?_
   refine LWo.assign _ rfl (hn := ?_)
   refine LWo.ownNil 2 1002 3 rfl rfl rfl ?_
   refine LWo.known 2 (.own 1002 0 ([] : (List S_impl_Value)).length) rfl ?_
   refine LWo.nil (hN5 _ ?_)
   obtain rfl := Option.some.inj h
   refine LWP.ret (QG.mk (.inr rfl) (.cons (.tmp (x := (.own 1002 0 (([] : (List S_impl_Value))).length)) rfl) (.nil)) (RetOK.one0 (.nwM rfl rfl) (by decide)) rfl rfl)
  ·have h := bF h4 h
   refine LWP.skip (hN2 _ ?_)
   refine LWP.seq_k fun N6 hN6 => ?_
   refine LWP.region (l := [_,_,_,_]) ?_
   refine LWo.move (e_Limpl_Value a0) rfl (hn := ?_)
   refine bk h fun x7 e7 h => ?_
   refine LWo.appendC (f := e_impl_Value) 1007 e7 u_Limpl_Value u_Limpl_Value (fun _ h => by cases h) i_impl_Value rfl rfl (.sl rfl) (fun _ => rfl) rfl rfl (hn := ?_)
   refine bk h fun x8 e8 h => ?_
   refine LWo.tcallN (e := e_impl_Value) (e' := e_impl_Value) 1008 rfl rfl (c_slices_Clip_Limpl_Value_impl_Value_o _ _ e8) (fun _ => rfl) rfl rfl rfl rfl (hn := ?_)
   refine LWo.assign (.own 1008 0 (x8).length) rfl (hn := ?_)
   refine LWo.nil (hN6 _ ?_)
   obtain rfl := Option.some.inj h
   refine LWP.ret (QG.mk (.inr rfl) (.cons (.tmp (x := (.own 1008 0 (x8).length)) rfl) (.nil)) (RetOK.one0 (.nwM rfl rfl) (by decide)) rfl rfl)

theorem cc_slices_Clip_LLimpl_Value_Limpl_Value (xs : List LV) : Does Try.prog f_slices_Clip_LLimpl_Value_Limpl_Value [.own 0 0 xs.length] [(0, { kind := .fro, sz := 1, elems := xs })] (fun r h => r = .nw 1 xs false ∧ h = []) := by
  refine Does.go [0] F_slices_Clip_LLimpl_Value_Limpl_Value rfl e_slices_Clip_LLimpl_Value_Limpl_Value n_slices_Clip_LLimpl_Value_Limpl_Value rfl (ts := [2]) rfl rfl rfl ?_
  intro w0 ok0 lent ρ0
  refine LWP.seq_k fun N1 hN1 => ?_
  refine LWP.region (l := [_]) ?_
  refine LWo.assign _ rfl (hn := ?_)
  refine LWo.nil (hN1 _ ?_)
  refine LWP.seq_k fun N2 hN2 => ?_
  refine LWP.region (l := [_,_,_,_,_,_,_]) ?_
  refine LWo.move _ rfl (hn := ?_)
  refine LWo.move _ rfl (hn := ?_)
  refine LWo.len u_LLimpl_Value rfl (hn := ?_)
  refine LWo.move _ rfl (hn := ?_)
  refine LWo.len u_LLimpl_Value rfl (hn := ?_)
  refine LWo.cutOwn (l := 0) (h := xs.length) u_LLimpl_Value s_Limpl_Value rfl rfl rfl rfl ⟨_, rfl⟩ ⟨_, _, rfl, Nat.le_refl _, Nat.le_refl _⟩ (.inr (by simp)) (Nat.zero_le _) (Nat.le_refl _) rfl rfl (hn := ?_)
  refine LWo.assign _ rfl (hn := ?_)
  refine LWo.nil (hN2 _ ?_)
  refine LWP.ret (QRet.own1 (.inr rfl) rfl rfl rfl rfl (by simp) ⟨?_, rfl⟩)
  clear hN1 hN2
  exact congrArg (fun l => LV.nw 1 l false) (by simp)
def m_slices_Clip_LLimpl_Value_Limpl_Value_o (o0 : List (List S_impl_Value)) : Option (List (List S_impl_Value)) := some o0
theorem c_slices_Clip_LLimpl_Value_Limpl_Value_o (o0 : List (List S_impl_Value)) (r : List (List S_impl_Value)) (h : m_slices_Clip_LLimpl_Value_Limpl_Value_o o0 = some r) : Does Try.prog f_slices_Clip_LLimpl_Value_Limpl_Value [.own 0 0 o0.length] [(0, lob 1 e_Limpl_Value o0)] (fun x hh => x = .nw 1 (r.map e_Limpl_Value) false ∧ hh = []) := by
  cases h
  have := cc_slices_Clip_LLimpl_Value_Limpl_Value (o0.map e_Limpl_Value)
  rw [List.length_map] at this
  exact this



theorem ccd_slices_Clip_LLimpl_Value_Limpl_Value (xs : List LV) : Does Try.prog f_slices_Clip_LLimpl_Value_Limpl_Value [.own 0 0 xs.length] [(0, { kind := .deep, sz := 1, elems := xs })] (fun r h => r = .nw 1 xs true ∧ h = []) := by
  refine Does.go [0] F_slices_Clip_LLimpl_Value_Limpl_Value rfl e_slices_Clip_LLimpl_Value_Limpl_Value n_slices_Clip_LLimpl_Value_Limpl_Value rfl (ts := [2]) rfl rfl rfl ?_
  intro w0 ok0 lent ρ0
  refine LWP.seq_k fun N1 hN1 => ?_
  refine LWP.region (l := [_]) ?_
  refine LWo.assign _ rfl (hn := ?_)
  refine LWo.nil (hN1 _ ?_)
  refine LWP.seq_k fun N2 hN2 => ?_
  refine LWP.region (l := [_,_,_,_,_,_,_]) ?_
  refine LWo.move _ rfl (hn := ?_)
  refine LWo.move _ rfl (hn := ?_)
  refine LWo.len u_LLimpl_Value rfl (hn := ?_)
  refine LWo.move _ rfl (hn := ?_)
  refine LWo.len u_LLimpl_Value rfl (hn := ?_)
  refine LWo.cutOwn (l := 0) (h := xs.length) u_LLimpl_Value s_Limpl_Value rfl rfl rfl rfl ⟨_, rfl⟩ ⟨_, _, rfl, Nat.le_refl _, Nat.le_refl _⟩ (.inr (by simp)) (Nat.zero_le _) (Nat.le_refl _) rfl rfl (hn := ?_)
  refine LWo.assign _ rfl (hn := ?_)
  refine LWo.nil (hN2 _ ?_)
  refine LWP.ret (QRet.own1D (.inr rfl) rfl rfl rfl rfl (by simp) ⟨?_, rfl⟩)
  clear hN1 hN2
  exact congrArg (fun l => LV.nw 1 l true) (by simp)
def m_slices_Clip_LLimpl_Value_Limpl_Value_d (o0 : List (List S_impl_Value)) : Option (List (List S_impl_Value)) := some o0
theorem c_slices_Clip_LLimpl_Value_Limpl_Value_d (o0 : List (List S_impl_Value)) (r : List (List S_impl_Value)) (h : m_slices_Clip_LLimpl_Value_Limpl_Value_d o0 = some r) : Does Try.prog f_slices_Clip_LLimpl_Value_Limpl_Value [.own 0 0 o0.length] [(0, dob 1 e_Limpl_Value o0)] (fun x hh => x = .nw 1 (r.map e_Limpl_Value) true ∧ hh = []) := by
  cases h
  have := ccd_slices_Clip_LLimpl_Value_Limpl_Value (o0.map e_Limpl_Value)
  rw [List.length_map] at this
  exact this



def m_slices_Clip_LLimpl_Value_Limpl_Value (a0 : (List (List S_impl_Value))) : Option (List (List S_impl_Value)) :=
  (cut3? a0 (0 : Int) (a0.length : Int) (a0.length : Int)).bind fun x3 =>
  some x3
theorem c_slices_Clip_LLimpl_Value_Limpl_Value (a0 : (List (List S_impl_Value))) (r : (List (List S_impl_Value))) (h : m_slices_Clip_LLimpl_Value_Limpl_Value a0 = some r) : Ret Try.prog f_slices_Clip_LLimpl_Value_Limpl_Value [e_LLimpl_Value a0] (e_LLimpl_Value r) := by
  refine Does.goG [] F_slices_Clip_LLimpl_Value_Limpl_Value rfl e_slices_Clip_LLimpl_Value_Limpl_Value n_slices_Clip_LLimpl_Value_Limpl_Value rfl (rvs := [.tmp 2]) rfl rfl ?_
  intro w0 ok0 lent ρ0
  refine LWP.seq_k fun N1 hN1 => ?_
  refine LWP.region (l := [_]) ?_
  refine LWo.assign _ rfl (hn := ?_)
  refine LWo.weakT 2 (e_LLimpl_Value ([] : (List (List S_impl_Value)))) rfl .nil ?_
  refine LWo.nil (hN1 _ ?_)
  refine LWP.seq_k fun N2 hN2 => ?_
  refine LWP.region (l := [_,_,_,_,_,_,_]) ?_
  refine LWo.move (e_LLimpl_Value a0) rfl (hn := ?_)
  refine LWo.move (e_LLimpl_Value a0) rfl (hn := ?_)
  refine LWo.lenM (f := e_Limpl_Value) (l := a0) u_LLimpl_Value rfl (hn := ?_)
  refine LWo.move (e_LLimpl_Value a0) rfl (hn := ?_)
  refine LWo.lenM (f := e_Limpl_Value) (l := a0) u_LLimpl_Value rfl (hn := ?_)
  refine bk h fun x3 e3 h => ?_
  refine LWo.cutM3 (f := e_Limpl_Value) e3 u_LLimpl_Value s_Limpl_Value rfl rfl ⟨_, rfl⟩ ⟨_, rfl⟩ (hn := ?_)
  refine LWo.assign (e_LLimpl_Value x3) rfl (hn := ?_)
  refine LWo.nil (hN2 _ ?_)
  obtain rfl := Option.some.inj h
  refine LWP.ret (QG.mk (.inr rfl) (.cons (.tmp (x := (e_LLimpl_Value x3)) rfl) (.nil)) (RetOK.one0 (.pure rfl) (by decide)) rfl rfl)

def m_impl_rowsCopy_j1 (o1003 : (List (List S_impl_Value))) : Option (List (List S_impl_Value)) :=
  (m_slices_Clip_LLimpl_Value_Limpl_Value_d o1003).bind fun x17 =>
  some x17
def m_impl_rowsCopy_l1 : Nat → (List (List S_impl_Value)) → Int → Int → (List (List S_impl_Value)) → Option (List (List S_impl_Value))
  | 0, _, _, _, _ => none
  | n1 + 1, t6, t7, t8, o1003 =>
    bif decide (t8 < t7) then ((at? t6 t8).bind fun x12 =>
    (m_impl_clone_impl_Value x12).bind fun x13 =>
    (app? o1003 ([x13] : (List (List S_impl_Value)))).bind fun x14 =>
    (ckI (t8 + (1 : Int))).bind fun x15 =>
    (m_impl_rowsCopy_l1  n1) t6 t7 x15 x14)
    else (m_impl_rowsCopy_j1  o1003)
def m_impl_rowsCopy (a0 : (List (List S_impl_Value))) : Option (List (List S_impl_Value)) :=
  m_impl_rowsCopy_l1  (((a0.length : Int) - (0 : Int)).toNat + 1) a0 (a0.length : Int) (0 : Int) ([] : (List (List S_impl_Value)))
theorem c_impl_rowsCopy (a0 : (List (List S_impl_Value))) (r : (List (List S_impl_Value))) (h : m_impl_rowsCopy a0 = some r) : Ret Try.prog f_impl_rowsCopy [e_LLimpl_Value a0] (.nw 1 (r.map e_Limpl_Value) true) := by
  refine Does.goG [] F_impl_rowsCopy rfl e_impl_rowsCopy n_impl_rowsCopy rfl (rvs := [.tmp 2]) rfl rfl ?_
  intro w0 ok0 lent ρ0
  refine LWP.seq_k fun N1 hN1 => ?_
  refine LWP.region (l := [_]) ?_
  refine LWo.assign _ rfl (hn := ?_)
  refine LWo.ownNil 2 1002 1 rfl rfl rfl ?_
  refine LWo.deep0 (sz := 1) e_Limpl_Value 1002 rfl ?_
  refine LWo.known 2 (.own 1002 0 ([] : (List (List S_impl_Value))).length) rfl ?_
  refine LWo.nil (hN1 _ ?_)
  refine LWP.seq_k fun N2 hN2 => ?_
  refine LWP.region (l := [_]) ?_
  refine LWo.assign _ rfl (hn := ?_)
  refine LWo.ownNil 3 1003 1 rfl rfl rfl ?_
  refine LWo.deep0 (sz := 1) e_Limpl_Value 1003 rfl ?_
  refine LWo.known 3 (.own 1003 0 ([] : (List (List S_impl_Value))).length) rfl ?_
  refine LWo.nil (hN2 _ ?_)
  refine LWP.join (α := (List (List S_impl_Value))) (fun z : (List (List S_impl_Value)) => [(3, (.own 1003 0 (z).length))]) (fun z : (List (List S_impl_Value)) => [(1003, (dob 1 e_Limpl_Value z))]) (fun z : (List (List S_impl_Value)) => m_impl_rowsCopy_j1  z) r (fun _ => by simp [hkeys]) ?_ ?_
  ·rintro o1003 h
   replace h : m_impl_rowsCopy_j1  o1003 = some _ := h
   refine LWP.seq_k fun N16 hN16 => ?_
   refine LWP.region (l := [_,_,_]) ?_
   refine LWo.move (.own 1003 0 (o1003).length) rfl (hn := ?_)
   refine bk h fun x17 e17 h => ?_
   refine LWo.tcallND (e := e_Limpl_Value) (e' := e_Limpl_Value) 1019 rfl rfl (c_slices_Clip_LLimpl_Value_Limpl_Value_d _ _ e17) (fun _ => rfl) rfl rfl rfl rfl (hn := ?_)
   refine LWo.assign (.own 1019 0 (x17).length) rfl (hn := ?_)
   refine LWo.nil (hN16 _ ?_)
   obtain rfl := Option.some.inj h
   refine LWP.ret (QG.mk (.inr rfl) (.cons (.tmp (x := (.own 1019 0 (x17).length)) rfl) (.nil)) (RetOK.one0 (.nwD rfl rfl) (by decide)) rfl rfl)
  ·intro N3 hN3
   refine LWP.seq_k fun N4 hN4 => ?_
   refine LWP.region (l := [_,_,_]) ?_
   refine LWo.move (e_LLimpl_Value a0) rfl (hn := ?_)
   refine LWo.lenM (f := e_Limpl_Value) (l := a0) u_LLimpl_Value rfl (hn := ?_)
   refine LWo.move (e_int (0 : Int)) rfl (hn := ?_)
   refine LWo.nil (hN4 _ ?_)
   refine LWP.block ?_
   refine LWP.loopM (α := (List (List S_impl_Value)) × Int × Int × (List (List S_impl_Value))) (fun z : (List (List S_impl_Value)) × Int × Int × (List (List S_impl_Value)) => [(3, (.own 1003 0 (z.2.2.2).length)), (6, (e_LLimpl_Value z.1)), (7, (e_int z.2.1)), (8, (e_int z.2.2.1))]) (fun z : (List (List S_impl_Value)) × Int × Int × (List (List S_impl_Value)) => [(1003, (dob 1 e_Limpl_Value z.2.2.2))]) (fun n1 (z : (List (List S_impl_Value)) × Int × Int × (List (List S_impl_Value))) => m_impl_rowsCopy_l1  n1 z.1 z.2.1 z.2.2.1 z.2.2.2) r _ (a0, (a0.length : Int), (0 : Int), ([] : (List (List S_impl_Value)))) h (fun _ => rfl) (fun _ => by simp [hkeys]) ⟨rfl, rfl, rfl, rfl, trivial⟩ ⟨rfl, trivial⟩ ?_
   rintro n1 ⟨t6, t7, t8, o1003⟩ h N5 hN5
   replace h : m_impl_rowsCopy_l1  (n1 + 1) t6 t7 t8 o1003 = some _ := h
   refine LWP.seq_k fun N7 hN7 => ?_
   refine LWP.region (l := [_]) ?_
   refine LWo.int _ rfl rfl rfl (hn := ?_)
   refine LWo.nil (hN7 _ ?_)
   refine LWP.seq_k fun N8 hN8 => ?_
   refine LWP.cond_split rfl (fun h9 => ?_) (fun h9 => ?_)
   ·have h := bT h9 h
    refine LWP.skip (hN8 _ ?_)
    refine LWP.seq_k fun N10 hN10 => ?_
    refine LWP.block ?_
    refine LWP.seq_k fun N11 hN11 => ?_
    refine LWP.region (l := [_,_,_]) ?_
    refine bk h fun x12 e12 h => ?_
    refine LWo.indexM (f := e_Limpl_Value) e12 u_LLimpl_Value s_Limpl_Value rfl rfl (hn := ?_)
    refine LWo.load1 (c := (e_Limpl_Value x12)) g_Limpl_Value rfl (hn := ?_)
    refine LWo.assign (e_Limpl_Value x12) rfl (hn := ?_)
    refine LWo.nil (hN11 _ ?_)
    refine LWP.region (l := [_,_,_,_,_,_]) ?_
    refine LWo.move (.own 1003 0 (o1003).length) rfl (hn := ?_)
    refine LWo.move (e_Limpl_Value x12) rfl (hn := ?_)
    refine bk h fun x13 e13 h => ?_
    refine LWo.ncall (e := e_impl_Value) 1014 rfl rfl (c_impl_clone_impl_Value _ _ e13) (.same (.nil)) rfl (hn := ?_)
    refine LWo.lit1D (ks := [1014]) (f := e_Limpl_Value) (v := (.own 1014 0 (x13).length)) 1015 (x13 : (List S_impl_Value)) u_LLimpl_Value s_Limpl_Value z_Limpl_Value rfl rfl rfl rfl rfl rfl rfl rfl (.cons (.own (obj := (lob 3 e_impl_Value x13)) rfl rfl (.inl ⟨rfl, immL_map (e := e_impl_Value) (fun _ => rfl) _⟩) (List.length_map _).symm) .nil) (by decide) rfl (hn := ?_)
    refine bk h fun x14 e14 h => ?_
    refine LWo.appendDM (f := e_Limpl_Value) e14 rfl rfl u_LLimpl_Value u_LLimpl_Value (fun _ h => by cases h) s_Limpl_Value i_Limpl_Value rfl rfl rfl rfl rfl rfl rfl rfl (hn := ?_)
    refine LWo.assign (.own 1003 0 (x14).length) rfl (hn := ?_)
    refine LWo.nil (hN10 _ ?_)
    refine LWP.region (l := [_,_]) ?_
    refine bk h fun x15 e15 h => ?_
    refine LWo.int _ rfl rfl (add_ck e15) (hn := ?_)
    refine LWo.move (e_int x15) rfl (hn := ?_)
    refine LWo.nil (hN5 (t6, t7, x15, x14) _ ⟨rfl, rfl, rfl, rfl, trivial⟩ ⟨rfl, trivial⟩ h)
   ·have h := bF h9 h
    refine LWP.exit (hN3 o1003 _ ⟨rfl, trivial⟩ ⟨rfl, trivial⟩ h)

def m_impl_RowsSorted_j4 (o1003 : (List (List S_impl_Value))) : Option (List (List S_impl_Value)) :=
  (m_impl_rowsCopy o1003).bind fun x29 =>
  some x29
def m_impl_RowsSorted_j3 (k1 : (List (List S_impl_Value)) → Int → Int → (List (List S_impl_Value)) → Option (List (List S_impl_Value))) (t7 : (List (List S_impl_Value))) (t8 : Int) (t9 : Int) (o1033 : (List (List S_impl_Value))) : Option (List (List S_impl_Value)) :=
  (ckI (t9 + (1 : Int))).bind fun x27 =>
  k1 t7 t8 x27 o1033
def m_impl_RowsSorted_j2 (k1 : (List (List S_impl_Value)) → Int → Int → (List (List S_impl_Value)) → Option (List (List S_impl_Value))) (t5 : (List S_impl_Value)) (t6 : Int) (t7 : (List (List S_impl_Value))) (t8 : Int) (t9 : Int) (o1003 : (List (List S_impl_Value))) : Option (List (List S_impl_Value)) :=
  (m_slices_Insert_LLimpl_Value_Limpl_Value o1003 t6 ([t5] : (List (List S_impl_Value)))).bind fun x26 =>
  m_impl_RowsSorted_j3  k1 t7 t8 t9 x26
def m_impl_RowsSorted_j1 (k1 : (List (List S_impl_Value)) → Int → Int → (List (List S_impl_Value)) → Option (List (List S_impl_Value))) (k2 : (List S_impl_Value) → Int → (List (List S_impl_Value)) → Int → Int → (List (List S_impl_Value)) → Option (List (List S_impl_Value))) (t5 : (List S_impl_Value)) (t6 : Int) (t7 : (List (List S_impl_Value))) (t8 : Int) (t9 : Int) (t26 : Bool) (o1003 : (List (List S_impl_Value))) : Option (List (List S_impl_Value)) :=
  bif t26 then ((ckI (t6 - (1 : Int))).bind fun x25 =>
  k2 t5 x25 t7 t8 t9 o1003)
  else (m_impl_RowsSorted_j2  k1 t5 t6 t7 t8 t9 o1003)
def m_impl_RowsSorted_l2 (k1 : (List (List S_impl_Value)) → Int → Int → (List (List S_impl_Value)) → Option (List (List S_impl_Value))) : Nat → (List S_impl_Value) → Int → (List (List S_impl_Value)) → Int → Int → (List (List S_impl_Value)) → Option (List (List S_impl_Value))
  | 0, _, _, _, _, _, _ => none
  | n2 + 1, t5, t6, t7, t8, t9, o1003 =>
    bif decide (t6 > (0 : Int)) then ((ckI (t6 - (1 : Int))).bind fun x20 =>
      (at? o1003 x20).bind fun x21 =>
      (at? o1003 x20).bind fun x22 =>
      (m_impl_RowOrder x22 t5).bind fun x23 =>
      m_impl_RowsSorted_j1  k1 (m_impl_RowsSorted_l2  k1 n2) t5 t6 t7 t8 t9 (decide (x23 > (0 : Int))) o1003)
    else (m_impl_RowsSorted_j1  k1 (m_impl_RowsSorted_l2  k1 n2) t5 t6 t7 t8 t9 false o1003)
def m_impl_RowsSorted_l1 : Nat → (List (List S_impl_Value)) → Int → Int → (List (List S_impl_Value)) → Option (List (List S_impl_Value))
  | 0, _, _, _, _ => none
  | n1 + 1, t7, t8, t9, o1003 =>
    bif decide (t9 < t8) then ((at? t7 t9).bind fun x12 =>
    m_impl_RowsSorted_l2  (m_impl_RowsSorted_l1  n1) (1000000000) x12 (o1003.length : Int) t7 t8 t9 o1003)
    else (m_impl_RowsSorted_j4  o1003)
def m_impl_RowsSorted (a0 : (List (List S_impl_Value))) : Option (List (List S_impl_Value)) :=
  m_impl_RowsSorted_l1  (((a0.length : Int) - (0 : Int)).toNat + 1) a0 (a0.length : Int) (0 : Int) ([] : (List (List S_impl_Value)))
theorem c_impl_RowsSorted (a0 : (List (List S_impl_Value))) (r : (List (List S_impl_Value))) (h : m_impl_RowsSorted a0 = some r) : Ret Try.prog f_impl_RowsSorted [e_LLimpl_Value a0] (.nw 1 (r.map e_Limpl_Value) true) := by
  refine Does.goG [] F_impl_RowsSorted rfl e_impl_RowsSorted n_impl_RowsSorted rfl (rvs := [.tmp 2]) rfl rfl ?_
  intro w0 ok0 lent ρ0
  refine LWP.seq_k fun N1 hN1 => ?_
  refine LWP.region (l := [_]) ?_
  refine LWo.assign _ rfl (hn := ?_)
  refine LWo.ownNil 2 1002 1 rfl rfl rfl ?_
  refine LWo.known 2 (.own 1002 0 ([] : (List (List S_impl_Value))).length) rfl ?_
  refine LWo.nil (hN1 _ ?_)
  refine LWP.seq_k fun N2 hN2 => ?_
  refine LWP.region (l := [_]) ?_
  refine LWo.assign _ rfl (hn := ?_)
  refine LWo.ownNil 3 1003 1 rfl rfl rfl ?_
  refine LWo.known 3 (.own 1003 0 ([] : (List (List S_impl_Value))).length) rfl ?_
  refine LWo.nil (hN2 _ ?_)
  refine LWP.join (α := (List (List S_impl_Value))) (fun z : (List (List S_impl_Value)) => [(3, (.own 1003 0 (z).length))]) (fun z : (List (List S_impl_Value)) => [(1003, (lob 1 e_Limpl_Value z))]) (fun z : (List (List S_impl_Value)) => m_impl_RowsSorted_j4  z) r (fun _ => by simp [hkeys]) ?_ ?_
  ·rintro o1003 h
   replace h : m_impl_RowsSorted_j4  o1003 = some _ := h
   refine LWP.seq_k fun N28 hN28 => ?_
   refine LWP.region (l := [_,_,_]) ?_
   refine LWo.move (.own 1003 0 (o1003).length) rfl (hn := ?_)
   refine bk h fun x29 e29 h => ?_
   refine LWo.ncallD (e := e_Limpl_Value) 1036 rfl rfl (c_impl_rowsCopy _ _ e29) (.viewM rfl rfl rfl (.nil)) rfl (hn := ?_)
   refine LWo.assign (.own 1036 0 (x29).length) rfl (hn := ?_)
   refine LWo.nil (hN28 _ ?_)
   obtain rfl := Option.some.inj h
   refine LWP.ret (QG.mk (.inr rfl) (.cons (.tmp (x := (.own 1036 0 (x29).length)) rfl) (.nil)) (RetOK.one0 (.nwD rfl rfl) (by decide)) rfl rfl)
  ·intro N3 hN3
   refine LWP.seq_k fun N4 hN4 => ?_
   refine LWP.region (l := [_,_,_]) ?_
   refine LWo.move (e_LLimpl_Value a0) rfl (hn := ?_)
   refine LWo.lenM (f := e_Limpl_Value) (l := a0) u_LLimpl_Value rfl (hn := ?_)
   refine LWo.move (e_int (0 : Int)) rfl (hn := ?_)
   refine LWo.nil (hN4 _ ?_)
   refine LWP.block ?_
   refine LWP.loopM (α := (List (List S_impl_Value)) × Int × Int × (List (List S_impl_Value))) (fun z : (List (List S_impl_Value)) × Int × Int × (List (List S_impl_Value)) => [(3, (.own 1003 0 (z.2.2.2).length)), (7, (e_LLimpl_Value z.1)), (8, (e_int z.2.1)), (9, (e_int z.2.2.1))]) (fun z : (List (List S_impl_Value)) × Int × Int × (List (List S_impl_Value)) => [(1003, (lob 1 e_Limpl_Value z.2.2.2))]) (fun n1 (z : (List (List S_impl_Value)) × Int × Int × (List (List S_impl_Value))) => m_impl_RowsSorted_l1  n1 z.1 z.2.1 z.2.2.1 z.2.2.2) r _ (a0, (a0.length : Int), (0 : Int), ([] : (List (List S_impl_Value)))) h (fun _ => rfl) (fun _ => by simp [hkeys]) ⟨rfl, rfl, rfl, rfl, trivial⟩ ⟨rfl, trivial⟩ ?_
   rintro n1 ⟨t7, t8, t9, o1003⟩ h N5 hN5
   replace h : m_impl_RowsSorted_l1  (n1 + 1) t7 t8 t9 o1003 = some _ := h
   refine LWP.seq_k fun N7 hN7 => ?_
   refine LWP.region (l := [_]) ?_
   refine LWo.int _ rfl rfl rfl (hn := ?_)
   refine LWo.nil (hN7 _ ?_)
   refine LWP.seq_k fun N8 hN8 => ?_
   refine LWP.cond_split rfl (fun h9 => ?_) (fun h9 => ?_)
   ·have h := bT h9 h
    refine LWP.skip (hN8 _ ?_)
    refine LWP.join (α := (List (List S_impl_Value)) × Int × Int × (List (List S_impl_Value))) (fun z : (List (List S_impl_Value)) × Int × Int × (List (List S_impl_Value)) => [(3, (.own 1033 0 (z.2.2.2).length)), (7, (e_LLimpl_Value z.1)), (8, (e_int z.2.1)), (9, (e_int z.2.2.1))]) (fun z : (List (List S_impl_Value)) × Int × Int × (List (List S_impl_Value)) => [(1033, (lob 1 e_Limpl_Value z.2.2.2))]) (fun z : (List (List S_impl_Value)) × Int × Int × (List (List S_impl_Value)) => m_impl_RowsSorted_j3  (m_impl_RowsSorted_l1  n1) z.1 z.2.1 z.2.2.1 z.2.2.2) r (fun _ => by simp [hkeys]) ?_ ?_
    ·rintro ⟨t7, t8, t9, o1033⟩ h
     replace h : m_impl_RowsSorted_j3  (m_impl_RowsSorted_l1  n1) t7 t8 t9 o1033 = some _ := h
     refine LWP.region (l := [_,_]) ?_
     refine bk h fun x27 e27 h => ?_
     refine LWo.int _ rfl rfl (add_ck e27) (hn := ?_)
     refine LWo.move (e_int x27) rfl (hn := ?_)
     refine LWo.rekey 3 1033 1003 rfl rfl rfl rfl rfl rfl ?_
     refine LWo.nil (hN5 (t7, t8, x27, o1033) _ ⟨rfl, rfl, rfl, rfl, trivial⟩ ⟨rfl, trivial⟩ h)
    ·intro N10 hN10
     refine LWP.block ?_
     refine LWP.seq_k fun N11 hN11 => ?_
     refine LWP.region (l := [_,_,_]) ?_
     refine bk h fun x12 e12 h => ?_
     refine LWo.indexM (f := e_Limpl_Value) e12 u_LLimpl_Value s_Limpl_Value rfl rfl (hn := ?_)
     refine LWo.load1 (c := (e_Limpl_Value x12)) g_Limpl_Value rfl (hn := ?_)
     refine LWo.assign (e_Limpl_Value x12) rfl (hn := ?_)
     refine LWo.nil (hN11 _ ?_)
     refine LWP.seq_k fun N13 hN13 => ?_
     refine LWP.region (l := [_,_,_]) ?_
     refine LWo.move (.own 1003 0 (o1003).length) rfl (hn := ?_)
     refine LWo.lenO u_LLimpl_Value rfl (hn := ?_)
     refine LWo.assign (e_int (o1003.length : Int)) rfl (hn := ?_)
     refine LWo.nil (hN13 _ ?_)
     refine LWP.join (α := (List S_impl_Value) × Int × (List (List S_impl_Value)) × Int × Int × (List (List S_impl_Value))) (fun z : (List S_impl_Value) × Int × (List (List S_impl_Value)) × Int × Int × (List (List S_impl_Value)) => [(3, (.own 1003 0 (z.2.2.2.2.2).length)), (5, (e_Limpl_Value z.1)), (6, (e_int z.2.1)), (7, (e_LLimpl_Value z.2.2.1)), (8, (e_int z.2.2.2.1)), (9, (e_int z.2.2.2.2.1))]) (fun z : (List S_impl_Value) × Int × (List (List S_impl_Value)) × Int × Int × (List (List S_impl_Value)) => [(1003, (lob 1 e_Limpl_Value z.2.2.2.2.2))]) (fun z : (List S_impl_Value) × Int × (List (List S_impl_Value)) × Int × Int × (List (List S_impl_Value)) => m_impl_RowsSorted_j2  (m_impl_RowsSorted_l1  n1) z.1 z.2.1 z.2.2.1 z.2.2.2.1 z.2.2.2.2.1 z.2.2.2.2.2) r (fun _ => by simp [hkeys]) ?_ ?_
     ·rintro ⟨t5, t6, t7, t8, t9, o1003⟩ h
      replace h : m_impl_RowsSorted_j2  (m_impl_RowsSorted_l1  n1) t5 t6 t7 t8 t9 o1003 = some _ := h
      refine LWP.region (l := [_,_,_,_,_,_]) ?_
      refine LWo.move (.own 1003 0 (o1003).length) rfl (hn := ?_)
      refine LWo.move (e_int t6) rfl (hn := ?_)
      refine LWo.move (e_Limpl_Value t5) rfl (hn := ?_)
      refine LWo.lit (ops := [_]) [(e_Limpl_Value t5)] u_LLimpl_Value s_Limpl_Value z_Limpl_Value rfl rfl rfl rfl rfl rfl (hn := ?_)
      refine bk h fun x26 e26 h => ?_
      refine LWo.tcallN (e := e_Limpl_Value) (e' := e_Limpl_Value) 1033 rfl rfl (c_slices_Insert_LLimpl_Value_Limpl_Value _ _ _ _ e26) (fun _ => rfl) rfl rfl rfl rfl (hn := ?_)
      refine LWo.assign (.own 1033 0 (x26).length) rfl (hn := ?_)
      refine LWo.nil (hN10 (t7, t8, t9, x26) _ ⟨rfl, rfl, rfl, rfl, trivial⟩ ⟨rfl, trivial⟩ h)
     ·intro N14 hN14
      refine LWP.block ?_
      refine LWP.loopM (α := (List S_impl_Value) × Int × (List (List S_impl_Value)) × Int × Int × (List (List S_impl_Value))) (fun z : (List S_impl_Value) × Int × (List (List S_impl_Value)) × Int × Int × (List (List S_impl_Value)) => [(3, (.own 1003 0 (z.2.2.2.2.2).length)), (5, (e_Limpl_Value z.1)), (6, (e_int z.2.1)), (7, (e_LLimpl_Value z.2.2.1)), (8, (e_int z.2.2.2.1)), (9, (e_int z.2.2.2.2.1))]) (fun z : (List S_impl_Value) × Int × (List (List S_impl_Value)) × Int × Int × (List (List S_impl_Value)) => [(1003, (lob 1 e_Limpl_Value z.2.2.2.2.2))]) (fun n2 (z : (List S_impl_Value) × Int × (List (List S_impl_Value)) × Int × Int × (List (List S_impl_Value))) => m_impl_RowsSorted_l2  (m_impl_RowsSorted_l1  n1) n2 z.1 z.2.1 z.2.2.1 z.2.2.2.1 z.2.2.2.2.1 z.2.2.2.2.2) r _ (x12, (o1003.length : Int), t7, t8, t9, o1003) h (fun _ => rfl) (fun _ => by simp [hkeys]) ⟨rfl, rfl, rfl, rfl, rfl, rfl, trivial⟩ ⟨rfl, trivial⟩ ?_
      rintro n2 ⟨t5, t6, t7, t8, t9, o1003⟩ h N15 hN15
      replace h : m_impl_RowsSorted_l2  (m_impl_RowsSorted_l1  n1) (n2 + 1) t5 t6 t7 t8 t9 o1003 = some _ := h
      refine LWP.seq_k fun N17 hN17 => ?_
      refine LWP.join (α := (List S_impl_Value) × Int × (List (List S_impl_Value)) × Int × Int × Bool × (List (List S_impl_Value))) (fun z : (List S_impl_Value) × Int × (List (List S_impl_Value)) × Int × Int × Bool × (List (List S_impl_Value)) => [(3, (.own 1003 0 (z.2.2.2.2.2.2).length)), (5, (e_Limpl_Value z.1)), (6, (e_int z.2.1)), (7, (e_LLimpl_Value z.2.2.1)), (8, (e_int z.2.2.2.1)), (9, (e_int z.2.2.2.2.1)), (26, (e_bool z.2.2.2.2.2.1))]) (fun z : (List S_impl_Value) × Int × (List (List S_impl_Value)) × Int × Int × Bool × (List (List S_impl_Value)) => [(1003, (lob 1 e_Limpl_Value z.2.2.2.2.2.2))]) (fun z : (List S_impl_Value) × Int × (List (List S_impl_Value)) × Int × Int × Bool × (List (List S_impl_Value)) => m_impl_RowsSorted_j1  (m_impl_RowsSorted_l1  n1) (m_impl_RowsSorted_l2  (m_impl_RowsSorted_l1  n1) n2) z.1 z.2.1 z.2.2.1 z.2.2.2.1 z.2.2.2.2.1 z.2.2.2.2.2.1 z.2.2.2.2.2.2) r (fun _ => by simp [hkeys]) ?_ ?_
      ·rintro ⟨t5, t6, t7, t8, t9, t26, o1003⟩ h
       replace h : m_impl_RowsSorted_j1  (m_impl_RowsSorted_l1  n1) (m_impl_RowsSorted_l2  (m_impl_RowsSorted_l1  n1) n2) t5 t6 t7 t8 t9 t26 o1003 = some _ := h
       refine LWP.cond_split rfl (fun h24 => ?_) (fun h24 => ?_)
       ·have h := bT h24 h
        refine LWP.skip (hN17 _ ?_)
        refine LWP.block ?_
        refine LWP.region (l := [_,_,_]) ?_
        refine LWo.move (e_int t6) rfl (hn := ?_)
        refine bk h fun x25 e25 h => ?_
        refine LWo.int _ rfl rfl (sub_ck e25) (hn := ?_)
        refine LWo.assign (e_int x25) rfl (hn := ?_)
        refine LWo.nil (hN15 (t5, x25, t7, t8, t9, o1003) _ ⟨rfl, rfl, rfl, rfl, rfl, rfl, trivial⟩ ⟨rfl, trivial⟩ h)
       ·have h := bF h24 h
        refine LWP.exit (hN14 (t5, t6, t7, t8, t9, o1003) _ ⟨rfl, rfl, rfl, rfl, rfl, rfl, trivial⟩ ⟨rfl, trivial⟩ h)
      ·intro N18 hN18
       refine LWP.region (l := [_,_,_,_,_,_,_,_,_,_,_,_]) ?_
       refine LWo.move (e_int t6) rfl (hn := ?_)
       refine LWo.int _ rfl rfl rfl (hn := ?_)
       refine LWo.move (e_bool (decide (t6 > (0 : Int)))) rfl (hn := ?_)
       refine LWo.byCases (t := 17) _ rfl (fun h19 => ?_) (fun h19 => ?_)
       ·have h := bT h19 h
        refine LWo.guardY (t := 17) rfl h19 rfl rfl ?_
        refine LWo.move (.own 1003 0 (o1003).length) rfl (hn := ?_)
        refine LWo.guardY (t := 17) rfl h19 rfl rfl ?_
        refine LWo.move (e_int t6) rfl (hn := ?_)
        refine bk h fun x20 e20 h => ?_
        refine LWo.guardY (t := 17) rfl h19 rfl rfl ?_
        refine LWo.int _ rfl rfl (sub_ck e20) (hn := ?_)
        refine bk h fun x21 e21 h => ?_
        refine LWo.guardY (t := 17) rfl h19 rfl rfl ?_
        refine LWo.indexO e21 rfl u_LLimpl_Value s_Limpl_Value rfl rfl rfl (hn := ?_)
        refine bk h fun x22 e22 h => ?_
        refine LWo.guardY (t := 17) rfl h19 rfl rfl ?_
        refine LWo.loadO1 (e_Limpl_Value x22) e22 g_Limpl_Value rfl rfl rfl (hn := ?_)
        refine LWo.guardY (t := 17) rfl h19 rfl rfl ?_
        refine LWo.move (e_Limpl_Value t5) rfl (hn := ?_)
        refine bk h fun x23 e23 h => ?_
        refine LWo.guardY (t := 17) rfl h19 rfl rfl ?_
        refine LWo.vcall rfl rfl (c_impl_RowOrder _ _ _ e23) (.same (.same (.nil))) (hn := ?_)
        refine LWo.guardY (t := 17) rfl h19 rfl rfl ?_
        refine LWo.int _ rfl rfl rfl (hn := ?_)
        refine LWo.pickTM (e_bool (decide (x23 > (0 : Int)))) rfl h19 rfl (hn := ?_)
        refine LWo.nil (hN18 (t5, t6, t7, t8, t9, decide (x23 > (0 : Int)), o1003) _ ⟨rfl, rfl, rfl, rfl, rfl, rfl, rfl, trivial⟩ ⟨rfl, trivial⟩ h)
       ·have h := bF h19 h
        refine LWo.guardNU (t := 17) rfl h19 rfl rfl rfl rfl rfl ?_
        refine LWo.guardNU (t := 17) rfl h19 rfl rfl rfl rfl rfl ?_
        refine LWo.guardNU (t := 17) rfl h19 rfl rfl rfl rfl rfl ?_
        refine LWo.guardNU (t := 17) rfl h19 rfl rfl rfl rfl rfl ?_
        refine LWo.guardNU (t := 17) rfl h19 rfl rfl rfl rfl rfl ?_
        refine LWo.guardNU (t := 17) rfl h19 rfl rfl rfl rfl rfl ?_
        refine LWo.guardNU (t := 17) rfl h19 rfl rfl rfl rfl rfl ?_
        refine LWo.guardNU (t := 17) rfl h19 rfl rfl rfl rfl rfl ?_
        refine LWo.pickFM (e_bool false) rfl h19 rfl (hn := ?_)
        refine LWo.nil (hN18 (t5, t6, t7, t8, t9, false, o1003) _ ⟨rfl, rfl, rfl, rfl, rfl, rfl, rfl, trivial⟩ ⟨rfl, trivial⟩ h)
   ·have h := bF h9 h
    refine LWP.exit (hN3 o1003 _ ⟨rfl, trivial⟩ ⟨rfl, trivial⟩ h)

def m_impl_afterDeltas_j3 (o1012 : (List (List S_impl_Value))) : Option ((List (List S_impl_Value)) × Bool) :=
  (m_impl_RowsSorted o1012).bind fun x43 =>
  some (x43, true)
def m_impl_afterDeltas_j2 (k1 : (List S_impl_Delta) → Int → Int → (List (List S_impl_Value)) → Option ((List (List S_impl_Value)) × Bool)) (t13 : (List S_impl_Delta)) (t14 : Int) (t15 : Int) (o1012 : (List (List S_impl_Value))) : Option ((List (List S_impl_Value)) × Bool) :=
  (ckI (t15 + (1 : Int))).bind fun x41 =>
  k1 t13 t14 x41 o1012
def m_impl_afterDeltas_l3 (k1 : (List S_impl_Delta) → Int → Int → (List (List S_impl_Value)) → Option ((List (List S_impl_Value)) × Bool)) : Nat → Int → (List S_impl_Delta) → Int → Int → S_impl_Delta → (List (List S_impl_Value)) → Option ((List (List S_impl_Value)) × Bool)
  | 0, _, _, _, _, _, _ => none
  | n3 + 1, t9, t13, t14, t15, o8, o1012 =>
    bif decide (t9 < (0 : Int)) then ((m_slices_IndexFunc_LLimpl_Value_Limpl_Value o1012 (fun b0_ => m_impl_afterDeltas_1 b0_ o8)).bind fun x33 =>
    bif decide (x33 < (0 : Int)) then (some (([] : (List (List S_impl_Value))), false))
    else ((ckI (x33 + (1 : Int))).bind fun x38 =>
    (m_slices_Delete_LLimpl_Value_Limpl_Value o1012 x33 x38).bind fun x39 =>
    (ckI (t9 + (1 : Int))).bind fun x40 =>
    (m_impl_afterDeltas_l3  k1 n3) x40 t13 t14 t15 o8 x39))
    else (m_impl_afterDeltas_j2  k1 t13 t14 t15 o1012)
def m_impl_afterDeltas_j1 (k1 : (List S_impl_Delta) → Int → Int → (List (List S_impl_Value)) → Option ((List (List S_impl_Value)) × Bool)) (t13 : (List S_impl_Delta)) (t14 : Int) (t15 : Int) (o8 : S_impl_Delta) (o1012 : (List (List S_impl_Value))) : Option ((List (List S_impl_Value)) × Bool) :=
  m_impl_afterDeltas_l3  k1 (((0 : Int) - o8.Many).toNat + 1) o8.Many t13 t14 t15 o8 o1012
def m_impl_afterDeltas_l2 (k1 : (List S_impl_Delta) → Int → Int → (List (List S_impl_Value)) → Option ((List (List S_impl_Value)) × Bool)) : Nat → (List S_impl_Delta) → Int → Int → Int → Int → S_impl_Delta → (List (List S_impl_Value)) → Option ((List (List S_impl_Value)) × Bool)
  | 0, _, _, _, _, _, _, _ => none
  | n2 + 1, t13, t14, t15, t20, t21, o8, o1012 =>
    bif decide (t21 < t20) then ((app? o1012 ([o8.Row] : (List (List S_impl_Value)))).bind fun x23 =>
    (ckI (t21 + (1 : Int))).bind fun x24 =>
    (m_impl_afterDeltas_l2  k1 n2) t13 t14 t15 t20 x24 o8 x23)
    else (m_impl_afterDeltas_j1  k1 t13 t14 t15 o8 o1012)
def m_impl_afterDeltas_l1 : Nat → (List S_impl_Delta) → Int → Int → (List (List S_impl_Value)) → Option ((List (List S_impl_Value)) × Bool)
  | 0, _, _, _, _ => none
  | n1 + 1, t13, t14, t15, o1012 =>
    bif decide (t15 < t14) then ((at? t13 t15).bind fun x13 =>
    lt (x13) fun y14 =>
    m_impl_afterDeltas_l2  (m_impl_afterDeltas_l1  n1) ((y14.Many - (0 : Int)).toNat + 1) t13 t14 t15 y14.Many (0 : Int) y14 o1012)
    else (m_impl_afterDeltas_j3  o1012)
def m_impl_afterDeltas (a0 : (List (List S_impl_Value))) (a1 : (List S_impl_Delta)) : Option ((List (List S_impl_Value)) × Bool) :=
  (m_slices_Clone_LLimpl_Value_Limpl_Value a0).bind fun x3 =>
  m_impl_afterDeltas_l1  (((a1.length : Int) - (0 : Int)).toNat + 1) a1 (a1.length : Int) (0 : Int) x3
theorem c_impl_afterDeltas (a0 : (List (List S_impl_Value))) (a1 : (List S_impl_Delta)) (r : ((List (List S_impl_Value)) × Bool)) (h : m_impl_afterDeltas a0 a1 = some r) : Ret Try.prog f_impl_afterDeltas [e_LLimpl_Value a0, e_Limpl_Delta a1] (.tup [.nw 1 (r.1.map e_Limpl_Value) true, e_bool r.2]) := by
  refine Does.goG [] F_impl_afterDeltas rfl e_impl_afterDeltas n_impl_afterDeltas rfl (rvs := [.tmp 4, .tmp 5]) rfl rfl ?_
  intro w0 ok0 lent ρ0
  refine LWP.seq_k fun N1 hN1 => ?_
  refine LWP.region (l := [_,_]) ?_
  refine LWo.assign _ rfl (hn := ?_)
  refine LWo.ownNil 4 1004 1 rfl rfl rfl ?_
  refine LWo.known 4 (.own 1004 0 ([] : (List (List S_impl_Value))).length) rfl ?_
  refine LWo.assign (e_bool false) rfl (hn := ?_)
  refine LWo.nil (hN1 _ ?_)
  refine LWP.seq_k fun N2 hN2 => ?_
  refine LWP.region (l := [_,_,_]) ?_
  refine LWo.move (e_LLimpl_Value a0) rfl (hn := ?_)
  refine bk h fun x3 e3 h => ?_
  refine LWo.ncall (e := e_Limpl_Value) 1012 rfl rfl (c_slices_Clone_LLimpl_Value_Limpl_Value _ _ e3) (.same (.nil)) rfl (hn := ?_)
  refine LWo.assign (.own 1012 0 (x3).length) rfl (hn := ?_)
  refine LWo.nil (hN2 _ ?_)
  refine LWP.join (α := (List (List S_impl_Value))) (fun z : (List (List S_impl_Value)) => [(6, (.own 1012 0 (z).length))]) (fun z : (List (List S_impl_Value)) => [(1012, (lob 1 e_Limpl_Value z))]) (fun z : (List (List S_impl_Value)) => m_impl_afterDeltas_j3  z) r (fun _ => by simp [hkeys]) ?_ ?_
  ·rintro o1012 h
   replace h : m_impl_afterDeltas_j3  o1012 = some _ := h
   refine LWP.seq_k fun N42 hN42 => ?_
   refine LWP.region (l := [_,_,_,_]) ?_
   refine LWo.move (.own 1012 0 (o1012).length) rfl (hn := ?_)
   refine bk h fun x43 e43 h => ?_
   refine LWo.ncallD (e := e_Limpl_Value) 1047 rfl rfl (c_impl_RowsSorted _ _ e43) (.viewM rfl rfl rfl (.nil)) rfl (hn := ?_)
   refine LWo.assign (.own 1047 0 (x43).length) rfl (hn := ?_)
   refine LWo.assign (e_bool true) rfl (hn := ?_)
   refine LWo.nil (hN42 _ ?_)
   obtain rfl := Option.some.inj h
   refine LWP.ret (QG.mk (.inr rfl) (.cons (.tmp (x := (.own 1047 0 (x43).length)) rfl) (.cons (.tmp (x := (e_bool true)) rfl) (.nil))) (RetOK.many0 (.cons (.nwD rfl rfl) (.cons (.pure rfl) (.nil))) (by simp) (by decide)) rfl rfl)
  ·intro N4 hN4
   refine LWP.seq_k fun N5 hN5 => ?_
   refine LWP.region (l := [_,_,_]) ?_
   refine LWo.move (e_Limpl_Delta a1) rfl (hn := ?_)
   refine LWo.lenM (f := e_impl_Delta) (l := a1) u_Limpl_Delta rfl (hn := ?_)
   refine LWo.move (e_int (0 : Int)) rfl (hn := ?_)
   refine LWo.nil (hN5 _ ?_)
   refine LWP.block ?_
   refine LWP.loopM (α := (List S_impl_Delta) × Int × Int × (List (List S_impl_Value))) (fun z : (List S_impl_Delta) × Int × Int × (List (List S_impl_Value)) => [(6, (.own 1012 0 (z.2.2.2).length)), (13, (e_Limpl_Delta z.1)), (14, (e_int z.2.1)), (15, (e_int z.2.2.1))]) (fun z : (List S_impl_Delta) × Int × Int × (List (List S_impl_Value)) => [(1012, (lob 1 e_Limpl_Value z.2.2.2))]) (fun n1 (z : (List S_impl_Delta) × Int × Int × (List (List S_impl_Value))) => m_impl_afterDeltas_l1  n1 z.1 z.2.1 z.2.2.1 z.2.2.2) r _ (a1, (a1.length : Int), (0 : Int), x3) h (fun _ => rfl) (fun _ => by simp [hkeys]) ⟨rfl, rfl, rfl, rfl, trivial⟩ ⟨rfl, trivial⟩ ?_
   rintro n1 ⟨t13, t14, t15, o1012⟩ h N6 hN6
   replace h : m_impl_afterDeltas_l1  (n1 + 1) t13 t14 t15 o1012 = some _ := h
   refine LWP.seq_k fun N8 hN8 => ?_
   refine LWP.region (l := [_]) ?_
   refine LWo.int _ rfl rfl rfl (hn := ?_)
   refine LWo.nil (hN8 _ ?_)
   refine LWP.seq_k fun N9 hN9 => ?_
   refine LWP.cond_split rfl (fun h10 => ?_) (fun h10 => ?_)
   ·have h := bT h10 h
    refine LWP.skip (hN9 _ ?_)
    refine LWP.join (α := (List S_impl_Delta) × Int × Int × (List (List S_impl_Value))) (fun z : (List S_impl_Delta) × Int × Int × (List (List S_impl_Value)) => [(6, (.own 1012 0 (z.2.2.2).length)), (13, (e_Limpl_Delta z.1)), (14, (e_int z.2.1)), (15, (e_int z.2.2.1))]) (fun z : (List S_impl_Delta) × Int × Int × (List (List S_impl_Value)) => [(1012, (lob 1 e_Limpl_Value z.2.2.2))]) (fun z : (List S_impl_Delta) × Int × Int × (List (List S_impl_Value)) => m_impl_afterDeltas_j2  (m_impl_afterDeltas_l1  n1) z.1 z.2.1 z.2.2.1 z.2.2.2) r (fun _ => by simp [hkeys]) ?_ ?_
    ·rintro ⟨t13, t14, t15, o1012⟩ h
     replace h : m_impl_afterDeltas_j2  (m_impl_afterDeltas_l1  n1) t13 t14 t15 o1012 = some _ := h
     refine LWP.region (l := [_,_]) ?_
     refine bk h fun x41 e41 h => ?_
     refine LWo.int _ rfl rfl (add_ck e41) (hn := ?_)
     refine LWo.move (e_int x41) rfl (hn := ?_)
     refine LWo.nil (hN6 (t13, t14, x41, o1012) _ ⟨rfl, rfl, rfl, rfl, trivial⟩ ⟨rfl, trivial⟩ h)
    ·intro N11 hN11
     refine LWP.block ?_
     refine LWP.seq_k fun N12 hN12 => ?_
     refine LWP.region (l := [_,_,_,_]) ?_
     refine bk h fun x13 e13 h => ?_
     refine LWo.indexM (f := e_impl_Delta) e13 u_Limpl_Delta s_impl_Delta rfl rfl (hn := ?_)
     refine LWo.loadN ((e_impl_Delta x13)).cells g_impl_Delta s_impl_Delta rfl (Nat.le_of_ble_eq_true rfl) rfl (hn := ?_)
     refine LWo.alloc_impl_Delta 8 rfl (hn := ?_)
     refine lk h fun y14 e14 h => ?_
     refine LWo.storeW (y := (⟨[], (0 : Int)⟩ : S_impl_Delta)) y14 s_impl_Delta rfl rfl rfl rfl rfl rfl (by rw [e14]; exact .refl) rfl (hn := ?_)
     refine LWo.nil (hN12 _ ?_)
     refine LWP.join (α := (List S_impl_Delta) × Int × Int × S_impl_Delta × (List (List S_impl_Value))) (fun z : (List S_impl_Delta) × Int × Int × S_impl_Delta × (List (List S_impl_Value)) => [(6, (.own 1012 0 (z.2.2.2.2).length)), (8, (.ptr 8 0 0)), (13, (e_Limpl_Delta z.1)), (14, (e_int z.2.1)), (15, (e_int z.2.2.1))]) (fun z : (List S_impl_Delta) × Int × Int × S_impl_Delta × (List (List S_impl_Value)) => [(8, (vob 2 e_impl_Delta z.2.2.2.1)), (1012, (lob 1 e_Limpl_Value z.2.2.2.2))]) (fun z : (List S_impl_Delta) × Int × Int × S_impl_Delta × (List (List S_impl_Value)) => m_impl_afterDeltas_j1  (m_impl_afterDeltas_l1  n1) z.1 z.2.1 z.2.2.1 z.2.2.2.1 z.2.2.2.2) r (fun _ => by simp [hkeys]) ?_ ?_
     ·rintro ⟨t13, t14, t15, o8, o1012⟩ h
      replace h : m_impl_afterDeltas_j1  (m_impl_afterDeltas_l1  n1) t13 t14 t15 o8 o1012 = some _ := h
      refine LWP.seq_k fun N25 hN25 => ?_
      refine LWP.region (l := [_,_,_]) ?_
      refine LWo.fieldPtr u_impl_Delta rfl s_int rfl rfl (hn := ?_)
      refine LWo.loadV1 (e_int o8.Many)  g_int rfl rfl rfl (hn := ?_)
      refine LWo.assign (e_int o8.Many) rfl (hn := ?_)
      refine LWo.nil (hN25 _ ?_)
      refine LWP.block ?_
      refine LWP.loopM (α := Int × (List S_impl_Delta) × Int × Int × S_impl_Delta × (List (List S_impl_Value))) (fun z : Int × (List S_impl_Delta) × Int × Int × S_impl_Delta × (List (List S_impl_Value)) => [(6, (.own 1012 0 (z.2.2.2.2.2).length)), (8, (.ptr 8 0 0)), (9, (e_int z.1)), (13, (e_Limpl_Delta z.2.1)), (14, (e_int z.2.2.1)), (15, (e_int z.2.2.2.1))]) (fun z : Int × (List S_impl_Delta) × Int × Int × S_impl_Delta × (List (List S_impl_Value)) => [(8, (vob 2 e_impl_Delta z.2.2.2.2.1)), (1012, (lob 1 e_Limpl_Value z.2.2.2.2.2))]) (fun n3 (z : Int × (List S_impl_Delta) × Int × Int × S_impl_Delta × (List (List S_impl_Value))) => m_impl_afterDeltas_l3  (m_impl_afterDeltas_l1  n1) n3 z.1 z.2.1 z.2.2.1 z.2.2.2.1 z.2.2.2.2.1 z.2.2.2.2.2) r _ (o8.Many, t13, t14, t15, o8, o1012) h (fun _ => rfl) (fun _ => by simp [hkeys]) ⟨rfl, rfl, rfl, rfl, rfl, rfl, trivial⟩ ⟨rfl, rfl, trivial⟩ ?_
      rintro n3 ⟨t9, t13, t14, t15, o8, o1012⟩ h N26 hN26
      replace h : m_impl_afterDeltas_l3  (m_impl_afterDeltas_l1  n1) (n3 + 1) t9 t13 t14 t15 o8 o1012 = some _ := h
      refine LWP.seq_k fun N28 hN28 => ?_
      refine LWP.seq_k fun N29 hN29 => ?_
      refine LWP.region (l := [_,_]) ?_
      refine LWo.move (e_int t9) rfl (hn := ?_)
      refine LWo.int _ rfl rfl rfl (hn := ?_)
      refine LWo.nil (hN29 _ ?_)
      refine LWP.cond_split rfl (fun h30 => ?_) (fun h30 => ?_)
      ·have h := bT h30 h
       refine LWP.skip (hN28 _ ?_)
       refine LWP.seq_k fun N31 hN31 => ?_
       refine LWP.block ?_
       refine LWP.seq_k fun N32 hN32 => ?_
       refine LWP.region (l := [_,_,_,_]) ?_
       refine LWo.move (.own 1012 0 (o1012).length) rfl (hn := ?_)
       refine LWo.makeFuncM [(.ptr 8 0 0)] rfl rfl (hn := ?_)
       refine bk h fun x33 e33 h => ?_
       refine LWo.wcall rfl rfl (c_slices_IndexFunc_LLimpl_Value_Limpl_Value _ _ f_impl_afterDeltas_1 [.fp (e_impl_Delta o8).cells] (fun _ => rfl) (fun b0_ v hv => c_impl_afterDeltas_1 b0_ o8 v hv) _ e33) (.viewM rfl rfl rfl (.viewC (pa := []) (pb := []) rfl rfl rfl rfl (by simp [hkeys]) (.nil))) rfl (hn := ?_)
       refine LWo.assign (e_int x33) rfl (hn := ?_)
       refine LWo.nil (hN32 _ ?_)
       refine LWP.seq_k fun N34 hN34 => ?_
       refine LWP.seq_k fun N35 hN35 => ?_
       refine LWP.region (l := [_,_]) ?_
       refine LWo.move (e_int x33) rfl (hn := ?_)
       refine LWo.int _ rfl rfl rfl (hn := ?_)
       refine LWo.nil (hN35 _ ?_)
       refine LWP.cond_split rfl (fun h36 => ?_) (fun h36 => ?_)
       ·have h := bT h36 h
        refine LWP.seq_k fun N37 hN37 => ?_
        refine LWP.region (l := [_,_]) ?_
        refine LWo.assign _ rfl (hn := ?_)
        refine LWo.ownNil 4 1004 1 rfl rfl rfl ?_
        refine LWo.known 4 (.own 1004 0 ([] : (List (List S_impl_Value))).length) rfl ?_
        refine LWo.assign (e_bool false) rfl (hn := ?_)
        refine LWo.nil (hN37 _ ?_)
        obtain rfl := Option.some.inj h
        refine LWP.ret (QG.mk (.inr rfl) (.cons (.tmp (x := (.own 1004 0 (([] : (List (List S_impl_Value)))).length)) rfl) (.cons (.tmp (x := (e_bool false)) rfl) (.nil))) (RetOK.many0 (.cons (.nwE rfl rfl) (.cons (.pure rfl) (.nil))) (by simp) (by decide)) rfl rfl)
       ·have h := bF h36 h
        refine LWP.skip (hN34 _ ?_)
        refine LWP.region (l := [_,_,_,_,_,_]) ?_
        refine LWo.move (.own 1012 0 (o1012).length) rfl (hn := ?_)
        refine LWo.move (e_int x33) rfl (hn := ?_)
        refine LWo.move (e_int x33) rfl (hn := ?_)
        refine bk h fun x38 e38 h => ?_
        refine LWo.int _ rfl rfl (add_ck e38) (hn := ?_)
        refine bk h fun x39 e39 h => ?_
        refine LWo.tcallN (e := e_Limpl_Value) (e' := e_Limpl_Value) 1044 rfl rfl (c_slices_Delete_LLimpl_Value_Limpl_Value _ _ _ _ e39) (fun _ => rfl) rfl rfl rfl rfl (hn := ?_)
        refine LWo.assign (.own 1044 0 (x39).length) rfl (hn := ?_)
        refine LWo.nil (hN31 _ ?_)
        refine LWP.region (l := [_,_,_]) ?_
        refine LWo.move (e_int t9) rfl (hn := ?_)
        refine bk h fun x40 e40 h => ?_
        refine LWo.int _ rfl rfl (add_ck e40) (hn := ?_)
        refine LWo.assign (e_int x40) rfl (hn := ?_)
        refine LWo.rekey 6 1044 1012 rfl rfl rfl rfl rfl rfl ?_
        refine LWo.nil (hN26 (x40, t13, t14, t15, o8, x39) _ ⟨rfl, rfl, rfl, rfl, rfl, rfl, trivial⟩ ⟨rfl, rfl, trivial⟩ h)
      ·have h := bF h30 h
       refine LWP.exit (hN11 (t13, t14, t15, o1012) _ ⟨rfl, rfl, rfl, rfl, trivial⟩ ⟨rfl, trivial⟩ h)
     ·intro N15 hN15
      refine LWP.seq_k fun N16 hN16 => ?_
      refine LWP.region (l := [_,_,_]) ?_
      refine LWo.fieldPtr u_impl_Delta rfl s_int rfl rfl (hn := ?_)
      refine LWo.loadV1 (e_int y14.Many)  g_int rfl rfl rfl (hn := ?_)
      refine LWo.move (e_int (0 : Int)) rfl (hn := ?_)
      refine LWo.nil (hN16 _ ?_)
      refine LWP.block ?_
      refine LWP.loopM (α := (List S_impl_Delta) × Int × Int × Int × Int × S_impl_Delta × (List (List S_impl_Value))) (fun z : (List S_impl_Delta) × Int × Int × Int × Int × S_impl_Delta × (List (List S_impl_Value)) => [(6, (.own 1012 0 (z.2.2.2.2.2.2).length)), (8, (.ptr 8 0 0)), (13, (e_Limpl_Delta z.1)), (14, (e_int z.2.1)), (15, (e_int z.2.2.1)), (20, (e_int z.2.2.2.1)), (21, (e_int z.2.2.2.2.1))]) (fun z : (List S_impl_Delta) × Int × Int × Int × Int × S_impl_Delta × (List (List S_impl_Value)) => [(8, (vob 2 e_impl_Delta z.2.2.2.2.2.1)), (1012, (lob 1 e_Limpl_Value z.2.2.2.2.2.2))]) (fun n2 (z : (List S_impl_Delta) × Int × Int × Int × Int × S_impl_Delta × (List (List S_impl_Value))) => m_impl_afterDeltas_l2  (m_impl_afterDeltas_l1  n1) n2 z.1 z.2.1 z.2.2.1 z.2.2.2.1 z.2.2.2.2.1 z.2.2.2.2.2.1 z.2.2.2.2.2.2) r _ (t13, t14, t15, y14.Many, (0 : Int), y14, o1012) h (fun _ => rfl) (fun _ => by simp [hkeys]) ⟨rfl, rfl, rfl, rfl, rfl, rfl, rfl, trivial⟩ ⟨rfl, rfl, trivial⟩ ?_
      rintro n2 ⟨t13, t14, t15, t20, t21, o8, o1012⟩ h N17 hN17
      replace h : m_impl_afterDeltas_l2  (m_impl_afterDeltas_l1  n1) (n2 + 1) t13 t14 t15 t20 t21 o8 o1012 = some _ := h
      refine LWP.seq_k fun N19 hN19 => ?_
      refine LWP.region (l := [_]) ?_
      refine LWo.int _ rfl rfl rfl (hn := ?_)
      refine LWo.nil (hN19 _ ?_)
      refine LWP.seq_k fun N20 hN20 => ?_
      refine LWP.cond_split rfl (fun h21 => ?_) (fun h21 => ?_)
      ·have h := bT h21 h
       refine LWP.skip (hN20 _ ?_)
       refine LWP.seq_k fun N22 hN22 => ?_
       refine LWP.block ?_
       refine LWP.region (l := [_,_,_,_,_,_]) ?_
       refine LWo.move (.own 1012 0 (o1012).length) rfl (hn := ?_)
       refine LWo.fieldPtr u_impl_Delta rfl s_Limpl_Value rfl rfl (hn := ?_)
       refine LWo.loadV1 (e_Limpl_Value o8.Row)  g_Limpl_Value rfl rfl rfl (hn := ?_)
       refine LWo.lit (ops := [_]) [(e_Limpl_Value o8.Row)] u_LLimpl_Value s_Limpl_Value z_Limpl_Value rfl rfl rfl rfl rfl rfl (hn := ?_)
       refine bk h fun x23 e23 h => ?_
       refine LWo.appendM (f := e_Limpl_Value) e23 rfl u_LLimpl_Value u_LLimpl_Value (fun _ h => by cases h) s_Limpl_Value i_Limpl_Value rfl rfl rfl (.sl rfl) rfl rfl (hn := ?_)
       refine LWo.assign (.own 1012 0 (x23).length) rfl (hn := ?_)
       refine LWo.nil (hN22 _ ?_)
       refine LWP.region (l := [_,_]) ?_
       refine bk h fun x24 e24 h => ?_
       refine LWo.int _ rfl rfl (add_ck e24) (hn := ?_)
       refine LWo.move (e_int x24) rfl (hn := ?_)
       refine LWo.nil (hN17 (t13, t14, t15, t20, x24, o8, x23) _ ⟨rfl, rfl, rfl, rfl, rfl, rfl, rfl, trivial⟩ ⟨rfl, rfl, trivial⟩ h)
      ·have h := bF h21 h
       refine LWP.exit (hN15 (t13, t14, t15, o8, o1012) _ ⟨rfl, rfl, rfl, rfl, rfl, trivial⟩ ⟨rfl, rfl, trivial⟩ h)
   ·have h := bF h10 h
    refine LWP.exit (hN4 o1012 _ ⟨rfl, trivial⟩ ⟨rfl, trivial⟩ h)

def m_impl_DeltaRows_j1 (t0 : (List (List S_impl_Value))) (t1 : (List S_impl_Delta)) (t12 : Bool) : Option ((List (List S_impl_Value)) × Bool) :=
  bif t12 then (some (([] : (List (List S_impl_Value))), false))
  else ((m_impl_afterDeltas t0 t1).bind fun x10 =>
  some (x10.1, x10.2))
def m_impl_DeltaRows (a0 : (List (List S_impl_Value))) (a1 : (List S_impl_Delta)) : Option ((List (List S_impl_Value)) × Bool) :=
  (m_impl_allOk a0).bind fun x4 =>
  bif (!x4) then (m_impl_DeltaRows_j1  a0 a1 true)
  else ((m_slices_ContainsFunc_Limpl_Delta_impl_Delta a1 (fun b0_ => m_impl_DeltaRows_1 b0_ )).bind fun x6 =>
    m_impl_DeltaRows_j1  a0 a1 x6)
theorem c_impl_DeltaRows (a0 : (List (List S_impl_Value))) (a1 : (List S_impl_Delta)) (r : ((List (List S_impl_Value)) × Bool)) (h : m_impl_DeltaRows a0 a1 = some r) : Ret Try.prog f_impl_DeltaRows [e_LLimpl_Value a0, e_Limpl_Delta a1] (.tup [.nw 1 (r.1.map e_Limpl_Value) true, e_bool r.2]) := by
  refine Does.goG [] F_impl_DeltaRows rfl e_impl_DeltaRows n_impl_DeltaRows rfl (rvs := [.tmp 4, .tmp 5]) rfl rfl ?_
  intro w0 ok0 lent ρ0
  refine LWP.seq_k fun N1 hN1 => ?_
  refine LWP.region (l := [_,_]) ?_
  refine LWo.assign _ rfl (hn := ?_)
  refine LWo.ownNil 4 1004 1 rfl rfl rfl ?_
  refine LWo.known 4 (.own 1004 0 ([] : (List (List S_impl_Value))).length) rfl ?_
  refine LWo.assign (e_bool false) rfl (hn := ?_)
  refine LWo.nil (hN1 _ ?_)
  refine LWP.seq_k fun N2 hN2 => ?_
  refine LWP.join (α := (List (List S_impl_Value)) × (List S_impl_Delta) × Bool) (fun z : (List (List S_impl_Value)) × (List S_impl_Delta) × Bool => [(0, (e_LLimpl_Value z.1)), (1, (e_Limpl_Delta z.2.1)), (12, (e_bool z.2.2))]) (fun z : (List (List S_impl_Value)) × (List S_impl_Delta) × Bool => []) (fun z : (List (List S_impl_Value)) × (List S_impl_Delta) × Bool => m_impl_DeltaRows_j1  z.1 z.2.1 z.2.2) r (fun _ => by simp [hkeys]) ?_ ?_
  ·rintro ⟨t0, t1, t12⟩ h
   replace h : m_impl_DeltaRows_j1  t0 t1 t12 = some _ := h
   refine LWP.cond_split rfl (fun h7 => ?_) (fun h7 => ?_)
   ·have h := bT h7 h
    refine LWP.seq_k fun N8 hN8 => ?_
    refine LWP.region (l := [_,_]) ?_
    refine LWo.assign _ rfl (hn := ?_)
    refine LWo.ownNil 4 1004 1 rfl rfl rfl ?_
    refine LWo.known 4 (.own 1004 0 ([] : (List (List S_impl_Value))).length) rfl ?_
    refine LWo.assign (e_bool false) rfl (hn := ?_)
    refine LWo.nil (hN8 _ ?_)
    obtain rfl := Option.some.inj h
    refine LWP.ret (QG.mk (.inr rfl) (.cons (.tmp (x := (.own 1004 0 (([] : (List (List S_impl_Value)))).length)) rfl) (.cons (.tmp (x := (e_bool false)) rfl) (.nil))) (RetOK.many0 (.cons (.nwE rfl rfl) (.cons (.pure rfl) (.nil))) (by simp) (by decide)) rfl rfl)
   ·have h := bF h7 h
    refine LWP.skip (hN2 _ ?_)
    refine LWP.seq_k fun N9 hN9 => ?_
    refine LWP.region (l := [_,_,_,_,_,_,_]) ?_
    refine LWo.move (e_LLimpl_Value t0) rfl (hn := ?_)
    refine LWo.move (e_Limpl_Delta t1) rfl (hn := ?_)
    refine bk h fun x10 e10 h => ?_
    refine LWo.ntcallD (e := e_Limpl_Value) (l := x10.1) 1015 rfl rfl (c_impl_afterDeltas _ _ _ e10) (.same (.same (.nil))) ⟨_, rfl⟩ rfl (hn := ?_)
    refine LWo.extract (.own 1015 0 (x10.1).length) rfl rfl (hn := ?_)
    refine LWo.extract (e_bool x10.2) rfl rfl (hn := ?_)
    refine LWo.assign (.own 1015 0 (x10.1).length) rfl (hn := ?_)
    refine LWo.assign (e_bool x10.2) rfl (hn := ?_)
    refine LWo.nil (hN9 _ ?_)
    obtain rfl := Option.some.inj h
    refine LWP.ret (QG.mk (.inr rfl) (.cons (.tmp (x := (.own 1015 0 (x10.1).length)) rfl) (.cons (.tmp (x := (e_bool x10.2)) rfl) (.nil))) (RetOK.many0 (.cons (.nwD rfl rfl) (.cons (.pure rfl) (.nil))) (by simp) (by decide)) rfl rfl)
  ·intro N3 hN3
   refine LWP.region (l := [_,_,_,_,_,_,_]) ?_
   refine LWo.move (e_LLimpl_Value a0) rfl (hn := ?_)
   refine bk h fun x4 e4 h => ?_
   refine LWo.vcall rfl rfl (c_impl_allOk _ _ e4) (.same (.nil)) (hn := ?_)
   refine LWo.not rfl (hn := ?_)
   refine LWo.move (e_bool (!x4)) rfl (hn := ?_)
   refine LWo.byCases (t := 9) _ rfl (fun h5 => ?_) (fun h5 => ?_)
   ·have h := bT h5 h
    refine LWo.guardNU (t := 9) rfl h5 rfl rfl rfl rfl rfl ?_
    refine LWo.guardNU (t := 9) rfl h5 rfl rfl rfl rfl rfl ?_
    refine LWo.pickTM (e_bool true) rfl h5 rfl (hn := ?_)
    refine LWo.nil (hN3 (a0, a1, true) _ ⟨rfl, rfl, rfl, trivial⟩ trivial h)
   ·have h := bF h5 h
    refine LWo.guardY (t := 9) rfl h5 rfl rfl ?_
    refine LWo.move (e_Limpl_Delta a1) rfl (hn := ?_)
    refine bk h fun x6 e6 h => ?_
    refine LWo.guardY (t := 9) rfl h5 rfl rfl ?_
    refine LWo.vcall rfl rfl (c_slices_ContainsFunc_Limpl_Delta_impl_Delta _ _ f_impl_DeltaRows_1 [] (fun _ => rfl) (fun b0_ v hv => c_impl_DeltaRows_1 b0_  v hv) _ e6) (.same (.same (.nil))) (hn := ?_)
    refine LWo.pickFM (e_bool x6) rfl h5 rfl (hn := ?_)
    refine LWo.nil (hN3 (a0, a1, x6) _ ⟨rfl, rfl, rfl, trivial⟩ trivial h)

def m_laws_eqValue (a0 : S_impl_Value) (a1 : S_impl_Value) : Option Bool :=
  bif (a0.Kind != a1.Kind) then (some false)
  else (bif (a0.N != a1.N) then (some false)
  else (bif (!(sEq a0.S a1.S)) then (some false)
  else (some true)))
theorem c_laws_eqValue (a0 : S_impl_Value) (a1 : S_impl_Value) (r : Bool) (h : m_laws_eqValue a0 a1 = some r) : Ret Try.prog f_laws_eqValue [e_impl_Value a0, e_impl_Value a1] (e_bool r) := by
  refine Does.goG [] F_laws_eqValue rfl e_laws_eqValue n_laws_eqValue rfl (rvs := [.tmp 4]) rfl rfl ?_
  intro w0 ok0 lent ρ0
  refine LWP.seq_k fun N1 hN1 => ?_
  refine LWP.region (l := [_,_,_]) ?_
  refine LWo.boxF (e_impl_Value a0) rfl rfl rfl (hn := ?_)
  refine LWo.boxF (e_impl_Value a1) rfl rfl rfl (hn := ?_)
  refine LWo.assign (e_bool false) rfl (hn := ?_)
  refine LWo.nil (hN1 _ ?_)
  refine LWP.seq_k fun N2 hN2 => ?_
  refine LWP.seq_k fun N3 hN3 => ?_
  refine LWP.region (l := [_,_,_,_,_]) ?_
  refine LWo.fieldAddr _ u_impl_Value rfl s_int rfl rfl (hn := ?_)
  refine LWo.load1 (c := (e_int a0.Kind)) g_int rfl (hn := ?_)
  refine LWo.fieldAddr _ u_impl_Value rfl s_int rfl rfl (hn := ?_)
  refine LWo.load1 (c := (e_int a1.Kind)) g_int rfl (hn := ?_)
  refine LWo.int _ rfl rfl rfl (hn := ?_)
  refine LWo.nil (hN3 _ ?_)
  refine LWP.cond_split rfl (fun h4 => ?_) (fun h4 => ?_)
  ·have h := bT h4 h
   refine LWP.seq_k fun N5 hN5 => ?_
   refine LWP.region (l := [_]) ?_
   refine LWo.assign (e_bool false) rfl (hn := ?_)
   refine LWo.nil (hN5 _ ?_)
   obtain rfl := Option.some.inj h
   refine LWP.ret (QG.mk (.inr rfl) (.cons (.tmp (x := (e_bool false)) rfl) (.nil)) (RetOK.one0 (.pure rfl) (by decide)) rfl rfl)
  ·have h := bF h4 h
   refine LWP.skip (hN2 _ ?_)
   refine LWP.seq_k fun N6 hN6 => ?_
   refine LWP.seq_k fun N7 hN7 => ?_
   refine LWP.region (l := [_,_,_,_,_]) ?_
   refine LWo.fieldAddr _ u_impl_Value rfl s_int rfl rfl (hn := ?_)
   refine LWo.load1 (c := (e_int a0.N)) g_int rfl (hn := ?_)
   refine LWo.fieldAddr _ u_impl_Value rfl s_int rfl rfl (hn := ?_)
   refine LWo.load1 (c := (e_int a1.N)) g_int rfl (hn := ?_)
   refine LWo.int _ rfl rfl rfl (hn := ?_)
   refine LWo.nil (hN7 _ ?_)
   refine LWP.cond_split rfl (fun h8 => ?_) (fun h8 => ?_)
   ·have h := bT h8 h
    refine LWP.seq_k fun N9 hN9 => ?_
    refine LWP.region (l := [_]) ?_
    refine LWo.assign (e_bool false) rfl (hn := ?_)
    refine LWo.nil (hN9 _ ?_)
    obtain rfl := Option.some.inj h
    refine LWP.ret (QG.mk (.inr rfl) (.cons (.tmp (x := (e_bool false)) rfl) (.nil)) (RetOK.one0 (.pure rfl) (by decide)) rfl rfl)
   ·have h := bF h8 h
    refine LWP.skip (hN6 _ ?_)
    refine LWP.seq_k fun N10 hN10 => ?_
    refine LWP.seq_k fun N11 hN11 => ?_
    refine LWP.region (l := [_,_,_,_,_]) ?_
    refine LWo.fieldAddr _ u_impl_Value rfl s_string rfl rfl (hn := ?_)
    refine LWo.load1 (c := (e_string a0.S)) g_string rfl (hn := ?_)
    refine LWo.fieldAddr _ u_impl_Value rfl s_string rfl rfl (hn := ?_)
    refine LWo.load1 (c := (e_string a1.S)) g_string rfl (hn := ?_)
    refine LWo.str _ rfl rfl rfl (hn := ?_)
    refine LWo.nil (hN11 _ ?_)
    refine LWP.cond_split rfl (fun h12 => ?_) (fun h12 => ?_)
    ·have h := bT h12 h
     refine LWP.seq_k fun N13 hN13 => ?_
     refine LWP.region (l := [_]) ?_
     refine LWo.assign (e_bool false) rfl (hn := ?_)
     refine LWo.nil (hN13 _ ?_)
     obtain rfl := Option.some.inj h
     refine LWP.ret (QG.mk (.inr rfl) (.cons (.tmp (x := (e_bool false)) rfl) (.nil)) (RetOK.one0 (.pure rfl) (by decide)) rfl rfl)
    ·have h := bF h12 h
     refine LWP.skip (hN10 _ ?_)
     refine LWP.seq_k fun N14 hN14 => ?_
     refine LWP.region (l := [_]) ?_
     refine LWo.assign (e_bool true) rfl (hn := ?_)
     refine LWo.nil (hN14 _ ?_)
     obtain rfl := Option.some.inj h
     refine LWP.ret (QG.mk (.inr rfl) (.cons (.tmp (x := (e_bool true)) rfl) (.nil)) (RetOK.one0 (.pure rfl) (by decide)) rfl rfl)

def m_laws_eqValueS_j1  : Option Bool :=
  some true
def m_laws_eqValueS_l1 : Nat → (List S_impl_Value) → (List S_impl_Value) → Int → Option Bool
  | 0, _, _, _ => none
  | n1 + 1, t0, t1, t5 =>
    bif decide (t5 < (t0.length : Int)) then ((at? t0 t5).bind fun x15 =>
    (at? t1 t5).bind fun x16 =>
    (m_laws_eqValue x15 x16).bind fun x17 =>
    bif (!x17) then (some false)
    else ((ckI (t5 + (1 : Int))).bind fun x20 =>
    (m_laws_eqValueS_l1  n1) t0 t1 x20))
    else (m_laws_eqValueS_j1  )
def m_laws_eqValueS (a0 : (List S_impl_Value)) (a1 : (List S_impl_Value)) : Option Bool :=
  bif ((a0.length : Int) != (a1.length : Int)) then (some false)
  else (m_laws_eqValueS_l1  (((a0.length : Int) - (0 : Int)).toNat + 1) a0 a1 (0 : Int))
theorem c_laws_eqValueS (a0 : (List S_impl_Value)) (a1 : (List S_impl_Value)) (r : Bool) (h : m_laws_eqValueS a0 a1 = some r) : Ret Try.prog f_laws_eqValueS [e_Limpl_Value a0, e_Limpl_Value a1] (e_bool r) := by
  refine Does.goG [] F_laws_eqValueS rfl e_laws_eqValueS n_laws_eqValueS rfl (rvs := [.tmp 4]) rfl rfl ?_
  intro w0 ok0 lent ρ0
  refine LWP.seq_k fun N1 hN1 => ?_
  refine LWP.region (l := [_]) ?_
  refine LWo.assign (e_bool false) rfl (hn := ?_)
  refine LWo.nil (hN1 _ ?_)
  refine LWP.seq_k fun N2 hN2 => ?_
  refine LWP.seq_k fun N3 hN3 => ?_
  refine LWP.region (l := [_,_,_,_,_]) ?_
  refine LWo.move (e_Limpl_Value a0) rfl (hn := ?_)
  refine LWo.lenM (f := e_impl_Value) (l := a0) u_Limpl_Value rfl (hn := ?_)
  refine LWo.move (e_Limpl_Value a1) rfl (hn := ?_)
  refine LWo.lenM (f := e_impl_Value) (l := a1) u_Limpl_Value rfl (hn := ?_)
  refine LWo.int _ rfl rfl rfl (hn := ?_)
  refine LWo.nil (hN3 _ ?_)
  refine LWP.cond_split rfl (fun h4 => ?_) (fun h4 => ?_)
  ·have h := bT h4 h
   refine LWP.seq_k fun N5 hN5 => ?_
   refine LWP.region (l := [_]) ?_
   refine LWo.assign (e_bool false) rfl (hn := ?_)
   refine LWo.nil (hN5 _ ?_)
   obtain rfl := Option.some.inj h
   refine LWP.ret (QG.mk (.inr rfl) (.cons (.tmp (x := (e_bool false)) rfl) (.nil)) (RetOK.one0 (.pure rfl) (by decide)) rfl rfl)
  ·have h := bF h4 h
   refine LWP.skip (hN2 _ ?_)
   refine LWP.join (α := Unit) (fun z : Unit => []) (fun z : Unit => []) (fun z : Unit => m_laws_eqValueS_j1  ) r (fun _ => by simp [hkeys]) ?_ ?_
   ·rintro _ h
    replace h : m_laws_eqValueS_j1   = some _ := h
    refine LWP.seq_k fun N21 hN21 => ?_
    refine LWP.region (l := [_]) ?_
    refine LWo.assign (e_bool true) rfl (hn := ?_)
    refine LWo.nil (hN21 _ ?_)
    obtain rfl := Option.some.inj h
    refine LWP.ret (QG.mk (.inr rfl) (.cons (.tmp (x := (e_bool true)) rfl) (.nil)) (RetOK.one0 (.pure rfl) (by decide)) rfl rfl)
   ·intro N6 hN6
    refine LWP.seq_k fun N7 hN7 => ?_
    refine LWP.region (l := [_]) ?_
    refine LWo.assign (e_int (0 : Int)) rfl (hn := ?_)
    refine LWo.nil (hN7 _ ?_)
    refine LWP.block ?_
    refine LWP.loopM (α := (List S_impl_Value) × (List S_impl_Value) × Int) (fun z : (List S_impl_Value) × (List S_impl_Value) × Int => [(0, (e_Limpl_Value z.1)), (1, (e_Limpl_Value z.2.1)), (5, (e_int z.2.2))]) (fun z : (List S_impl_Value) × (List S_impl_Value) × Int => []) (fun n1 (z : (List S_impl_Value) × (List S_impl_Value) × Int) => m_laws_eqValueS_l1  n1 z.1 z.2.1 z.2.2) r _ (a0, a1, (0 : Int)) h (fun _ => rfl) (fun _ => by simp [hkeys]) ⟨rfl, rfl, rfl, trivial⟩ trivial ?_
    rintro n1 ⟨t0, t1, t5⟩ h N8 hN8
    replace h : m_laws_eqValueS_l1  (n1 + 1) t0 t1 t5 = some _ := h
    refine LWP.seq_k fun N10 hN10 => ?_
    refine LWP.seq_k fun N11 hN11 => ?_
    refine LWP.region (l := [_,_,_,_]) ?_
    refine LWo.move (e_int t5) rfl (hn := ?_)
    refine LWo.move (e_Limpl_Value t0) rfl (hn := ?_)
    refine LWo.lenM (f := e_impl_Value) (l := t0) u_Limpl_Value rfl (hn := ?_)
    refine LWo.int _ rfl rfl rfl (hn := ?_)
    refine LWo.nil (hN11 _ ?_)
    refine LWP.cond_split rfl (fun h12 => ?_) (fun h12 => ?_)
    ·have h := bT h12 h
     refine LWP.skip (hN10 _ ?_)
     refine LWP.seq_k fun N13 hN13 => ?_
     refine LWP.block ?_
     refine LWP.seq_k fun N14 hN14 => ?_
     refine bk h fun x15 e15 h => ?_
     refine bk h fun x16 e16 h => ?_
     refine bk h fun x17 e17 h => ?_
     refine LWP.drawF (l := [_,_,_,_,_,_,_,_,_,_]) [] [0, 1, 5] [([0], []), ([5], []), ([17, 18], []), ([19], []), ([1], []), ([5], []), ([21, 22], []), ([23], []), ([20, 24], []), ([25], [])] [0, 1, 5, 26] [] mixed (by kernel_rfl) rfl (by decide) ?_
     refine dq 17 rfl (fun _ g u h => LWo.move (e_Limpl_Value t0) u.1 (hn := .nil (zn g))) ?_
     refine dq 18 rfl (fun _ g u h => LWo.move (e_int t5) u.1 (hn := .nil (zn g))) ?_
     refine dq 19 rfl (fun _ g u h => LWo.indexM (f := e_impl_Value) e15 u_Limpl_Value s_impl_Value u.1 u.2.1 (hn := .nil (zn g))) ?_
     refine dq 20 rfl (fun _ g u h => LWo.loadN ((e_impl_Value x15)).cells g_impl_Value s_impl_Value u.1 (Nat.le_of_ble_eq_true rfl) rfl (hn := .nil (zn g))) ?_
     refine dq 21 rfl (fun _ g u h => LWo.move (e_Limpl_Value t1) u.1 (hn := .nil (zn g))) ?_
     refine dq 22 rfl (fun _ g u h => LWo.move (e_int t5) u.1 (hn := .nil (zn g))) ?_
     refine dq 23 rfl (fun _ g u h => LWo.indexM (f := e_impl_Value) e16 u_Limpl_Value s_impl_Value u.1 u.2.1 (hn := .nil (zn g))) ?_
     refine dq 24 rfl (fun _ g u h => LWo.loadN ((e_impl_Value x16)).cells g_impl_Value s_impl_Value u.1 (Nat.le_of_ble_eq_true rfl) rfl (hn := .nil (zn g))) ?_
     refine dq 25 rfl (fun _ g u h => LWo.vcall rfl (av2 u.1 u.2.1) (c_laws_eqValue _ _ _ e17) (.same (.same (.nil))) (hn := .nil (zn g))) ?_
     refine dq 26 rfl (fun _ g u h => LWo.not u.1 (hn := .nil (zn g))) ?_
     refine ⟨rfl, by kernel_rfl, hN14 _ ?_⟩
     refine LWP.cond_split rfl (fun h18 => ?_) (fun h18 => ?_)
     ·have h := bT h18 h
      refine LWP.seq_k fun N19 hN19 => ?_
      refine LWP.region (l := [_]) ?_
      refine LWo.assign (e_bool false) rfl (hn := ?_)
      refine LWo.nil (hN19 _ ?_)
      obtain rfl := Option.some.inj h
      refine LWP.ret (QG.mk (.inr rfl) (.cons (.tmp (x := (e_bool false)) rfl) (.nil)) (RetOK.one0 (.pure rfl) (by decide)) rfl rfl)
     ·have h := bF h18 h
      refine LWP.skip (hN13 _ ?_)
      refine LWP.region (l := [_,_,_]) ?_
      refine LWo.move (e_int t5) rfl (hn := ?_)
      refine bk h fun x20 e20 h => ?_
      refine LWo.int _ rfl rfl (add_ck e20) (hn := ?_)
      refine LWo.assign (e_int x20) rfl (hn := ?_)
      refine LWo.nil (hN8 (t0, t1, x20) _ ⟨rfl, rfl, rfl, trivial⟩ trivial h)
    ·have h := bF h12 h
     refine LWP.exit (hN6 () _ trivial trivial h)

def m_laws_eqValueSS_j1  : Option Bool :=
  some true
def m_laws_eqValueSS_l1 : Nat → (List (List S_impl_Value)) → (List (List S_impl_Value)) → Int → Option Bool
  | 0, _, _, _ => none
  | n1 + 1, t0, t1, t5 =>
    bif decide (t5 < (t0.length : Int)) then ((at? t0 t5).bind fun x15 =>
    (at? t1 t5).bind fun x16 =>
    (m_laws_eqValueS x15 x16).bind fun x17 =>
    bif (!x17) then (some false)
    else ((ckI (t5 + (1 : Int))).bind fun x20 =>
    (m_laws_eqValueSS_l1  n1) t0 t1 x20))
    else (m_laws_eqValueSS_j1  )
def m_laws_eqValueSS (a0 : (List (List S_impl_Value))) (a1 : (List (List S_impl_Value))) : Option Bool :=
  bif ((a0.length : Int) != (a1.length : Int)) then (some false)
  else (m_laws_eqValueSS_l1  (((a0.length : Int) - (0 : Int)).toNat + 1) a0 a1 (0 : Int))
theorem c_laws_eqValueSS (a0 : (List (List S_impl_Value))) (a1 : (List (List S_impl_Value))) (r : Bool) (h : m_laws_eqValueSS a0 a1 = some r) : Ret Try.prog f_laws_eqValueSS [e_LLimpl_Value a0, e_LLimpl_Value a1] (e_bool r) := by
  refine Does.goG [] F_laws_eqValueSS rfl e_laws_eqValueSS n_laws_eqValueSS rfl (rvs := [.tmp 4]) rfl rfl ?_
  intro w0 ok0 lent ρ0
  refine LWP.seq_k fun N1 hN1 => ?_
  refine LWP.region (l := [_]) ?_
  refine LWo.assign (e_bool false) rfl (hn := ?_)
  refine LWo.nil (hN1 _ ?_)
  refine LWP.seq_k fun N2 hN2 => ?_
  refine LWP.seq_k fun N3 hN3 => ?_
  refine LWP.region (l := [_,_,_,_,_]) ?_
  refine LWo.move (e_LLimpl_Value a0) rfl (hn := ?_)
  refine LWo.lenM (f := e_Limpl_Value) (l := a0) u_LLimpl_Value rfl (hn := ?_)
  refine LWo.move (e_LLimpl_Value a1) rfl (hn := ?_)
  refine LWo.lenM (f := e_Limpl_Value) (l := a1) u_LLimpl_Value rfl (hn := ?_)
  refine LWo.int _ rfl rfl rfl (hn := ?_)
  refine LWo.nil (hN3 _ ?_)
  refine LWP.cond_split rfl (fun h4 => ?_) (fun h4 => ?_)
  ·have h := bT h4 h
   refine LWP.seq_k fun N5 hN5 => ?_
   refine LWP.region (l := [_]) ?_
   refine LWo.assign (e_bool false) rfl (hn := ?_)
   refine LWo.nil (hN5 _ ?_)
   obtain rfl := Option.some.inj h
   refine LWP.ret (QG.mk (.inr rfl) (.cons (.tmp (x := (e_bool false)) rfl) (.nil)) (RetOK.one0 (.pure rfl) (by decide)) rfl rfl)
  ·have h := bF h4 h
   refine LWP.skip (hN2 _ ?_)
   refine LWP.join (α := Unit) (fun z : Unit => []) (fun z : Unit => []) (fun z : Unit => m_laws_eqValueSS_j1  ) r (fun _ => by simp [hkeys]) ?_ ?_
   ·rintro _ h
    replace h : m_laws_eqValueSS_j1   = some _ := h
    refine LWP.seq_k fun N21 hN21 => ?_
    refine LWP.region (l := [_]) ?_
    refine LWo.assign (e_bool true) rfl (hn := ?_)
    refine LWo.nil (hN21 _ ?_)
    obtain rfl := Option.some.inj h
    refine LWP.ret (QG.mk (.inr rfl) (.cons (.tmp (x := (e_bool true)) rfl) (.nil)) (RetOK.one0 (.pure rfl) (by decide)) rfl rfl)
   ·intro N6 hN6
    refine LWP.seq_k fun N7 hN7 => ?_
    refine LWP.region (l := [_]) ?_
    refine LWo.assign (e_int (0 : Int)) rfl (hn := ?_)
    refine LWo.nil (hN7 _ ?_)
    refine LWP.block ?_
    refine LWP.loopM (α := (List (List S_impl_Value)) × (List (List S_impl_Value)) × Int) (fun z : (List (List S_impl_Value)) × (List (List S_impl_Value)) × Int => [(0, (e_LLimpl_Value z.1)), (1, (e_LLimpl_Value z.2.1)), (5, (e_int z.2.2))]) (fun z : (List (List S_impl_Value)) × (List (List S_impl_Value)) × Int => []) (fun n1 (z : (List (List S_impl_Value)) × (List (List S_impl_Value)) × Int) => m_laws_eqValueSS_l1  n1 z.1 z.2.1 z.2.2) r _ (a0, a1, (0 : Int)) h (fun _ => rfl) (fun _ => by simp [hkeys]) ⟨rfl, rfl, rfl, trivial⟩ trivial ?_
    rintro n1 ⟨t0, t1, t5⟩ h N8 hN8
    replace h : m_laws_eqValueSS_l1  (n1 + 1) t0 t1 t5 = some _ := h
    refine LWP.seq_k fun N10 hN10 => ?_
    refine LWP.seq_k fun N11 hN11 => ?_
    refine LWP.region (l := [_,_,_,_]) ?_
    refine LWo.move (e_int t5) rfl (hn := ?_)
    refine LWo.move (e_LLimpl_Value t0) rfl (hn := ?_)
    refine LWo.lenM (f := e_Limpl_Value) (l := t0) u_LLimpl_Value rfl (hn := ?_)
    refine LWo.int _ rfl rfl rfl (hn := ?_)
    refine LWo.nil (hN11 _ ?_)
    refine LWP.cond_split rfl (fun h12 => ?_) (fun h12 => ?_)
    ·have h := bT h12 h
     refine LWP.skip (hN10 _ ?_)
     refine LWP.seq_k fun N13 hN13 => ?_
     refine LWP.block ?_
     refine LWP.seq_k fun N14 hN14 => ?_
     refine bk h fun x15 e15 h => ?_
     refine bk h fun x16 e16 h => ?_
     refine bk h fun x17 e17 h => ?_
     refine LWP.drawF (l := [_,_,_,_,_,_,_,_,_,_]) [] [0, 1, 5] [([0], []), ([5], []), ([17, 18], []), ([19], []), ([1], []), ([5], []), ([21, 22], []), ([23], []), ([20, 24], []), ([25], [])] [0, 1, 5, 26] [] mixed (by kernel_rfl) rfl (by decide) ?_
     refine dq 17 rfl (fun _ g u h => LWo.move (e_LLimpl_Value t0) u.1 (hn := .nil (zn g))) ?_
     refine dq 18 rfl (fun _ g u h => LWo.move (e_int t5) u.1 (hn := .nil (zn g))) ?_
     refine dq 19 rfl (fun _ g u h => LWo.indexM (f := e_Limpl_Value) e15 u_LLimpl_Value s_Limpl_Value u.1 u.2.1 (hn := .nil (zn g))) ?_
     refine dq 20 rfl (fun _ g u h => LWo.load1 (c := (e_Limpl_Value x15)) g_Limpl_Value u.1 (hn := .nil (zn g))) ?_
     refine dq 21 rfl (fun _ g u h => LWo.move (e_LLimpl_Value t1) u.1 (hn := .nil (zn g))) ?_
     refine dq 22 rfl (fun _ g u h => LWo.move (e_int t5) u.1 (hn := .nil (zn g))) ?_
     refine dq 23 rfl (fun _ g u h => LWo.indexM (f := e_Limpl_Value) e16 u_LLimpl_Value s_Limpl_Value u.1 u.2.1 (hn := .nil (zn g))) ?_
     refine dq 24 rfl (fun _ g u h => LWo.load1 (c := (e_Limpl_Value x16)) g_Limpl_Value u.1 (hn := .nil (zn g))) ?_
     refine dq 25 rfl (fun _ g u h => LWo.vcall rfl (av2 u.1 u.2.1) (c_laws_eqValueS _ _ _ e17) (.same (.same (.nil))) (hn := .nil (zn g))) ?_
     refine dq 26 rfl (fun _ g u h => LWo.not u.1 (hn := .nil (zn g))) ?_
     refine ⟨rfl, by kernel_rfl, hN14 _ ?_⟩
     refine LWP.cond_split rfl (fun h18 => ?_) (fun h18 => ?_)
     ·have h := bT h18 h
      refine LWP.seq_k fun N19 hN19 => ?_
      refine LWP.region (l := [_]) ?_
      refine LWo.assign (e_bool false) rfl (hn := ?_)
      refine LWo.nil (hN19 _ ?_)
      obtain rfl := Option.some.inj h
      refine LWP.ret (QG.mk (.inr rfl) (.cons (.tmp (x := (e_bool false)) rfl) (.nil)) (RetOK.one0 (.pure rfl) (by decide)) rfl rfl)
     ·have h := bF h18 h
      refine LWP.skip (hN13 _ ?_)
      refine LWP.region (l := [_,_,_]) ?_
      refine LWo.move (e_int t5) rfl (hn := ?_)
      refine bk h fun x20 e20 h => ?_
      refine LWo.int _ rfl rfl (add_ck e20) (hn := ?_)
      refine LWo.assign (e_int x20) rfl (hn := ?_)
      refine LWo.nil (hN8 (t0, t1, x20) _ ⟨rfl, rfl, rfl, trivial⟩ trivial h)
    ·have h := bF h12 h
     refine LWP.exit (hN6 () _ trivial trivial h)

def m_laws_eqDelta (a0 : S_impl_Delta) (a1 : S_impl_Delta) : Option Bool :=
  (m_laws_eqValueS a0.Row a1.Row).bind fun x4 =>
  bif (!x4) then (some false)
  else (bif (a0.Many != a1.Many) then (some false)
  else (some true))
theorem c_laws_eqDelta (a0 : S_impl_Delta) (a1 : S_impl_Delta) (r : Bool) (h : m_laws_eqDelta a0 a1 = some r) : Ret Try.prog f_laws_eqDelta [e_impl_Delta a0, e_impl_Delta a1] (e_bool r) := by
  refine Does.goG [] F_laws_eqDelta rfl e_laws_eqDelta n_laws_eqDelta rfl (rvs := [.tmp 4]) rfl rfl ?_
  intro w0 ok0 lent ρ0
  refine LWP.seq_k fun N1 hN1 => ?_
  refine LWP.region (l := [_,_,_]) ?_
  refine LWo.boxF (e_impl_Delta a0) rfl rfl rfl (hn := ?_)
  refine LWo.boxF (e_impl_Delta a1) rfl rfl rfl (hn := ?_)
  refine LWo.assign (e_bool false) rfl (hn := ?_)
  refine LWo.nil (hN1 _ ?_)
  refine LWP.seq_k fun N2 hN2 => ?_
  refine LWP.seq_k fun N3 hN3 => ?_
  refine LWP.region (l := [_,_,_,_,_,_]) ?_
  refine LWo.fieldAddr _ u_impl_Delta rfl s_Limpl_Value rfl rfl (hn := ?_)
  refine LWo.load1 (c := (e_Limpl_Value a0.Row)) g_Limpl_Value rfl (hn := ?_)
  refine LWo.fieldAddr _ u_impl_Delta rfl s_Limpl_Value rfl rfl (hn := ?_)
  refine LWo.load1 (c := (e_Limpl_Value a1.Row)) g_Limpl_Value rfl (hn := ?_)
  refine bk h fun x4 e4 h => ?_
  refine LWo.vcall rfl rfl (c_laws_eqValueS _ _ _ e4) (.same (.same (.nil))) (hn := ?_)
  refine LWo.not rfl (hn := ?_)
  refine LWo.nil (hN3 _ ?_)
  refine LWP.cond_split rfl (fun h5 => ?_) (fun h5 => ?_)
  ·have h := bT h5 h
   refine LWP.seq_k fun N6 hN6 => ?_
   refine LWP.region (l := [_]) ?_
   refine LWo.assign (e_bool false) rfl (hn := ?_)
   refine LWo.nil (hN6 _ ?_)
   obtain rfl := Option.some.inj h
   refine LWP.ret (QG.mk (.inr rfl) (.cons (.tmp (x := (e_bool false)) rfl) (.nil)) (RetOK.one0 (.pure rfl) (by decide)) rfl rfl)
  ·have h := bF h5 h
   refine LWP.skip (hN2 _ ?_)
   refine LWP.seq_k fun N7 hN7 => ?_
   refine LWP.seq_k fun N8 hN8 => ?_
   refine LWP.region (l := [_,_,_,_,_]) ?_
   refine LWo.fieldAddr _ u_impl_Delta rfl s_int rfl rfl (hn := ?_)
   refine LWo.load1 (c := (e_int a0.Many)) g_int rfl (hn := ?_)
   refine LWo.fieldAddr _ u_impl_Delta rfl s_int rfl rfl (hn := ?_)
   refine LWo.load1 (c := (e_int a1.Many)) g_int rfl (hn := ?_)
   refine LWo.int _ rfl rfl rfl (hn := ?_)
   refine LWo.nil (hN8 _ ?_)
   refine LWP.cond_split rfl (fun h9 => ?_) (fun h9 => ?_)
   ·have h := bT h9 h
    refine LWP.seq_k fun N10 hN10 => ?_
    refine LWP.region (l := [_]) ?_
    refine LWo.assign (e_bool false) rfl (hn := ?_)
    refine LWo.nil (hN10 _ ?_)
    obtain rfl := Option.some.inj h
    refine LWP.ret (QG.mk (.inr rfl) (.cons (.tmp (x := (e_bool false)) rfl) (.nil)) (RetOK.one0 (.pure rfl) (by decide)) rfl rfl)
   ·have h := bF h9 h
    refine LWP.skip (hN7 _ ?_)
    refine LWP.seq_k fun N11 hN11 => ?_
    refine LWP.region (l := [_]) ?_
    refine LWo.assign (e_bool true) rfl (hn := ?_)
    refine LWo.nil (hN11 _ ?_)
    obtain rfl := Option.some.inj h
    refine LWP.ret (QG.mk (.inr rfl) (.cons (.tmp (x := (e_bool true)) rfl) (.nil)) (RetOK.one0 (.pure rfl) (by decide)) rfl rfl)

def m_laws_eqDeltaS_j1  : Option Bool :=
  some true
def m_laws_eqDeltaS_l1 : Nat → (List S_impl_Delta) → (List S_impl_Delta) → Int → Option Bool
  | 0, _, _, _ => none
  | n1 + 1, t0, t1, t5 =>
    bif decide (t5 < (t0.length : Int)) then ((at? t0 t5).bind fun x15 =>
    (at? t1 t5).bind fun x16 =>
    (m_laws_eqDelta x15 x16).bind fun x17 =>
    bif (!x17) then (some false)
    else ((ckI (t5 + (1 : Int))).bind fun x20 =>
    (m_laws_eqDeltaS_l1  n1) t0 t1 x20))
    else (m_laws_eqDeltaS_j1  )
def m_laws_eqDeltaS (a0 : (List S_impl_Delta)) (a1 : (List S_impl_Delta)) : Option Bool :=
  bif ((a0.length : Int) != (a1.length : Int)) then (some false)
  else (m_laws_eqDeltaS_l1  (((a0.length : Int) - (0 : Int)).toNat + 1) a0 a1 (0 : Int))
theorem c_laws_eqDeltaS (a0 : (List S_impl_Delta)) (a1 : (List S_impl_Delta)) (r : Bool) (h : m_laws_eqDeltaS a0 a1 = some r) : Ret Try.prog f_laws_eqDeltaS [e_Limpl_Delta a0, e_Limpl_Delta a1] (e_bool r) := by
  refine Does.goG [] F_laws_eqDeltaS rfl e_laws_eqDeltaS n_laws_eqDeltaS rfl (rvs := [.tmp 4]) rfl rfl ?_
  intro w0 ok0 lent ρ0
  refine LWP.seq_k fun N1 hN1 => ?_
  refine LWP.region (l := [_]) ?_
  refine LWo.assign (e_bool false) rfl (hn := ?_)
  refine LWo.nil (hN1 _ ?_)
  refine LWP.seq_k fun N2 hN2 => ?_
  refine LWP.seq_k fun N3 hN3 => ?_
  refine LWP.region (l := [_,_,_,_,_]) ?_
  refine LWo.move (e_Limpl_Delta a0) rfl (hn := ?_)
  refine LWo.lenM (f := e_impl_Delta) (l := a0) u_Limpl_Delta rfl (hn := ?_)
  refine LWo.move (e_Limpl_Delta a1) rfl (hn := ?_)
  refine LWo.lenM (f := e_impl_Delta) (l := a1) u_Limpl_Delta rfl (hn := ?_)
  refine LWo.int _ rfl rfl rfl (hn := ?_)
  refine LWo.nil (hN3 _ ?_)
  refine LWP.cond_split rfl (fun h4 => ?_) (fun h4 => ?_)
  ·have h := bT h4 h
   refine LWP.seq_k fun N5 hN5 => ?_
   refine LWP.region (l := [_]) ?_
   refine LWo.assign (e_bool false) rfl (hn := ?_)
   refine LWo.nil (hN5 _ ?_)
   obtain rfl := Option.some.inj h
   refine LWP.ret (QG.mk (.inr rfl) (.cons (.tmp (x := (e_bool false)) rfl) (.nil)) (RetOK.one0 (.pure rfl) (by decide)) rfl rfl)
  ·have h := bF h4 h
   refine LWP.skip (hN2 _ ?_)
   refine LWP.join (α := Unit) (fun z : Unit => []) (fun z : Unit => []) (fun z : Unit => m_laws_eqDeltaS_j1  ) r (fun _ => by simp [hkeys]) ?_ ?_
   ·rintro _ h
    replace h : m_laws_eqDeltaS_j1   = some _ := h
    refine LWP.seq_k fun N21 hN21 => ?_
    refine LWP.region (l := [_]) ?_
    refine LWo.assign (e_bool true) rfl (hn := ?_)
    refine LWo.nil (hN21 _ ?_)
    obtain rfl := Option.some.inj h
    refine LWP.ret (QG.mk (.inr rfl) (.cons (.tmp (x := (e_bool true)) rfl) (.nil)) (RetOK.one0 (.pure rfl) (by decide)) rfl rfl)
   ·intro N6 hN6
    refine LWP.seq_k fun N7 hN7 => ?_
    refine LWP.region (l := [_]) ?_
    refine LWo.assign (e_int (0 : Int)) rfl (hn := ?_)
    refine LWo.nil (hN7 _ ?_)
    refine LWP.block ?_
    refine LWP.loopM (α := (List S_impl_Delta) × (List S_impl_Delta) × Int) (fun z : (List S_impl_Delta) × (List S_impl_Delta) × Int => [(0, (e_Limpl_Delta z.1)), (1, (e_Limpl_Delta z.2.1)), (5, (e_int z.2.2))]) (fun z : (List S_impl_Delta) × (List S_impl_Delta) × Int => []) (fun n1 (z : (List S_impl_Delta) × (List S_impl_Delta) × Int) => m_laws_eqDeltaS_l1  n1 z.1 z.2.1 z.2.2) r _ (a0, a1, (0 : Int)) h (fun _ => rfl) (fun _ => by simp [hkeys]) ⟨rfl, rfl, rfl, trivial⟩ trivial ?_
    rintro n1 ⟨t0, t1, t5⟩ h N8 hN8
    replace h : m_laws_eqDeltaS_l1  (n1 + 1) t0 t1 t5 = some _ := h
    refine LWP.seq_k fun N10 hN10 => ?_
    refine LWP.seq_k fun N11 hN11 => ?_
    refine LWP.region (l := [_,_,_,_]) ?_
    refine LWo.move (e_int t5) rfl (hn := ?_)
    refine LWo.move (e_Limpl_Delta t0) rfl (hn := ?_)
    refine LWo.lenM (f := e_impl_Delta) (l := t0) u_Limpl_Delta rfl (hn := ?_)
    refine LWo.int _ rfl rfl rfl (hn := ?_)
    refine LWo.nil (hN11 _ ?_)
    refine LWP.cond_split rfl (fun h12 => ?_) (fun h12 => ?_)
    ·have h := bT h12 h
     refine LWP.skip (hN10 _ ?_)
     refine LWP.seq_k fun N13 hN13 => ?_
     refine LWP.block ?_
     refine LWP.seq_k fun N14 hN14 => ?_
     refine bk h fun x15 e15 h => ?_
     refine bk h fun x16 e16 h => ?_
     refine bk h fun x17 e17 h => ?_
     refine LWP.drawF (l := [_,_,_,_,_,_,_,_,_,_]) [] [0, 1, 5] [([0], []), ([5], []), ([17, 18], []), ([19], []), ([1], []), ([5], []), ([21, 22], []), ([23], []), ([20, 24], []), ([25], [])] [0, 1, 5, 26] [] mixed (by kernel_rfl) rfl (by decide) ?_
     refine dq 17 rfl (fun _ g u h => LWo.move (e_Limpl_Delta t0) u.1 (hn := .nil (zn g))) ?_
     refine dq 18 rfl (fun _ g u h => LWo.move (e_int t5) u.1 (hn := .nil (zn g))) ?_
     refine dq 19 rfl (fun _ g u h => LWo.indexM (f := e_impl_Delta) e15 u_Limpl_Delta s_impl_Delta u.1 u.2.1 (hn := .nil (zn g))) ?_
     refine dq 20 rfl (fun _ g u h => LWo.loadN ((e_impl_Delta x15)).cells g_impl_Delta s_impl_Delta u.1 (Nat.le_of_ble_eq_true rfl) rfl (hn := .nil (zn g))) ?_
     refine dq 21 rfl (fun _ g u h => LWo.move (e_Limpl_Delta t1) u.1 (hn := .nil (zn g))) ?_
     refine dq 22 rfl (fun _ g u h => LWo.move (e_int t5) u.1 (hn := .nil (zn g))) ?_
     refine dq 23 rfl (fun _ g u h => LWo.indexM (f := e_impl_Delta) e16 u_Limpl_Delta s_impl_Delta u.1 u.2.1 (hn := .nil (zn g))) ?_
     refine dq 24 rfl (fun _ g u h => LWo.loadN ((e_impl_Delta x16)).cells g_impl_Delta s_impl_Delta u.1 (Nat.le_of_ble_eq_true rfl) rfl (hn := .nil (zn g))) ?_
     refine dq 25 rfl (fun _ g u h => LWo.vcall rfl (av2 u.1 u.2.1) (c_laws_eqDelta _ _ _ e17) (.same (.same (.nil))) (hn := .nil (zn g))) ?_
     refine dq 26 rfl (fun _ g u h => LWo.not u.1 (hn := .nil (zn g))) ?_
     refine ⟨rfl, by kernel_rfl, hN14 _ ?_⟩
     refine LWP.cond_split rfl (fun h18 => ?_) (fun h18 => ?_)
     ·have h := bT h18 h
      refine LWP.seq_k fun N19 hN19 => ?_
      refine LWP.region (l := [_]) ?_
      refine LWo.assign (e_bool false) rfl (hn := ?_)
      refine LWo.nil (hN19 _ ?_)
      obtain rfl := Option.some.inj h
      refine LWP.ret (QG.mk (.inr rfl) (.cons (.tmp (x := (e_bool false)) rfl) (.nil)) (RetOK.one0 (.pure rfl) (by decide)) rfl rfl)
     ·have h := bF h18 h
      refine LWP.skip (hN13 _ ?_)
      refine LWP.region (l := [_,_,_]) ?_
      refine LWo.move (e_int t5) rfl (hn := ?_)
      refine bk h fun x20 e20 h => ?_
      refine LWo.int _ rfl rfl (add_ck e20) (hn := ?_)
      refine LWo.assign (e_int x20) rfl (hn := ?_)
      refine LWo.nil (hN8 (t0, t1, x20) _ ⟨rfl, rfl, rfl, trivial⟩ trivial h)
    ·have h := bF h12 h
     refine LWP.exit (hN6 () _ trivial trivial h)
end Go.Proofs.Ytogiaehagciojaa
