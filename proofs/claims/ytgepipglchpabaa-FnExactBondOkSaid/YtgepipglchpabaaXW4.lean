/- Mirrors of functions, and that the functions return what the mirrors say. -/
import Derived.Test.YtgepipglchpabaaXW3
set_option linter.unusedVariables false
set_option linter.unusedSimpArgs false
set_option linter.unnecessarySimpa false
namespace Go.Proofs.Ytgepipglchpabaa
open Go.Proofs Go.Lift Go.RowKit
def m_impl_Part_kind (a0 : S_impl_Part) (a1 : (List S_impl_Column)) (a2 : (List Int)) : Option (Int × Bool) :=
  bif (a0.Kind == (1 : Int)) then (some (a0.V.Kind, true))
  else (bif (a0.Kind == (2 : Int)) then ((at? a1 a0.N).bind fun x11 =>
      some (x11.Kind, true))
    else (bif (a0.Kind == (3 : Int)) then ((m_impl_Part_kind_1 (1 : Int) a2).bind fun x15 =>
        some ((1 : Int), x15))
      else (bif (a0.Kind == (4 : Int)) then ((at? a2 (0 : Int)).bind fun x19 =>
          (at? a2 (1 : Int)).bind fun x20 =>
          some ((3 : Int), (x19 == x20)))
        else (bif (a0.Kind == (8 : Int)) then (some ((3 : Int), true))
          else ((m_impl_Part_kind_1 (3 : Int) a2).bind fun x25 =>
  some ((3 : Int), x25))))))
theorem c_impl_Part_kind (a0 : S_impl_Part) (a1 : (List S_impl_Column)) (a2 : (List Int)) (r : (Int × Bool)) (h : m_impl_Part_kind a0 a1 a2 = some r) : Ret Try.prog f_impl_Part_kind [e_impl_Part a0, e_Limpl_Column a1, e_Lint a2] (.tup [e_int r.1, e_bool r.2]) := by
  refine Does.goG [] F_impl_Part_kind rfl e_impl_Part_kind n_impl_Part_kind rfl (rvs := [.tmp 6, .tmp 7]) rfl rfl ?_
  intro w0 ok0 lent ρ0
  refine LWP.seq_k fun N1 hN1 => ?_
  refine LWP.region (l := [_,_,_,_]) ?_
  refine LWo.boxF (e_impl_Part a0) rfl rfl rfl (hn := ?_)
  refine LWo.boxF (e_Lint a2) rfl rfl rfl (hn := ?_)
  refine LWo.assign (e_int (0 : Int)) rfl (hn := ?_)
  refine LWo.assign (e_bool false) rfl (hn := ?_)
  refine LWo.nil (hN1 _ ?_)
  refine LWP.seq_k fun N2 hN2 => ?_
  refine LWP.region (l := [_,_]) ?_
  refine LWo.makeFuncM [(.fp (e_Lint a2).cells)] rfl rfl (hn := ?_)
  refine LWo.assign (.clo f_impl_Part_kind_1 [(.fp (e_Lint a2).cells)]) rfl (hn := ?_)
  refine LWo.nil (hN2 _ ?_)
  refine LWP.seq_k fun N3 hN3 => ?_
  refine LWP.seq_k fun N4 hN4 => ?_
  refine LWP.region (l := [_,_]) ?_
  refine LWo.fieldAddr _ u_impl_Part rfl s_int rfl rfl (hn := ?_)
  refine LWo.load1 (c := (e_int a0.Kind)) g_int rfl (hn := ?_)
  refine LWo.nil (hN4 _ ?_)
  refine LWP.block ?_
  refine LWP.seq_k fun N5 hN5 => ?_
  refine LWP.region (l := [_,_]) ?_
  refine LWo.int _ rfl rfl rfl (hn := ?_)
  refine LWo.assign (e_bool (a0.Kind == (1 : Int))) rfl (hn := ?_)
  refine LWo.nil (hN5 _ ?_)
  refine LWP.cond_split rfl (fun h6 => ?_) (fun h6 => ?_)
  ·have h := bT h6 h
   refine LWP.seq_k fun N7 hN7 => ?_
   refine LWP.region (l := [_,_,_,_,_]) ?_
   refine LWo.fieldAddr _ u_impl_Part rfl s_impl_Value rfl rfl (hn := ?_)
   refine LWo.fieldAddr _ u_impl_Value rfl s_int rfl rfl (hn := ?_)
   refine LWo.load1 (c := (e_int a0.V.Kind)) g_int rfl (hn := ?_)
   refine LWo.assign (e_int a0.V.Kind) rfl (hn := ?_)
   refine LWo.assign (e_bool true) rfl (hn := ?_)
   refine LWo.nil (hN7 _ ?_)
   obtain rfl := Option.some.inj h
   refine LWP.ret (QG.mk (.inr rfl) (.cons (.tmp (x := (e_int a0.V.Kind)) rfl) (.cons (.tmp (x := (e_bool true)) rfl) (.nil))) (RetOK.many0 (.cons (.pure rfl) (.cons (.pure rfl) (.nil))) (by simp) (by decide)) rfl rfl)
  ·have h := bF h6 h
   refine LWP.seq_k fun N8 hN8 => ?_
   refine LWP.region (l := [_,_]) ?_
   refine LWo.int _ rfl rfl rfl (hn := ?_)
   refine LWo.assign (e_bool (a0.Kind == (2 : Int))) rfl (hn := ?_)
   refine LWo.nil (hN8 _ ?_)
   refine LWP.cond_split rfl (fun h9 => ?_) (fun h9 => ?_)
   ·have h := bT h9 h
    refine LWP.seq_k fun N10 hN10 => ?_
    refine LWP.region (l := [_,_,_,_,_,_,_,_]) ?_
    refine LWo.move (e_Limpl_Column a1) rfl (hn := ?_)
    refine LWo.fieldAddr _ u_impl_Part rfl s_int rfl rfl (hn := ?_)
    refine LWo.load1 (c := (e_int a0.N)) g_int rfl (hn := ?_)
    refine bk h fun x11 e11 h => ?_
    refine LWo.indexM (f := e_impl_Column) e11 u_Limpl_Column s_impl_Column rfl rfl (hn := ?_)
    refine LWo.fieldAddr _ u_impl_Column rfl s_int rfl rfl (hn := ?_)
    refine LWo.load1 (c := (e_int x11.Kind)) g_int rfl (hn := ?_)
    refine LWo.assign (e_int x11.Kind) rfl (hn := ?_)
    refine LWo.assign (e_bool true) rfl (hn := ?_)
    refine LWo.nil (hN10 _ ?_)
    obtain rfl := Option.some.inj h
    refine LWP.ret (QG.mk (.inr rfl) (.cons (.tmp (x := (e_int x11.Kind)) rfl) (.cons (.tmp (x := (e_bool true)) rfl) (.nil))) (RetOK.many0 (.cons (.pure rfl) (.cons (.pure rfl) (.nil))) (by simp) (by decide)) rfl rfl)
   ·have h := bF h9 h
    refine LWP.seq_k fun N12 hN12 => ?_
    refine LWP.region (l := [_,_]) ?_
    refine LWo.int _ rfl rfl rfl (hn := ?_)
    refine LWo.assign (e_bool (a0.Kind == (3 : Int))) rfl (hn := ?_)
    refine LWo.nil (hN12 _ ?_)
    refine LWP.cond_split rfl (fun h13 => ?_) (fun h13 => ?_)
    ·have h := bT h13 h
     refine LWP.seq_k fun N14 hN14 => ?_
     refine LWP.region (l := [_,_,_,_]) ?_
     refine LWo.move (.clo f_impl_Part_kind_1 [(.fp (e_Lint a2).cells)]) rfl (hn := ?_)
     refine bk h fun x15 e15 h => ?_
     refine LWo.vcall rfl rfl (c_impl_Part_kind_1 _ _ _ e15) (.same (.same (.nil))) (hn := ?_)
     refine LWo.assign (e_int (1 : Int)) rfl (hn := ?_)
     refine LWo.assign (e_bool x15) rfl (hn := ?_)
     refine LWo.nil (hN14 _ ?_)
     obtain rfl := Option.some.inj h
     refine LWP.ret (QG.mk (.inr rfl) (.cons (.tmp (x := (e_int (1 : Int))) rfl) (.cons (.tmp (x := (e_bool x15)) rfl) (.nil))) (RetOK.many0 (.cons (.pure rfl) (.cons (.pure rfl) (.nil))) (by simp) (by decide)) rfl rfl)
    ·have h := bF h13 h
     refine LWP.seq_k fun N16 hN16 => ?_
     refine LWP.region (l := [_,_]) ?_
     refine LWo.int _ rfl rfl rfl (hn := ?_)
     refine LWo.assign (e_bool (a0.Kind == (4 : Int))) rfl (hn := ?_)
     refine LWo.nil (hN16 _ ?_)
     refine LWP.cond_split rfl (fun h17 => ?_) (fun h17 => ?_)
     ·have h := bT h17 h
      refine LWP.seq_k fun N18 hN18 => ?_
      refine bk h fun x19 e19 h => ?_
      refine bk h fun x20 e20 h => ?_
      refine LWP.drawF (l := [_,_,_,_,_,_,_,_,_]) [] [5] [([5], []), ([31], []), ([32], []), ([5], []), ([34], []), ([35], []), ([33, 36], []), ([], []), ([37], [])] [6, 7] [] mixed (by kernel_rfl) rfl (by decide) ?_
      refine dq 31 rfl (fun _ g u h => LWo.load1 (c := (e_Lint a2)) g_Lint u.1 (hn := .nil (zn g))) ?_
      refine dq 32 rfl (fun _ g u h => LWo.indexM (f := e_int) e19 u_Lint s_int u.1 rfl (hn := .nil (zn g))) ?_
      refine dq 33 rfl (fun _ g u h => LWo.load1 (c := (e_int x19)) g_int u.1 (hn := .nil (zn g))) ?_
      refine dq 34 rfl (fun _ g u h => LWo.load1 (c := (e_Lint a2)) g_Lint u.1 (hn := .nil (zn g))) ?_
      refine dq 35 rfl (fun _ g u h => LWo.indexM (f := e_int) e20 u_Lint s_int u.1 rfl (hn := .nil (zn g))) ?_
      refine dq 36 rfl (fun _ g u h => LWo.load1 (c := (e_int x20)) g_int u.1 (hn := .nil (zn g))) ?_
      refine dq 37 rfl (fun _ g u h => LWo.int _ u.1 u.2.1 rfl (hn := .nil (zn g))) ?_
      refine dq 6 rfl (fun _ g u h => LWo.assign (e_int (3 : Int)) rfl (hn := .nil (zn g))) ?_
      refine dq 7 rfl (fun _ g u h => LWo.assign (e_bool (x19 == x20)) u.1 (hn := .nil (zn g))) ?_
      refine ⟨rfl, by kernel_rfl, hN18 _ ?_⟩
      obtain rfl := Option.some.inj h
      refine LWP.ret (QG.mk (.inr rfl) (.cons (.tmp (x := (e_int (3 : Int))) rfl) (.cons (.tmp (x := (e_bool (x19 == x20))) rfl) (.nil))) (RetOK.many0 (.cons (.pure rfl) (.cons (.pure rfl) (.nil))) (by simp) (by decide)) rfl rfl)
     ·have h := bF h17 h
      refine LWP.seq_k fun N21 hN21 => ?_
      refine LWP.region (l := [_,_]) ?_
      refine LWo.int _ rfl rfl rfl (hn := ?_)
      refine LWo.assign (e_bool (a0.Kind == (8 : Int))) rfl (hn := ?_)
      refine LWo.nil (hN21 _ ?_)
      refine LWP.cond_split rfl (fun h22 => ?_) (fun h22 => ?_)
      ·have h := bT h22 h
       refine LWP.seq_k fun N23 hN23 => ?_
       refine LWP.region (l := [_,_]) ?_
       refine LWo.assign (e_int (3 : Int)) rfl (hn := ?_)
       refine LWo.assign (e_bool true) rfl (hn := ?_)
       refine LWo.nil (hN23 _ ?_)
       obtain rfl := Option.some.inj h
       refine LWP.ret (QG.mk (.inr rfl) (.cons (.tmp (x := (e_int (3 : Int))) rfl) (.cons (.tmp (x := (e_bool true)) rfl) (.nil))) (RetOK.many0 (.cons (.pure rfl) (.cons (.pure rfl) (.nil))) (by simp) (by decide)) rfl rfl)
      ·have h := bF h22 h
       refine LWP.skip (hN3 _ ?_)
       refine LWP.seq_k fun N24 hN24 => ?_
       refine LWP.region (l := [_,_,_,_]) ?_
       refine LWo.move (.clo f_impl_Part_kind_1 [(.fp (e_Lint a2).cells)]) rfl (hn := ?_)
       refine bk h fun x25 e25 h => ?_
       refine LWo.vcall rfl rfl (c_impl_Part_kind_1 _ _ _ e25) (.same (.same (.nil))) (hn := ?_)
       refine LWo.assign (e_int (3 : Int)) rfl (hn := ?_)
       refine LWo.assign (e_bool x25) rfl (hn := ?_)
       refine LWo.nil (hN24 _ ?_)
       obtain rfl := Option.some.inj h
       refine LWP.ret (QG.mk (.inr rfl) (.cons (.tmp (x := (e_int (3 : Int))) rfl) (.cons (.tmp (x := (e_bool x25)) rfl) (.nil))) (RetOK.many0 (.cons (.pure rfl) (.cons (.pure rfl) (.nil))) (by simp) (by decide)) rfl rfl)

def m_impl_ExprKind_j3 (o1005 : (List Int)) : Option Int :=
  bif ((o1005.length : Int) != (1 : Int)) then (some (-1 : Int))
  else ((at? o1005 (0 : Int)).bind fun x46 =>
  (at? o1005 (0 : Int)).bind fun x47 =>
  some x47)
def m_impl_ExprKind_j2 (k1 : (List S_impl_Column) → (List S_impl_Part) → Int → Int → (List Int) → Option Int) (t0 : (List S_impl_Column)) (t8 : Int) (t19 : (List S_impl_Part)) (t20 : Int) (t21 : Int) (t36 : Bool) (o7 : S_impl_Part) (o1005 : (List Int)) : Option Int :=
  bif t36 then (some (-1 : Int))
  else ((ckI ((o1005.length : Int) - t8)).bind fun x29 =>
  (rng? x29 ((o1005).length : Int) ((o1005).length)).bind fun u30 =>
  (leN ((0 + (x29).toNat) + ((o1005).length - (x29).toNat)) o1005.length).bind fun u31 =>
  (m_impl_Part_kind o7 t0 ((o1005.drop (0 + (x29).toNat)).take ((o1005).length - (x29).toNat))).bind fun x32 =>
  bif (!x32.2) then (some (-1 : Int))
  else ((ckI ((o1005.length : Int) - t8)).bind fun x37 =>
  (rng? (0 : Int) x37 ((o1005).length)).bind fun u38 =>
  (appT? o1005 ((x37).toNat) ([x32.1] : (List Int))).bind fun x39 =>
  (ckI (t21 + (1 : Int))).bind fun x40 =>
  k1 t0 t19 t20 x40 x39))
def m_impl_ExprKind_l1 : Nat → (List S_impl_Column) → (List S_impl_Part) → Int → Int → (List Int) → Option Int
  | 0, _, _, _, _, _ => none
  | n1 + 1, t0, t19, t20, t21, o1005 =>
    bif decide (t21 < t20) then ((at? t19 t21).bind fun x18 =>
    lt (x18) fun y19 =>
    (m_impl_Part_takes y19).bind fun x21 =>
    (m_impl_Part_tells y19 t0).bind fun x24 =>
    bif (!x24) then (m_impl_ExprKind_j2  (m_impl_ExprKind_l1  n1) t0 x21 t19 t20 t21 true y19 o1005)
    else (m_impl_ExprKind_j2  (m_impl_ExprKind_l1  n1) t0 x21 t19 t20 t21 (decide ((o1005.length : Int) < x21)) y19 o1005))
    else (m_impl_ExprKind_j3  o1005)
def m_impl_ExprKind_j1 (t0 : (List S_impl_Column)) (t1 : (List S_impl_Part)) (t18 : Bool) : Option Int :=
  bif t18 then (some (-1 : Int))
  else (m_impl_ExprKind_l1  (((t1.length : Int) - (0 : Int)).toNat + 1) t0 t1 (t1.length : Int) (0 : Int) ([] : (List Int)))
def m_impl_ExprKind (a0 : (List S_impl_Column)) (a1 : (List S_impl_Part)) : Option Int :=
  (m_impl_ColumnsOk a0).bind fun x4 =>
  bif (!x4) then (m_impl_ExprKind_j1  a0 a1 true)
  else (m_impl_ExprKind_j1  a0 a1 (decide ((a1.length : Int) > (12 : Int))))
theorem c_impl_ExprKind (a0 : (List S_impl_Column)) (a1 : (List S_impl_Part)) (r : Int) (h : m_impl_ExprKind a0 a1 = some r) : Ret Try.prog f_impl_ExprKind [e_Limpl_Column a0, e_Limpl_Part a1] (e_int r) := by
  refine Does.goG [] F_impl_ExprKind rfl e_impl_ExprKind n_impl_ExprKind rfl (rvs := [.tmp 4]) rfl rfl ?_
  intro w0 ok0 lent ρ0
  refine LWP.seq_k fun N1 hN1 => ?_
  refine LWP.region (l := [_]) ?_
  refine LWo.assign (e_int (0 : Int)) rfl (hn := ?_)
  refine LWo.nil (hN1 _ ?_)
  refine LWP.seq_k fun N2 hN2 => ?_
  refine LWP.join (α := (List S_impl_Column) × (List S_impl_Part) × Bool) (fun z : (List S_impl_Column) × (List S_impl_Part) × Bool => [(0, (e_Limpl_Column z.1)), (1, (e_Limpl_Part z.2.1)), (18, (e_bool z.2.2))]) (fun z : (List S_impl_Column) × (List S_impl_Part) × Bool => []) (fun z : (List S_impl_Column) × (List S_impl_Part) × Bool => m_impl_ExprKind_j1  z.1 z.2.1 z.2.2) r (fun _ => by simp [hkeys]) ?_ ?_
  ·rintro ⟨t0, t1, t18⟩ h
   replace h : m_impl_ExprKind_j1  t0 t1 t18 = some _ := h
   refine LWP.cond_split rfl (fun h6 => ?_) (fun h6 => ?_)
   ·have h := bT h6 h
    refine LWP.seq_k fun N7 hN7 => ?_
    refine LWP.region (l := [_]) ?_
    refine LWo.assign (e_int (-1 : Int)) rfl (hn := ?_)
    refine LWo.nil (hN7 _ ?_)
    obtain rfl := Option.some.inj h
    refine LWP.ret (QG.mk (.inr rfl) (.cons (.tmp (x := (e_int (-1 : Int))) rfl) (.nil)) (RetOK.one0 (.pure rfl) (by decide)) rfl rfl)
   ·have h := bF h6 h
    refine LWP.skip (hN2 _ ?_)
    refine LWP.seq_k fun N8 hN8 => ?_
    refine LWP.region (l := [_]) ?_
    refine LWo.assign _ rfl (hn := ?_)
    refine LWo.ownNil 5 1005 1 rfl rfl rfl ?_
    refine LWo.known 5 (.own 1005 0 ([] : (List Int)).length) rfl ?_
    refine LWo.nil (hN8 _ ?_)
    refine LWP.join (α := (List Int)) (fun z : (List Int) => [(5, (.own 1005 0 (z).length))]) (fun z : (List Int) => [(1005, (lob 1 e_int z))]) (fun z : (List Int) => m_impl_ExprKind_j3  z) r (fun _ => by simp [hkeys]) ?_ ?_
    ·rintro o1005 h
     replace h : m_impl_ExprKind_j3  o1005 = some _ := h
     refine LWP.seq_k fun N41 hN41 => ?_
     refine LWP.seq_k fun N42 hN42 => ?_
     refine LWP.region (l := [_,_,_]) ?_
     refine LWo.move (.own 1005 0 (o1005).length) rfl (hn := ?_)
     refine LWo.lenO u_Lint rfl (hn := ?_)
     refine LWo.int _ rfl rfl rfl (hn := ?_)
     refine LWo.nil (hN42 _ ?_)
     refine LWP.cond_split rfl (fun h43 => ?_) (fun h43 => ?_)
     ·have h := bT h43 h
      refine LWP.seq_k fun N44 hN44 => ?_
      refine LWP.region (l := [_]) ?_
      refine LWo.assign (e_int (-1 : Int)) rfl (hn := ?_)
      refine LWo.nil (hN44 _ ?_)
      obtain rfl := Option.some.inj h
      refine LWP.ret (QG.mk (.inr rfl) (.cons (.tmp (x := (e_int (-1 : Int))) rfl) (.nil)) (RetOK.one0 (.pure rfl) (by decide)) rfl rfl)
     ·have h := bF h43 h
      refine LWP.skip (hN41 _ ?_)
      refine LWP.seq_k fun N45 hN45 => ?_
      refine LWP.region (l := [_,_,_,_]) ?_
      refine LWo.move (.own 1005 0 (o1005).length) rfl (hn := ?_)
      refine bk h fun x46 e46 h => ?_
      refine LWo.indexO e46 rfl u_Lint s_int rfl rfl rfl (hn := ?_)
      refine bk h fun x47 e47 h => ?_
      refine LWo.loadO1 (e_int x47) e47 g_int rfl rfl rfl (hn := ?_)
      refine LWo.assign (e_int x47) rfl (hn := ?_)
      refine LWo.nil (hN45 _ ?_)
      obtain rfl := Option.some.inj h
      refine LWP.ret (QG.mk (.inr rfl) (.cons (.tmp (x := (e_int x47)) rfl) (.nil)) (RetOK.one0 (.pure rfl) (by decide)) rfl rfl)
    ·intro N9 hN9
     refine LWP.seq_k fun N10 hN10 => ?_
     refine LWP.region (l := [_,_,_]) ?_
     refine LWo.move (e_Limpl_Part t1) rfl (hn := ?_)
     refine LWo.lenM (f := e_impl_Part) (l := t1) u_Limpl_Part rfl (hn := ?_)
     refine LWo.move (e_int (0 : Int)) rfl (hn := ?_)
     refine LWo.nil (hN10 _ ?_)
     refine LWP.block ?_
     refine LWP.loopM (α := (List S_impl_Column) × (List S_impl_Part) × Int × Int × (List Int)) (fun z : (List S_impl_Column) × (List S_impl_Part) × Int × Int × (List Int) => [(0, (e_Limpl_Column z.1)), (5, (.own 1005 0 (z.2.2.2.2).length)), (19, (e_Limpl_Part z.2.1)), (20, (e_int z.2.2.1)), (21, (e_int z.2.2.2.1))]) (fun z : (List S_impl_Column) × (List S_impl_Part) × Int × Int × (List Int) => [(1005, (lob 1 e_int z.2.2.2.2))]) (fun n1 (z : (List S_impl_Column) × (List S_impl_Part) × Int × Int × (List Int)) => m_impl_ExprKind_l1  n1 z.1 z.2.1 z.2.2.1 z.2.2.2.1 z.2.2.2.2) r _ (t0, t1, (t1.length : Int), (0 : Int), ([] : (List Int))) h (fun _ => rfl) (fun _ => by simp [hkeys]) ⟨rfl, rfl, rfl, rfl, rfl, trivial⟩ ⟨rfl, trivial⟩ ?_
     rintro n1 ⟨t0, t19, t20, t21, o1005⟩ h N11 hN11
     replace h : m_impl_ExprKind_l1  (n1 + 1) t0 t19 t20 t21 o1005 = some _ := h
     refine LWP.seq_k fun N13 hN13 => ?_
     refine LWP.region (l := [_]) ?_
     refine LWo.int _ rfl rfl rfl (hn := ?_)
     refine LWo.nil (hN13 _ ?_)
     refine LWP.seq_k fun N14 hN14 => ?_
     refine LWP.cond_split rfl (fun h15 => ?_) (fun h15 => ?_)
     ·have h := bT h15 h
      refine LWP.skip (hN14 _ ?_)
      refine LWP.seq_k fun N16 hN16 => ?_
      refine LWP.block ?_
      refine LWP.seq_k fun N17 hN17 => ?_
      refine LWP.region (l := [_,_,_,_]) ?_
      refine bk h fun x18 e18 h => ?_
      refine LWo.indexM (f := e_impl_Part) e18 u_Limpl_Part s_impl_Part rfl rfl (hn := ?_)
      refine LWo.loadN ((e_impl_Part x18)).cells g_impl_Part s_impl_Part rfl (Nat.le_of_ble_eq_true rfl) rfl (hn := ?_)
      refine LWo.alloc_impl_Part 7 rfl (hn := ?_)
      refine lk h fun y19 e19 h => ?_
      refine LWo.storeW (y := (⟨(0 : Int), (0 : Int), (⟨(0 : Int), (0 : Int), (⟨#[]⟩ : ByteArray)⟩ : S_impl_Value)⟩ : S_impl_Part)) y19 s_impl_Part rfl rfl rfl rfl rfl rfl (by rw [e19]; exact .refl) rfl (hn := ?_)
      refine LWo.nil (hN17 _ ?_)
      refine LWP.seq_k fun N20 hN20 => ?_
      refine LWP.region (l := [_,_,_]) ?_
      refine LWo.loadVN ((e_impl_Part y19)).cells  g_impl_Part s_impl_Part rfl rfl rfl rfl (hn := ?_)
      refine bk h fun x21 e21 h => ?_
      refine LWo.vcall rfl rfl (c_impl_Part_takes _ _ e21) (.same (.nil)) (hn := ?_)
      refine LWo.assign (e_int x21) rfl (hn := ?_)
      refine LWo.nil (hN20 _ ?_)
      refine LWP.seq_k fun N22 hN22 => ?_
      refine LWP.join (α := (List S_impl_Column) × Int × (List S_impl_Part) × Int × Int × Bool × S_impl_Part × (List Int)) (fun z : (List S_impl_Column) × Int × (List S_impl_Part) × Int × Int × Bool × S_impl_Part × (List Int) => [(0, (e_Limpl_Column z.1)), (5, (.own 1005 0 (z.2.2.2.2.2.2.2).length)), (7, (.ptr 7 0 0)), (8, (e_int z.2.1)), (19, (e_Limpl_Part z.2.2.1)), (20, (e_int z.2.2.2.1)), (21, (e_int z.2.2.2.2.1)), (36, (e_bool z.2.2.2.2.2.1))]) (fun z : (List S_impl_Column) × Int × (List S_impl_Part) × Int × Int × Bool × S_impl_Part × (List Int) => [(7, (vob 5 e_impl_Part z.2.2.2.2.2.2.1)), (1005, (lob 1 e_int z.2.2.2.2.2.2.2))]) (fun z : (List S_impl_Column) × Int × (List S_impl_Part) × Int × Int × Bool × S_impl_Part × (List Int) => m_impl_ExprKind_j2  (m_impl_ExprKind_l1  n1) z.1 z.2.1 z.2.2.1 z.2.2.2.1 z.2.2.2.2.1 z.2.2.2.2.2.1 z.2.2.2.2.2.2.1 z.2.2.2.2.2.2.2) r (fun _ => by simp [hkeys]) ?_ ?_
      ·rintro ⟨t0, t8, t19, t20, t21, t36, o7, o1005⟩ h
       replace h : m_impl_ExprKind_j2  (m_impl_ExprKind_l1  n1) t0 t8 t19 t20 t21 t36 o7 o1005 = some _ := h
       refine LWP.cond_split rfl (fun h26 => ?_) (fun h26 => ?_)
       ·have h := bT h26 h
        refine LWP.seq_k fun N27 hN27 => ?_
        refine LWP.region (l := [_]) ?_
        refine LWo.assign (e_int (-1 : Int)) rfl (hn := ?_)
        refine LWo.nil (hN27 _ ?_)
        obtain rfl := Option.some.inj h
        refine LWP.ret (QG.mk (.inr rfl) (.cons (.tmp (x := (e_int (-1 : Int))) rfl) (.nil)) (RetOK.one0 (.pure rfl) (by decide)) rfl rfl)
       ·have h := bF h26 h
        refine LWP.skip (hN22 _ ?_)
        refine LWP.seq_k fun N28 hN28 => ?_
        refine bk h fun x29 e29 h => ?_
        refine bk h fun u30 e30 h => ?_
        refine bk h fun u31 e31 h => ?_
        refine bk h fun x32 e32 h => ?_
        refine LWP.drawF (l := [_,_,_,_,_,_,_,_,_,_,_,_,_,_]) [] [0, 5, 7, 8, 19, 20, 21] [([7], [7]), ([0], []), ([5], []), ([5], []), ([41], []), ([8], []), ([42, 43], []), ([40, 44], [1005]), ([38, 39, 45], [1005]), ([46], []), ([37], []), ([37], []), ([47], []), ([48], [])] [0, 5, 8, 9, 10, 19, 20, 21] [1005] mixed (by kernel_rfl) rfl (by decide) ?_
        refine dq 38 rfl (fun _ g u h => LWo.loadVN ((e_impl_Part o7)).cells  g_impl_Part s_impl_Part u.1 h.1 rfl rfl (hn := .nil (zn g))) ?_
        refine dq 39 rfl (fun _ g u h => LWo.move (e_Limpl_Column t0) u.1 (hn := .nil (zn g))) ?_
        refine dq 40 rfl (fun _ g u h => LWo.move (.own 1005 0 (o1005).length) u.1 (hn := .nil (zn g))) ?_
        refine dq 41 rfl (fun _ g u h => LWo.move (.own 1005 0 (o1005).length) u.1 (hn := .nil (zn g))) ?_
        refine dq 42 rfl (fun _ g u h => LWo.lenO u_Lint u.1 (hn := .nil (zn g))) ?_
        refine dq 43 rfl (fun _ g u h => LWo.move (e_int t8) u.1 (hn := .nil (zn g))) ?_
        refine dq 44 rfl (fun _ g u h => LWo.int _ u.1 u.2.1 (sub_ck e29) (hn := .nil (zn g))) ?_
        refine dq 45 rfl (fun _ g u h => LWo.cutOM e30 u_Lint s_int u.1 h.1 ⟨_, u.2.1⟩ rfl (hn := .nil (zn g))) ?_
        refine dq 46 rfl (fun _ g u h => LWo.wcall rfl (av3 u.1 u.2.1 u.2.2.1) (c_impl_Part_kind _ _ _ _ e32) (.same (.same (.viewT h.1 (leN_b e31) rfl (.nil)))) rfl (hn := .nil (zn g))) ?_
        refine dq 37 rfl (fun _ g u h => LWo.move (.tup [(e_int x32.1), (e_bool x32.2)]) u.1 (hn := .nil (zn g))) ?_
        refine dq 47 rfl (fun _ g u h => LWo.extract (e_int x32.1) u.1 rfl (hn := .nil (zn g))) ?_
        refine dq 48 rfl (fun _ g u h => LWo.extract (e_bool x32.2) u.1 rfl (hn := .nil (zn g))) ?_
        refine dq 9 rfl (fun _ g u h => LWo.assign (e_int x32.1) u.1 (hn := .nil (zn g))) ?_
        refine dq 10 rfl (fun _ g u h => LWo.assign (e_bool x32.2) u.1 (hn := .nil (zn g))) ?_
        refine ⟨rfl, by kernel_rfl, hN28 _ ?_⟩
        refine LWP.seq_k fun N33 hN33 => ?_
        refine LWP.seq_k fun N34 hN34 => ?_
        refine LWP.region (l := [_,_]) ?_
        refine LWo.move (e_bool x32.2) rfl (hn := ?_)
        refine LWo.not rfl (hn := ?_)
        refine LWo.nil (hN34 _ ?_)
        refine LWP.cond_split rfl (fun h35 => ?_) (fun h35 => ?_)
        ·have h := bT h35 h
         refine LWP.seq_k fun N36 hN36 => ?_
         refine LWP.region (l := [_]) ?_
         refine LWo.assign (e_int (-1 : Int)) rfl (hn := ?_)
         refine LWo.nil (hN36 _ ?_)
         obtain rfl := Option.some.inj h
         refine LWP.ret (QG.mk (.inr rfl) (.cons (.tmp (x := (e_int (-1 : Int))) rfl) (.nil)) (RetOK.one0 (.pure rfl) (by decide)) rfl rfl)
        ·have h := bF h35 h
         refine LWP.skip (hN33 _ ?_)
         refine LWP.region (l := [_,_,_,_,_,_,_,_,_,_]) ?_
         refine LWo.move (.own 1005 0 (o1005).length) rfl (hn := ?_)
         refine LWo.move (.own 1005 0 (o1005).length) rfl (hn := ?_)
         refine LWo.lenO u_Lint rfl (hn := ?_)
         refine LWo.move (e_int t8) rfl (hn := ?_)
         refine bk h fun x37 e37 h => ?_
         refine LWo.int _ rfl rfl (sub_ck e37) (hn := ?_)
         refine bk h fun u38 e38 h => ?_
         refine LWo.cutOM e38 u_Lint s_int rfl rfl rfl ⟨_, rfl⟩ (hn := ?_)
         refine LWo.move (e_int x32.1) rfl (hn := ?_)
         refine LWo.lit (ops := [_]) [(e_int x32.1)] u_Lint s_int z_int rfl rfl rfl rfl rfl rfl (hn := ?_)
         refine bk h fun x39 e39 h => ?_
         refine LWo.appendT (f := e_int) e39 u_Lint u_Lint (fun _ h => by cases h) s_int i_int rfl rfl rfl (.m (.sl rfl)) rfl rfl (hn := ?_)
         refine LWo.assign (.own 1005 0 (x39).length) rfl (hn := ?_)
         refine LWo.nil (hN16 _ ?_)
         refine LWP.region (l := [_,_]) ?_
         refine bk h fun x40 e40 h => ?_
         refine LWo.int _ rfl rfl (add_ck e40) (hn := ?_)
         refine LWo.move (e_int x40) rfl (hn := ?_)
         refine LWo.nil (hN11 (t0, t19, t20, x40, x39) _ ⟨rfl, rfl, rfl, rfl, rfl, trivial⟩ ⟨rfl, trivial⟩ h)
      ·intro N23 hN23
       refine LWP.region (l := [_,_,_,_,_,_,_,_,_,_]) ?_
       refine LWo.loadVN ((e_impl_Part y19)).cells  g_impl_Part s_impl_Part rfl rfl rfl rfl (hn := ?_)
       refine LWo.move (e_Limpl_Column t0) rfl (hn := ?_)
       refine bk h fun x24 e24 h => ?_
       refine LWo.vcall rfl rfl (c_impl_Part_tells _ _ _ e24) (.same (.same (.nil))) (hn := ?_)
       refine LWo.not rfl (hn := ?_)
       refine LWo.move (e_bool (!x24)) rfl (hn := ?_)
       refine LWo.byCases (t := 31) _ rfl (fun h25 => ?_) (fun h25 => ?_)
       ·have h := bT h25 h
        refine LWo.guardNU (t := 31) rfl h25 rfl rfl rfl rfl rfl ?_
        refine LWo.guardNU (t := 31) rfl h25 rfl rfl rfl rfl rfl ?_
        refine LWo.guardNU (t := 31) rfl h25 rfl rfl rfl rfl rfl ?_
        refine LWo.guardNU (t := 31) rfl h25 rfl rfl rfl rfl rfl ?_
        refine LWo.pickTM (e_bool true) rfl h25 rfl (hn := ?_)
        refine LWo.nil (hN23 (t0, x21, t19, t20, t21, true, y19, o1005) _ ⟨rfl, rfl, rfl, rfl, rfl, rfl, rfl, rfl, trivial⟩ ⟨rfl, rfl, trivial⟩ h)
       ·have h := bF h25 h
        refine LWo.guardY (t := 31) rfl h25 rfl rfl ?_
        refine LWo.move (.own 1005 0 (o1005).length) rfl (hn := ?_)
        refine LWo.guardY (t := 31) rfl h25 rfl rfl ?_
        refine LWo.lenO u_Lint rfl (hn := ?_)
        refine LWo.guardY (t := 31) rfl h25 rfl rfl ?_
        refine LWo.move (e_int x21) rfl (hn := ?_)
        refine LWo.guardY (t := 31) rfl h25 rfl rfl ?_
        refine LWo.int _ rfl rfl rfl (hn := ?_)
        refine LWo.pickFM (e_bool (decide ((o1005.length : Int) < x21))) rfl h25 rfl (hn := ?_)
        refine LWo.nil (hN23 (t0, x21, t19, t20, t21, decide ((o1005.length : Int) < x21), y19, o1005) _ ⟨rfl, rfl, rfl, rfl, rfl, rfl, rfl, rfl, trivial⟩ ⟨rfl, rfl, trivial⟩ h)
     ·have h := bF h15 h
      refine LWP.exit (hN9 o1005 _ ⟨rfl, trivial⟩ ⟨rfl, trivial⟩ h)
  ·intro N3 hN3
   refine LWP.region (l := [_,_,_,_,_,_,_,_]) ?_
   refine LWo.move (e_Limpl_Column a0) rfl (hn := ?_)
   refine bk h fun x4 e4 h => ?_
   refine LWo.vcall rfl rfl (c_impl_ColumnsOk _ _ e4) (.same (.nil)) (hn := ?_)
   refine LWo.not rfl (hn := ?_)
   refine LWo.move (e_bool (!x4)) rfl (hn := ?_)
   refine LWo.byCases (t := 14) _ rfl (fun h5 => ?_) (fun h5 => ?_)
   ·have h := bT h5 h
    refine LWo.guardNU (t := 14) rfl h5 rfl rfl rfl rfl rfl ?_
    refine LWo.guardNU (t := 14) rfl h5 rfl rfl rfl rfl rfl ?_
    refine LWo.guardNU (t := 14) rfl h5 rfl rfl rfl rfl rfl ?_
    refine LWo.pickTM (e_bool true) rfl h5 rfl (hn := ?_)
    refine LWo.nil (hN3 (a0, a1, true) _ ⟨rfl, rfl, rfl, trivial⟩ trivial h)
   ·have h := bF h5 h
    refine LWo.guardY (t := 14) rfl h5 rfl rfl ?_
    refine LWo.move (e_Limpl_Part a1) rfl (hn := ?_)
    refine LWo.guardY (t := 14) rfl h5 rfl rfl ?_
    refine LWo.lenM (f := e_impl_Part) (l := a1) u_Limpl_Part rfl (hn := ?_)
    refine LWo.guardY (t := 14) rfl h5 rfl rfl ?_
    refine LWo.int _ rfl rfl rfl (hn := ?_)
    refine LWo.pickFM (e_bool (decide ((a1.length : Int) > (12 : Int)))) rfl h5 rfl (hn := ?_)
    refine LWo.nil (hN3 (a0, a1, decide ((a1.length : Int) > (12 : Int))) _ ⟨rfl, rfl, rfl, trivial⟩ trivial h)

def m_impl_bondOk_j6  : Option Bool :=
  some false
def m_impl_bondOk_j2 (t4 : Bool) : Option Bool :=
  some t4
def m_impl_bondOk_j3 (t4 : Bool) : Option Bool :=
  some t4
def m_impl_bondOk_j5  : Option Bool :=
  some true
def m_impl_bondOk_l1 : Nat → (List S_impl_Table) → S_impl_Bond → (List Int) → Int → Int → S_impl_Table → Option Bool
  | 0, _, _, _, _, _, _ => none
  | n1 + 1, t0, t3, t112, t113, t114, o5 =>
    bif decide (t114 < t113) then ((at? t112 t114).bind fun x52 =>
    (at? o5.Columns x52).bind fun x54 =>
    (at? t0 t3.Of).bind fun x55 =>
    (at? t3.To t114).bind fun x56 =>
    (at? x55.Columns x56).bind fun x57 =>
    bif (x54.Kind != x57.Kind) then (some false)
    else ((ckI (t114 + (1 : Int))).bind fun x60 =>
    (m_impl_bondOk_l1  n1) t0 t3 t112 t113 x60 o5))
    else (m_impl_bondOk_j5  )
def m_impl_bondOk_j4 (t0 : (List S_impl_Table)) (t3 : S_impl_Bond) (t110 : Bool) (o5 : S_impl_Table) : Option Bool :=
  bif t110 then (some false)
  else (m_impl_bondOk_l1  (((t3.f_List.length : Int) - (0 : Int)).toNat + 1) t0 t3 t3.f_List (t3.f_List.length : Int) (0 : Int) o5)
def m_impl_bondOk_j1 (t0 : (List S_impl_Table)) (t3 : S_impl_Bond) (t6 : Bool) (o5 : S_impl_Table) : Option Bool :=
  bif (t3.Kind == (1 : Int)) then ((m_impl_listOk o5 t3.f_List).bind fun x19 =>
    bif x19 then (bif t6 then (m_impl_bondOk_j2  ((t3.E.length : Int) == (0 : Int)))
      else (m_impl_bondOk_j2  false))
    else (m_impl_bondOk_j2  false))
  else (bif (t3.Kind == (3 : Int)) then ((m_impl_ExprKind o5.Columns t3.E).bind fun x25 =>
      bif (x25 == (3 : Int)) then (bif t6 then (m_impl_bondOk_j3  ((t3.f_List.length : Int) == (0 : Int)))
        else (m_impl_bondOk_j3  false))
      else (m_impl_bondOk_j3  false))
    else (bif (t3.Kind == (2 : Int)) then ((ckI ((t0.length : Int) - (1 : Int))).bind fun x32 =>
        (m_impl_between t3.Of (0 : Int) x32).bind fun x33 =>
        bif (!x33) then (m_impl_bondOk_j4  t0 t3 true o5)
        else (bif decide ((t3.E.length : Int) > (0 : Int)) then (m_impl_bondOk_j4  t0 t3 true o5)
          else ((m_impl_listOk o5 t3.f_List).bind fun x36 =>
            bif (!x36) then (m_impl_bondOk_j4  t0 t3 true o5)
            else ((at? t0 t3.Of).bind fun x38 =>
              (m_impl_listOk x38 t3.To).bind fun x39 =>
              bif (!x39) then (m_impl_bondOk_j4  t0 t3 true o5)
              else (m_impl_bondOk_j4  t0 t3 ((t3.To.length : Int) != (t3.f_List.length : Int)) o5)))))
      else (m_impl_bondOk_j6  )))
def m_impl_bondOk (a0 : (List S_impl_Table)) (a1 : S_impl_Bond) : Option Bool :=
  (ckI ((a0.length : Int) - (1 : Int))).bind fun x4 =>
  (m_impl_between a1.In (0 : Int) x4).bind fun x5 =>
  bif (!x5) then (some false)
  else ((at? a0 a1.In).bind fun x9 =>
  lt (x9) fun y10 =>
  bif (a1.Of == (0 : Int)) then (bif ((a1.To.length : Int) == (0 : Int)) then (m_impl_bondOk_j1  a0 a1 (!a1.Follow) y10)
    else (m_impl_bondOk_j1  a0 a1 false y10))
  else (m_impl_bondOk_j1  a0 a1 false y10))
theorem c_impl_bondOk (a0 : (List S_impl_Table)) (a1 : S_impl_Bond) (r : Bool) (h : m_impl_bondOk a0 a1 = some r) : Ret Try.prog f_impl_bondOk [e_Limpl_Table a0, e_impl_Bond a1] (e_bool r) := by
  refine Does.goG [] F_impl_bondOk rfl e_impl_bondOk n_impl_bondOk rfl (rvs := [.tmp 4]) rfl rfl ?_
  intro w0 ok0 lent ρ0
  refine LWP.seq_k fun N1 hN1 => ?_
  refine LWP.region (l := [_,_]) ?_
  refine LWo.boxF (e_impl_Bond a1) rfl rfl rfl (hn := ?_)
  refine LWo.assign (e_bool false) rfl (hn := ?_)
  refine LWo.nil (hN1 _ ?_)
  refine LWP.seq_k fun N2 hN2 => ?_
  refine LWP.seq_k fun N3 hN3 => ?_
  refine LWP.region (l := [_,_,_,_,_,_,_]) ?_
  refine LWo.fieldAddr _ u_impl_Bond rfl s_int rfl rfl (hn := ?_)
  refine LWo.load1 (c := (e_int a1.In)) g_int rfl (hn := ?_)
  refine LWo.move (e_Limpl_Table a0) rfl (hn := ?_)
  refine LWo.lenM (f := e_impl_Table) (l := a0) u_Limpl_Table rfl (hn := ?_)
  refine bk h fun x4 e4 h => ?_
  refine LWo.int _ rfl rfl (sub_ck e4) (hn := ?_)
  refine bk h fun x5 e5 h => ?_
  refine LWo.vcall rfl rfl (c_impl_between _ _ _ _ e5) (.same (.same (.same (.nil)))) (hn := ?_)
  refine LWo.not rfl (hn := ?_)
  refine LWo.nil (hN3 _ ?_)
  refine LWP.cond_split rfl (fun h6 => ?_) (fun h6 => ?_)
  ·have h := bT h6 h
   refine LWP.seq_k fun N7 hN7 => ?_
   refine LWP.region (l := [_]) ?_
   refine LWo.assign (e_bool false) rfl (hn := ?_)
   refine LWo.nil (hN7 _ ?_)
   obtain rfl := Option.some.inj h
   refine LWP.ret (QG.mk (.inr rfl) (.cons (.tmp (x := (e_bool false)) rfl) (.nil)) (RetOK.one0 (.pure rfl) (by decide)) rfl rfl)
  ·have h := bF h6 h
   refine LWP.skip (hN2 _ ?_)
   refine LWP.seq_k fun N8 hN8 => ?_
   refine LWP.region (l := [_,_,_,_,_,_,_]) ?_
   refine LWo.move (e_Limpl_Table a0) rfl (hn := ?_)
   refine LWo.fieldAddr _ u_impl_Bond rfl s_int rfl rfl (hn := ?_)
   refine LWo.load1 (c := (e_int a1.In)) g_int rfl (hn := ?_)
   refine bk h fun x9 e9 h => ?_
   refine LWo.indexM (f := e_impl_Table) e9 u_Limpl_Table s_impl_Table rfl rfl (hn := ?_)
   refine LWo.loadN ((e_impl_Table x9)).cells g_impl_Table s_impl_Table rfl (Nat.le_of_ble_eq_true rfl) rfl (hn := ?_)
   refine LWo.alloc_impl_Table 5 rfl (hn := ?_)
   refine lk h fun y10 e10 h => ?_
   refine LWo.storeW (y := (⟨[], []⟩ : S_impl_Table)) y10 s_impl_Table rfl rfl rfl rfl rfl rfl (by rw [e10]; exact .refl) rfl (hn := ?_)
   refine LWo.nil (hN8 _ ?_)
   refine LWP.join (α := (List S_impl_Table) × S_impl_Bond × Bool × S_impl_Table) (fun z : (List S_impl_Table) × S_impl_Bond × Bool × S_impl_Table => [(0, (e_Limpl_Table z.1)), (3, (.fp (e_impl_Bond z.2.1).cells)), (5, (.ptr 5 0 0)), (6, (e_bool z.2.2.1))]) (fun z : (List S_impl_Table) × S_impl_Bond × Bool × S_impl_Table => [(5, (vob 2 e_impl_Table z.2.2.2))]) (fun z : (List S_impl_Table) × S_impl_Bond × Bool × S_impl_Table => m_impl_bondOk_j1  z.1 z.2.1 z.2.2.1 z.2.2.2) r (fun _ => by simp [hkeys]) ?_ ?_
   ·rintro ⟨t0, t3, t6, o5⟩ h
    replace h : m_impl_bondOk_j1  t0 t3 t6 o5 = some _ := h
    refine LWP.join (α := Unit) (fun z : Unit => []) (fun z : Unit => []) (fun z : Unit => m_impl_bondOk_j6  ) r (fun _ => by simp [hkeys]) ?_ ?_
    ·rintro _ h
     replace h : m_impl_bondOk_j6   = some _ := h
     refine LWP.seq_k fun N62 hN62 => ?_
     refine LWP.region (l := [_]) ?_
     refine LWo.assign (e_bool false) rfl (hn := ?_)
     refine LWo.nil (hN62 _ ?_)
     obtain rfl := Option.some.inj h
     refine LWP.ret (QG.mk (.inr rfl) (.cons (.tmp (x := (e_bool false)) rfl) (.nil)) (RetOK.one0 (.pure rfl) (by decide)) rfl rfl)
    ·intro N14 hN14
     refine LWP.seq_k fun N15 hN15 => ?_
     refine LWP.region (l := [_,_]) ?_
     refine LWo.fieldAddr _ u_impl_Bond rfl s_int rfl rfl (hn := ?_)
     refine LWo.load1 (c := (e_int t3.Kind)) g_int rfl (hn := ?_)
     refine LWo.nil (hN15 _ ?_)
     refine LWP.block ?_
     refine LWP.seq_k fun N16 hN16 => ?_
     refine LWP.region (l := [_,_]) ?_
     refine LWo.int _ rfl rfl rfl (hn := ?_)
     refine LWo.assign (e_bool (t3.Kind == (1 : Int))) rfl (hn := ?_)
     refine LWo.nil (hN16 _ ?_)
     refine LWP.cond_split rfl (fun h17 => ?_) (fun h17 => ?_)
     ·have h := bT h17 h
      refine LWP.join (α := Bool) (fun z : Bool => [(4, (e_bool z))]) (fun z : Bool => []) (fun z : Bool => m_impl_bondOk_j2  z) r (fun _ => by simp [hkeys]) ?_ ?_
      ·rintro t4 h
       replace h : m_impl_bondOk_j2  t4 = some _ := h
       obtain rfl := Option.some.inj h
       refine LWP.ret (QG.mk (.inr rfl) (.cons (.tmp (x := (e_bool t4)) rfl) (.nil)) (RetOK.one0 (.pure rfl) (by decide)) rfl rfl)
      ·intro N18 hN18
       refine LWP.region (l := [_,_,_,_,_,_,_,_,_,_,_,_,_,_]) ?_
       refine LWo.loadVN ((e_impl_Table o5)).cells  g_impl_Table s_impl_Table rfl rfl rfl rfl (hn := ?_)
       refine LWo.fieldAddr _ u_impl_Bond rfl s_Lint rfl rfl (hn := ?_)
       refine LWo.load1 (c := (e_Lint t3.f_List)) g_Lint rfl (hn := ?_)
       refine bk h fun x19 e19 h => ?_
       refine LWo.vcall rfl rfl (c_impl_listOk _ _ _ e19) (.same (.same (.nil))) (hn := ?_)
       refine LWo.move (e_bool x19) rfl (hn := ?_)
       refine LWo.byCases (t := 43) _ rfl (fun h20 => ?_) (fun h20 => ?_)
       ·have h := bT h20 h
        refine LWo.guardY (t := 43) rfl h20 rfl rfl ?_
        refine LWo.move (e_bool t6) rfl (hn := ?_)
        refine LWo.pickTM (e_bool t6) rfl h20 rfl (hn := ?_)
        refine LWo.move (e_bool t6) rfl (hn := ?_)
        refine LWo.byCases (t := 46) _ rfl (fun h21 => ?_) (fun h21 => ?_)
        ·have h := bT h21 h
         refine LWo.guardY (t := 46) rfl h21 rfl rfl ?_
         refine LWo.fieldAddr _ u_impl_Bond rfl s_Limpl_Part rfl rfl (hn := ?_)
         refine LWo.guardY (t := 46) rfl h21 rfl rfl ?_
         refine LWo.load1 (c := (e_Limpl_Part t3.E)) g_Limpl_Part rfl (hn := ?_)
         refine LWo.guardY (t := 46) rfl h21 rfl rfl ?_
         refine LWo.lenM (f := e_impl_Part) (l := t3.E) u_Limpl_Part rfl (hn := ?_)
         refine LWo.guardY (t := 46) rfl h21 rfl rfl ?_
         refine LWo.int _ rfl rfl rfl (hn := ?_)
         refine LWo.pickTM (e_bool ((t3.E.length : Int) == (0 : Int))) rfl h21 rfl (hn := ?_)
         refine LWo.assign (e_bool ((t3.E.length : Int) == (0 : Int))) rfl (hn := ?_)
         refine LWo.nil (hN18 ((t3.E.length : Int) == (0 : Int)) _ ⟨rfl, trivial⟩ trivial h)
        ·have h := bF h21 h
         refine LWo.guardNU (t := 46) rfl h21 rfl rfl rfl rfl rfl ?_
         refine LWo.guardNU (t := 46) rfl h21 rfl rfl rfl rfl rfl ?_
         refine LWo.guardNU (t := 46) rfl h21 rfl rfl rfl rfl rfl ?_
         refine LWo.guardNU (t := 46) rfl h21 rfl rfl rfl rfl rfl ?_
         refine LWo.pickFM (e_bool false) rfl h21 rfl (hn := ?_)
         refine LWo.assign (e_bool false) rfl (hn := ?_)
         refine LWo.nil (hN18 false _ ⟨rfl, trivial⟩ trivial h)
       ·have h := bF h20 h
        refine LWo.guardNU (t := 43) rfl h20 rfl rfl rfl rfl rfl ?_
        refine LWo.pickFM (e_bool false) rfl h20 rfl (hn := ?_)
        refine LWo.move (e_bool false) rfl (hn := ?_)
        refine LWo.guardNU (t := 46) rfl rfl rfl rfl rfl rfl rfl ?_
        refine LWo.guardNU (t := 46) rfl rfl rfl rfl rfl rfl rfl ?_
        refine LWo.guardNU (t := 46) rfl rfl rfl rfl rfl rfl rfl ?_
        refine LWo.guardNU (t := 46) rfl rfl rfl rfl rfl rfl rfl ?_
        refine LWo.pickFM (e_bool false) rfl rfl rfl (hn := ?_)
        refine LWo.assign (e_bool false) rfl (hn := ?_)
        refine LWo.nil (hN18 false _ ⟨rfl, trivial⟩ trivial h)
     ·have h := bF h17 h
      refine LWP.seq_k fun N22 hN22 => ?_
      refine LWP.region (l := [_,_]) ?_
      refine LWo.int _ rfl rfl rfl (hn := ?_)
      refine LWo.assign (e_bool (t3.Kind == (3 : Int))) rfl (hn := ?_)
      refine LWo.nil (hN22 _ ?_)
      refine LWP.cond_split rfl (fun h23 => ?_) (fun h23 => ?_)
      ·have h := bT h23 h
       refine LWP.join (α := Bool) (fun z : Bool => [(4, (e_bool z))]) (fun z : Bool => []) (fun z : Bool => m_impl_bondOk_j3  z) r (fun _ => by simp [hkeys]) ?_ ?_
       ·rintro t4 h
        replace h : m_impl_bondOk_j3  t4 = some _ := h
        obtain rfl := Option.some.inj h
        refine LWP.ret (QG.mk (.inr rfl) (.cons (.tmp (x := (e_bool t4)) rfl) (.nil)) (RetOK.one0 (.pure rfl) (by decide)) rfl rfl)
       ·intro N24 hN24
        refine LWP.region (l := [_,_,_,_,_,_,_,_,_,_,_,_,_,_,_,_]) ?_
        refine LWo.fieldPtr u_impl_Table rfl s_Limpl_Column rfl rfl (hn := ?_)
        refine LWo.loadV1 (e_Limpl_Column o5.Columns)  g_Limpl_Column rfl rfl rfl (hn := ?_)
        refine LWo.fieldAddr _ u_impl_Bond rfl s_Limpl_Part rfl rfl (hn := ?_)
        refine LWo.load1 (c := (e_Limpl_Part t3.E)) g_Limpl_Part rfl (hn := ?_)
        refine bk h fun x25 e25 h => ?_
        refine LWo.vcall rfl rfl (c_impl_ExprKind _ _ _ e25) (.same (.same (.nil))) (hn := ?_)
        refine LWo.int _ rfl rfl rfl (hn := ?_)
        refine LWo.move (e_bool (x25 == (3 : Int))) rfl (hn := ?_)
        refine LWo.byCases (t := 60) _ rfl (fun h26 => ?_) (fun h26 => ?_)
        ·have h := bT h26 h
         refine LWo.guardY (t := 60) rfl h26 rfl rfl ?_
         refine LWo.move (e_bool t6) rfl (hn := ?_)
         refine LWo.pickTM (e_bool t6) rfl h26 rfl (hn := ?_)
         refine LWo.move (e_bool t6) rfl (hn := ?_)
         refine LWo.byCases (t := 63) _ rfl (fun h27 => ?_) (fun h27 => ?_)
         ·have h := bT h27 h
          refine LWo.guardY (t := 63) rfl h27 rfl rfl ?_
          refine LWo.fieldAddr _ u_impl_Bond rfl s_Lint rfl rfl (hn := ?_)
          refine LWo.guardY (t := 63) rfl h27 rfl rfl ?_
          refine LWo.load1 (c := (e_Lint t3.f_List)) g_Lint rfl (hn := ?_)
          refine LWo.guardY (t := 63) rfl h27 rfl rfl ?_
          refine LWo.lenM (f := e_int) (l := t3.f_List) u_Lint rfl (hn := ?_)
          refine LWo.guardY (t := 63) rfl h27 rfl rfl ?_
          refine LWo.int _ rfl rfl rfl (hn := ?_)
          refine LWo.pickTM (e_bool ((t3.f_List.length : Int) == (0 : Int))) rfl h27 rfl (hn := ?_)
          refine LWo.assign (e_bool ((t3.f_List.length : Int) == (0 : Int))) rfl (hn := ?_)
          refine LWo.nil (hN24 ((t3.f_List.length : Int) == (0 : Int)) _ ⟨rfl, trivial⟩ trivial h)
         ·have h := bF h27 h
          refine LWo.guardNU (t := 63) rfl h27 rfl rfl rfl rfl rfl ?_
          refine LWo.guardNU (t := 63) rfl h27 rfl rfl rfl rfl rfl ?_
          refine LWo.guardNU (t := 63) rfl h27 rfl rfl rfl rfl rfl ?_
          refine LWo.guardNU (t := 63) rfl h27 rfl rfl rfl rfl rfl ?_
          refine LWo.pickFM (e_bool false) rfl h27 rfl (hn := ?_)
          refine LWo.assign (e_bool false) rfl (hn := ?_)
          refine LWo.nil (hN24 false _ ⟨rfl, trivial⟩ trivial h)
        ·have h := bF h26 h
         refine LWo.guardNU (t := 60) rfl h26 rfl rfl rfl rfl rfl ?_
         refine LWo.pickFM (e_bool false) rfl h26 rfl (hn := ?_)
         refine LWo.move (e_bool false) rfl (hn := ?_)
         refine LWo.guardNU (t := 63) rfl rfl rfl rfl rfl rfl rfl ?_
         refine LWo.guardNU (t := 63) rfl rfl rfl rfl rfl rfl rfl ?_
         refine LWo.guardNU (t := 63) rfl rfl rfl rfl rfl rfl rfl ?_
         refine LWo.guardNU (t := 63) rfl rfl rfl rfl rfl rfl rfl ?_
         refine LWo.pickFM (e_bool false) rfl rfl rfl (hn := ?_)
         refine LWo.assign (e_bool false) rfl (hn := ?_)
         refine LWo.nil (hN24 false _ ⟨rfl, trivial⟩ trivial h)
      ·have h := bF h23 h
       refine LWP.seq_k fun N28 hN28 => ?_
       refine LWP.region (l := [_,_]) ?_
       refine LWo.int _ rfl rfl rfl (hn := ?_)
       refine LWo.assign (e_bool (t3.Kind == (2 : Int))) rfl (hn := ?_)
       refine LWo.nil (hN28 _ ?_)
       refine LWP.cond_split rfl (fun h29 => ?_) (fun h29 => ?_)
       ·have h := bT h29 h
        refine LWP.seq_k fun N30 hN30 => ?_
        refine LWP.join (α := (List S_impl_Table) × S_impl_Bond × Bool × S_impl_Table) (fun z : (List S_impl_Table) × S_impl_Bond × Bool × S_impl_Table => [(0, (e_Limpl_Table z.1)), (3, (.fp (e_impl_Bond z.2.1).cells)), (5, (.ptr 5 0 0)), (110, (e_bool z.2.2.1))]) (fun z : (List S_impl_Table) × S_impl_Bond × Bool × S_impl_Table => [(5, (vob 2 e_impl_Table z.2.2.2))]) (fun z : (List S_impl_Table) × S_impl_Bond × Bool × S_impl_Table => m_impl_bondOk_j4  z.1 z.2.1 z.2.2.1 z.2.2.2) r (fun _ => by simp [hkeys]) ?_ ?_
        ·rintro ⟨t0, t3, t110, o5⟩ h
         replace h : m_impl_bondOk_j4  t0 t3 t110 o5 = some _ := h
         refine LWP.cond_split rfl (fun h41 => ?_) (fun h41 => ?_)
         ·have h := bT h41 h
          refine LWP.seq_k fun N42 hN42 => ?_
          refine LWP.region (l := [_]) ?_
          refine LWo.assign (e_bool false) rfl (hn := ?_)
          refine LWo.nil (hN42 _ ?_)
          obtain rfl := Option.some.inj h
          refine LWP.ret (QG.mk (.inr rfl) (.cons (.tmp (x := (e_bool false)) rfl) (.nil)) (RetOK.one0 (.pure rfl) (by decide)) rfl rfl)
         ·have h := bF h41 h
          refine LWP.skip (hN30 _ ?_)
          refine LWP.join (α := Unit) (fun z : Unit => []) (fun z : Unit => []) (fun z : Unit => m_impl_bondOk_j5  ) r (fun _ => by simp [hkeys]) ?_ ?_
          ·rintro _ h
           replace h : m_impl_bondOk_j5   = some _ := h
           refine LWP.seq_k fun N61 hN61 => ?_
           refine LWP.region (l := [_]) ?_
           refine LWo.assign (e_bool true) rfl (hn := ?_)
           refine LWo.nil (hN61 _ ?_)
           obtain rfl := Option.some.inj h
           refine LWP.ret (QG.mk (.inr rfl) (.cons (.tmp (x := (e_bool true)) rfl) (.nil)) (RetOK.one0 (.pure rfl) (by decide)) rfl rfl)
          ·intro N43 hN43
           refine LWP.seq_k fun N44 hN44 => ?_
           refine LWP.region (l := [_,_,_,_]) ?_
           refine LWo.fieldAddr _ u_impl_Bond rfl s_Lint rfl rfl (hn := ?_)
           refine LWo.load1 (c := (e_Lint t3.f_List)) g_Lint rfl (hn := ?_)
           refine LWo.lenM (f := e_int) (l := t3.f_List) u_Lint rfl (hn := ?_)
           refine LWo.move (e_int (0 : Int)) rfl (hn := ?_)
           refine LWo.nil (hN44 _ ?_)
           refine LWP.block ?_
           refine LWP.loopM (α := (List S_impl_Table) × S_impl_Bond × (List Int) × Int × Int × S_impl_Table) (fun z : (List S_impl_Table) × S_impl_Bond × (List Int) × Int × Int × S_impl_Table => [(0, (e_Limpl_Table z.1)), (3, (.fp (e_impl_Bond z.2.1).cells)), (5, (.ptr 5 0 0)), (112, (e_Lint z.2.2.1)), (113, (e_int z.2.2.2.1)), (114, (e_int z.2.2.2.2.1))]) (fun z : (List S_impl_Table) × S_impl_Bond × (List Int) × Int × Int × S_impl_Table => [(5, (vob 2 e_impl_Table z.2.2.2.2.2))]) (fun n1 (z : (List S_impl_Table) × S_impl_Bond × (List Int) × Int × Int × S_impl_Table) => m_impl_bondOk_l1  n1 z.1 z.2.1 z.2.2.1 z.2.2.2.1 z.2.2.2.2.1 z.2.2.2.2.2) r _ (t0, t3, t3.f_List, (t3.f_List.length : Int), (0 : Int), o5) h (fun _ => rfl) (fun _ => by simp [hkeys]) ⟨rfl, rfl, rfl, rfl, rfl, rfl, trivial⟩ ⟨rfl, trivial⟩ ?_
           rintro n1 ⟨t0, t3, t112, t113, t114, o5⟩ h N45 hN45
           replace h : m_impl_bondOk_l1  (n1 + 1) t0 t3 t112 t113 t114 o5 = some _ := h
           refine LWP.seq_k fun N47 hN47 => ?_
           refine LWP.region (l := [_]) ?_
           refine LWo.int _ rfl rfl rfl (hn := ?_)
           refine LWo.nil (hN47 _ ?_)
           refine LWP.seq_k fun N48 hN48 => ?_
           refine LWP.cond_split rfl (fun h49 => ?_) (fun h49 => ?_)
           ·have h := bT h49 h
            refine LWP.skip (hN48 _ ?_)
            refine LWP.seq_k fun N50 hN50 => ?_
            refine LWP.block ?_
            refine LWP.seq_k fun N51 hN51 => ?_
            refine LWP.region (l := [_,_,_,_,_]) ?_
            refine LWo.move (e_int t114) rfl (hn := ?_)
            refine bk h fun x52 e52 h => ?_
            refine LWo.indexM (f := e_int) e52 u_Lint s_int rfl rfl (hn := ?_)
            refine LWo.load1 (c := (e_int x52)) g_int rfl (hn := ?_)
            refine LWo.assign (e_int t114) rfl (hn := ?_)
            refine LWo.assign (e_int x52) rfl (hn := ?_)
            refine LWo.nil (hN51 _ ?_)
            refine LWP.seq_k fun N53 hN53 => ?_
            refine bk h fun x54 e54 h => ?_
            refine bk h fun x55 e55 h => ?_
            refine bk h fun x56 e56 h => ?_
            refine bk h fun x57 e57 h => ?_
            refine LWP.drawF (l := [_,_,_,_,_,_,_,_,_,_,_,_,_,_,_,_,_,_,_,_,_]) [] [0, 3, 5, 7, 8, 112, 113, 114] [([5], []), ([119], [5]), ([8], []), ([120, 121], []), ([122], []), ([123], []), ([0], []), ([3], []), ([126], []), ([125, 127], []), ([128], []), ([129], []), ([3], []), ([131], []), ([7], []), ([132, 133], []), ([134], []), ([130, 135], []), ([136], []), ([137], []), ([124, 138], [])] [0, 3, 5, 112, 113, 114, 139] [5] mixed (by kernel_rfl) rfl (by decide) ?_
            refine dq 119 rfl (fun _ g u h => LWo.fieldPtr u_impl_Table rfl s_Limpl_Column u.1 rfl (hn := .nil (zn g))) ?_
            refine dq 120 rfl (fun _ g u h => LWo.loadV1 (e_Limpl_Column o5.Columns)  g_Limpl_Column u.1 h.1 rfl (hn := .nil (zn g))) ?_
            refine dq 121 rfl (fun _ g u h => LWo.move (e_int x52) u.1 (hn := .nil (zn g))) ?_
            refine dq 122 rfl (fun _ g u h => LWo.indexM (f := e_impl_Column) e54 u_Limpl_Column s_impl_Column u.1 u.2.1 (hn := .nil (zn g))) ?_
            refine dq 123 rfl (fun _ g u h => LWo.fieldAddr _ u_impl_Column rfl s_int u.1 rfl (hn := .nil (zn g))) ?_
            refine dq 124 rfl (fun _ g u h => LWo.load1 (c := (e_int x54.Kind)) g_int u.1 (hn := .nil (zn g))) ?_
            refine dq 125 rfl (fun _ g u h => LWo.move (e_Limpl_Table t0) u.1 (hn := .nil (zn g))) ?_
            refine dq 126 rfl (fun _ g u h => LWo.fieldAddr _ u_impl_Bond rfl s_int u.1 rfl (hn := .nil (zn g))) ?_
            refine dq 127 rfl (fun _ g u h => LWo.load1 (c := (e_int t3.Of)) g_int u.1 (hn := .nil (zn g))) ?_
            refine dq 128 rfl (fun _ g u h => LWo.indexM (f := e_impl_Table) e55 u_Limpl_Table s_impl_Table u.1 u.2.1 (hn := .nil (zn g))) ?_
            refine dq 129 rfl (fun _ g u h => LWo.fieldAddr _ u_impl_Table rfl s_Limpl_Column u.1 rfl (hn := .nil (zn g))) ?_
            refine dq 130 rfl (fun _ g u h => LWo.load1 (c := (e_Limpl_Column x55.Columns)) g_Limpl_Column u.1 (hn := .nil (zn g))) ?_
            refine dq 131 rfl (fun _ g u h => LWo.fieldAddr _ u_impl_Bond rfl s_Lint u.1 rfl (hn := .nil (zn g))) ?_
            refine dq 132 rfl (fun _ g u h => LWo.load1 (c := (e_Lint t3.To)) g_Lint u.1 (hn := .nil (zn g))) ?_
            refine dq 133 rfl (fun _ g u h => LWo.move (e_int t114) u.1 (hn := .nil (zn g))) ?_
            refine dq 134 rfl (fun _ g u h => LWo.indexM (f := e_int) e56 u_Lint s_int u.1 u.2.1 (hn := .nil (zn g))) ?_
            refine dq 135 rfl (fun _ g u h => LWo.load1 (c := (e_int x56)) g_int u.1 (hn := .nil (zn g))) ?_
            refine dq 136 rfl (fun _ g u h => LWo.indexM (f := e_impl_Column) e57 u_Limpl_Column s_impl_Column u.1 u.2.1 (hn := .nil (zn g))) ?_
            refine dq 137 rfl (fun _ g u h => LWo.fieldAddr _ u_impl_Column rfl s_int u.1 rfl (hn := .nil (zn g))) ?_
            refine dq 138 rfl (fun _ g u h => LWo.load1 (c := (e_int x57.Kind)) g_int u.1 (hn := .nil (zn g))) ?_
            refine dq 139 rfl (fun _ g u h => LWo.int _ u.1 u.2.1 rfl (hn := .nil (zn g))) ?_
            refine ⟨rfl, by kernel_rfl, hN53 _ ?_⟩
            refine LWP.cond_split rfl (fun h58 => ?_) (fun h58 => ?_)
            ·have h := bT h58 h
             refine LWP.seq_k fun N59 hN59 => ?_
             refine LWP.region (l := [_]) ?_
             refine LWo.assign (e_bool false) rfl (hn := ?_)
             refine LWo.nil (hN59 _ ?_)
             obtain rfl := Option.some.inj h
             refine LWP.ret (QG.mk (.inr rfl) (.cons (.tmp (x := (e_bool false)) rfl) (.nil)) (RetOK.one0 (.pure rfl) (by decide)) rfl rfl)
            ·have h := bF h58 h
             refine LWP.skip (hN50 _ ?_)
             refine LWP.region (l := [_,_]) ?_
             refine bk h fun x60 e60 h => ?_
             refine LWo.int _ rfl rfl (add_ck e60) (hn := ?_)
             refine LWo.move (e_int x60) rfl (hn := ?_)
             refine LWo.nil (hN45 (t0, t3, t112, t113, x60, o5) _ ⟨rfl, rfl, rfl, rfl, rfl, rfl, trivial⟩ ⟨rfl, trivial⟩ h)
           ·have h := bF h49 h
            refine LWP.exit (hN43 () _ trivial trivial h)
        ·intro N31 hN31
         refine bk h fun x32 e32 h => ?_
         refine bk h fun x33 e33 h => ?_
         refine bS ((!x33)) (fun h34 => ?_) (fun h34 => ?_)
         ·have h := bT h34 h
          refine LWP.drawF (l := [_,_,_,_,_,_,_,_,_,_,_,_,_,_,_,_,_,_,_,_,_,_,_,_,_,_,_,_,_,_,_,_,_,_,_,_,_,_,_,_]) [] [0, 3, 5] [([3], []), ([71], []), ([0], []), ([73], []), ([74], []), ([72, 75], []), ([76], []), ([77], []), ([3, 78], []), ([78, 79], []), ([78, 80], []), ([78, 81], []), ([78, 82], []), ([83], []), ([5, 84], []), ([3, 84], []), ([84, 86], []), ([84, 85, 87], []), ([84, 88], []), ([84, 89], []), ([90], []), ([0, 91], []), ([3, 91], []), ([91, 93], []), ([91, 92, 94], []), ([91, 95], []), ([3, 91], []), ([91, 97], []), ([91, 96, 98], []), ([91, 99], []), ([91, 100], []), ([101], []), ([3, 102], []), ([102, 103], []), ([102, 104], []), ([3, 102], []), ([102, 106], []), ([102, 107], []), ([102, 105, 108], []), ([102, 109], [])] [0, 3, 5, 110] [5] mixed (by kernel_rfl) rfl (by decide) ?_
          refine dq 71 rfl (fun _ g u h => LWo.fieldAddr _ u_impl_Bond rfl s_int u.1 rfl (hn := .nil (zn g))) ?_
          refine dq 72 rfl (fun _ g u h => LWo.load1 (c := (e_int t3.Of)) g_int u.1 (hn := .nil (zn g))) ?_
          refine dq 73 rfl (fun _ g u h => LWo.move (e_Limpl_Table t0) u.1 (hn := .nil (zn g))) ?_
          refine dq 74 rfl (fun _ g u h => LWo.lenM (f := e_impl_Table) (l := t0) u_Limpl_Table u.1 (hn := .nil (zn g))) ?_
          refine dq 75 rfl (fun _ g u h => LWo.int _ u.1 rfl (sub_ck e32) (hn := .nil (zn g))) ?_
          refine dq 76 rfl (fun _ g u h => LWo.vcall rfl (av3 u.1 rfl u.2.1) (c_impl_between _ _ _ _ e33) (.same (.same (.same (.nil)))) (hn := .nil (zn g))) ?_
          refine dq 77 rfl (fun _ g u h => LWo.not u.1 (hn := .nil (zn g))) ?_
          refine dq 78 rfl (fun _ g u h => LWo.move (e_bool (!x33)) u.1 (hn := .nil (zn g))) ?_
          refine dq 79 rfl (fun _ g u h => LWo.guardNU (t := 78) u.2.1 h34 rfl rfl rfl rfl rfl (.nil (zn g))) ?_
          refine dq 80 rfl (fun _ g u h => LWo.guardNU (t := 78) u.1 h34 rfl rfl rfl rfl rfl (.nil (zn g))) ?_
          refine dq 81 rfl (fun _ g u h => LWo.guardNU (t := 78) u.1 h34 rfl rfl rfl rfl rfl (.nil (zn g))) ?_
          refine dq 82 rfl (fun _ g u h => LWo.guardNU (t := 78) u.1 h34 rfl rfl rfl rfl rfl (.nil (zn g))) ?_
          refine dq 83 rfl (fun _ g u h => LWo.pickTM (e_bool true) u.1 h34 rfl (hn := .nil (zn g))) ?_
          refine dq 84 rfl (fun _ g u h => LWo.move (e_bool true) u.1 (hn := .nil (zn g))) ?_
          refine dq 85 rfl (fun _ g u h => LWo.guardNU (t := 84) u.2.1 rfl rfl rfl rfl rfl rfl (.nil (zn g))) ?_
          refine dq 86 rfl (fun _ g u h => LWo.guardNU (t := 84) u.2.1 rfl rfl rfl rfl rfl rfl (.nil (zn g))) ?_
          refine dq 87 rfl (fun _ g u h => LWo.guardNU (t := 84) u.1 rfl rfl rfl rfl rfl rfl (.nil (zn g))) ?_
          refine dq 88 rfl (fun _ g u h => LWo.guardNU (t := 84) u.1 rfl rfl rfl rfl rfl rfl (.nil (zn g))) ?_
          refine dq 89 rfl (fun _ g u h => LWo.guardNU (t := 84) u.1 rfl rfl rfl rfl rfl rfl (.nil (zn g))) ?_
          refine dq 90 rfl (fun _ g u h => LWo.pickTM (e_bool true) u.1 rfl rfl (hn := .nil (zn g))) ?_
          refine dq 91 rfl (fun _ g u h => LWo.move (e_bool true) u.1 (hn := .nil (zn g))) ?_
          refine dq 92 rfl (fun _ g u h => LWo.guardNU (t := 91) u.2.1 rfl rfl rfl rfl rfl rfl (.nil (zn g))) ?_
          refine dq 93 rfl (fun _ g u h => LWo.guardNU (t := 91) u.2.1 rfl rfl rfl rfl rfl rfl (.nil (zn g))) ?_
          refine dq 94 rfl (fun _ g u h => LWo.guardNU (t := 91) u.1 rfl rfl rfl rfl rfl rfl (.nil (zn g))) ?_
          refine dq 95 rfl (fun _ g u h => LWo.guardNU (t := 91) u.1 rfl rfl rfl rfl rfl rfl (.nil (zn g))) ?_
          refine dq 96 rfl (fun _ g u h => LWo.guardNU (t := 91) u.1 rfl rfl rfl rfl rfl rfl (.nil (zn g))) ?_
          refine dq 97 rfl (fun _ g u h => LWo.guardNU (t := 91) u.2.1 rfl rfl rfl rfl rfl rfl (.nil (zn g))) ?_
          refine dq 98 rfl (fun _ g u h => LWo.guardNU (t := 91) u.1 rfl rfl rfl rfl rfl rfl (.nil (zn g))) ?_
          refine dq 99 rfl (fun _ g u h => LWo.guardNU (t := 91) u.1 rfl rfl rfl rfl rfl rfl (.nil (zn g))) ?_
          refine dq 100 rfl (fun _ g u h => LWo.guardNU (t := 91) u.1 rfl rfl rfl rfl rfl rfl (.nil (zn g))) ?_
          refine dq 101 rfl (fun _ g u h => LWo.pickTM (e_bool true) u.1 rfl rfl (hn := .nil (zn g))) ?_
          refine dq 102 rfl (fun _ g u h => LWo.move (e_bool true) u.1 (hn := .nil (zn g))) ?_
          refine dq 103 rfl (fun _ g u h => LWo.guardNU (t := 102) u.2.1 rfl rfl rfl rfl rfl rfl (.nil (zn g))) ?_
          refine dq 104 rfl (fun _ g u h => LWo.guardNU (t := 102) u.1 rfl rfl rfl rfl rfl rfl (.nil (zn g))) ?_
          refine dq 105 rfl (fun _ g u h => LWo.guardNU (t := 102) u.1 rfl rfl rfl rfl rfl rfl (.nil (zn g))) ?_
          refine dq 106 rfl (fun _ g u h => LWo.guardNU (t := 102) u.2.1 rfl rfl rfl rfl rfl rfl (.nil (zn g))) ?_
          refine dq 107 rfl (fun _ g u h => LWo.guardNU (t := 102) u.1 rfl rfl rfl rfl rfl rfl (.nil (zn g))) ?_
          refine dq 108 rfl (fun _ g u h => LWo.guardNU (t := 102) u.1 rfl rfl rfl rfl rfl rfl (.nil (zn g))) ?_
          refine dq 109 rfl (fun _ g u h => LWo.guardNU (t := 102) u.1 rfl rfl rfl rfl rfl rfl (.nil (zn g))) ?_
          refine dq 110 rfl (fun _ g u h => LWo.pickTM (e_bool true) u.1 rfl rfl (hn := .nil (zn g))) ?_
          refine ⟨rfl, by kernel_rfl, hN31 (t0, t3, true, o5) _ ⟨rfl, rfl, rfl, rfl, trivial⟩ ⟨rfl, trivial⟩ h⟩
         ·have h := bF h34 h
          refine bS (decide ((t3.E.length : Int) > (0 : Int))) (fun h35 => ?_) (fun h35 => ?_)
          ·have h := bT h35 h
           refine LWP.drawF (l := [_,_,_,_,_,_,_,_,_,_,_,_,_,_,_,_,_,_,_,_,_,_,_,_,_,_,_,_,_,_,_,_,_,_,_,_,_,_,_,_]) [] [0, 3, 5] [([3], []), ([71], []), ([0], []), ([73], []), ([74], []), ([72, 75], []), ([76], []), ([77], []), ([3, 78], []), ([78, 79], []), ([78, 80], []), ([78, 81], []), ([78, 82], []), ([83], []), ([5, 84], []), ([3, 84], []), ([84, 86], []), ([84, 85, 87], []), ([84, 88], []), ([84, 89], []), ([90], []), ([0, 91], []), ([3, 91], []), ([91, 93], []), ([91, 92, 94], []), ([91, 95], []), ([3, 91], []), ([91, 97], []), ([91, 96, 98], []), ([91, 99], []), ([91, 100], []), ([101], []), ([3, 102], []), ([102, 103], []), ([102, 104], []), ([3, 102], []), ([102, 106], []), ([102, 107], []), ([102, 105, 108], []), ([102, 109], [])] [0, 3, 5, 110] [5] mixed (by kernel_rfl) rfl (by decide) ?_
           refine dq 71 rfl (fun _ g u h => LWo.fieldAddr _ u_impl_Bond rfl s_int u.1 rfl (hn := .nil (zn g))) ?_
           refine dq 72 rfl (fun _ g u h => LWo.load1 (c := (e_int t3.Of)) g_int u.1 (hn := .nil (zn g))) ?_
           refine dq 73 rfl (fun _ g u h => LWo.move (e_Limpl_Table t0) u.1 (hn := .nil (zn g))) ?_
           refine dq 74 rfl (fun _ g u h => LWo.lenM (f := e_impl_Table) (l := t0) u_Limpl_Table u.1 (hn := .nil (zn g))) ?_
           refine dq 75 rfl (fun _ g u h => LWo.int _ u.1 rfl (sub_ck e32) (hn := .nil (zn g))) ?_
           refine dq 76 rfl (fun _ g u h => LWo.vcall rfl (av3 u.1 rfl u.2.1) (c_impl_between _ _ _ _ e33) (.same (.same (.same (.nil)))) (hn := .nil (zn g))) ?_
           refine dq 77 rfl (fun _ g u h => LWo.not u.1 (hn := .nil (zn g))) ?_
           refine dq 78 rfl (fun _ g u h => LWo.move (e_bool (!x33)) u.1 (hn := .nil (zn g))) ?_
           refine dq 79 rfl (fun _ g u h => LWo.guardY (t := 78) u.2.1 h34 rfl rfl (LWo.fieldAddr _ u_impl_Bond rfl s_Limpl_Part u.1 rfl (hn := .nil (zn g)))) ?_
           refine dq 80 rfl (fun _ g u h => LWo.guardY (t := 78) u.1 h34 rfl rfl (LWo.load1 (c := (e_Limpl_Part t3.E)) g_Limpl_Part u.2.1 (hn := .nil (zn g)))) ?_
           refine dq 81 rfl (fun _ g u h => LWo.guardY (t := 78) u.1 h34 rfl rfl (LWo.lenM (f := e_impl_Part) (l := t3.E) u_Limpl_Part u.2.1 (hn := .nil (zn g)))) ?_
           refine dq 82 rfl (fun _ g u h => LWo.guardY (t := 78) u.1 h34 rfl rfl (LWo.int _ u.2.1 rfl rfl (hn := .nil (zn g)))) ?_
           refine dq 83 rfl (fun _ g u h => LWo.pickFM (e_bool (decide ((t3.E.length : Int) > (0 : Int)))) u.1 h34 u.2.1 (hn := .nil (zn g))) ?_
           refine dq 84 rfl (fun _ g u h => LWo.move (e_bool (decide ((t3.E.length : Int) > (0 : Int)))) u.1 (hn := .nil (zn g))) ?_
           refine dq 85 rfl (fun _ g u h => LWo.guardNU (t := 84) u.2.1 h35 rfl rfl rfl rfl rfl (.nil (zn g))) ?_
           refine dq 86 rfl (fun _ g u h => LWo.guardNU (t := 84) u.2.1 h35 rfl rfl rfl rfl rfl (.nil (zn g))) ?_
           refine dq 87 rfl (fun _ g u h => LWo.guardNU (t := 84) u.1 h35 rfl rfl rfl rfl rfl (.nil (zn g))) ?_
           refine dq 88 rfl (fun _ g u h => LWo.guardNU (t := 84) u.1 h35 rfl rfl rfl rfl rfl (.nil (zn g))) ?_
           refine dq 89 rfl (fun _ g u h => LWo.guardNU (t := 84) u.1 h35 rfl rfl rfl rfl rfl (.nil (zn g))) ?_
           refine dq 90 rfl (fun _ g u h => LWo.pickTM (e_bool true) u.1 h35 rfl (hn := .nil (zn g))) ?_
           refine dq 91 rfl (fun _ g u h => LWo.move (e_bool true) u.1 (hn := .nil (zn g))) ?_
           refine dq 92 rfl (fun _ g u h => LWo.guardNU (t := 91) u.2.1 rfl rfl rfl rfl rfl rfl (.nil (zn g))) ?_
           refine dq 93 rfl (fun _ g u h => LWo.guardNU (t := 91) u.2.1 rfl rfl rfl rfl rfl rfl (.nil (zn g))) ?_
           refine dq 94 rfl (fun _ g u h => LWo.guardNU (t := 91) u.1 rfl rfl rfl rfl rfl rfl (.nil (zn g))) ?_
           refine dq 95 rfl (fun _ g u h => LWo.guardNU (t := 91) u.1 rfl rfl rfl rfl rfl rfl (.nil (zn g))) ?_
           refine dq 96 rfl (fun _ g u h => LWo.guardNU (t := 91) u.1 rfl rfl rfl rfl rfl rfl (.nil (zn g))) ?_
           refine dq 97 rfl (fun _ g u h => LWo.guardNU (t := 91) u.2.1 rfl rfl rfl rfl rfl rfl (.nil (zn g))) ?_
           refine dq 98 rfl (fun _ g u h => LWo.guardNU (t := 91) u.1 rfl rfl rfl rfl rfl rfl (.nil (zn g))) ?_
           refine dq 99 rfl (fun _ g u h => LWo.guardNU (t := 91) u.1 rfl rfl rfl rfl rfl rfl (.nil (zn g))) ?_
           refine dq 100 rfl (fun _ g u h => LWo.guardNU (t := 91) u.1 rfl rfl rfl rfl rfl rfl (.nil (zn g))) ?_
           refine dq 101 rfl (fun _ g u h => LWo.pickTM (e_bool true) u.1 rfl rfl (hn := .nil (zn g))) ?_
           refine dq 102 rfl (fun _ g u h => LWo.move (e_bool true) u.1 (hn := .nil (zn g))) ?_
           refine dq 103 rfl (fun _ g u h => LWo.guardNU (t := 102) u.2.1 rfl rfl rfl rfl rfl rfl (.nil (zn g))) ?_
           refine dq 104 rfl (fun _ g u h => LWo.guardNU (t := 102) u.1 rfl rfl rfl rfl rfl rfl (.nil (zn g))) ?_
           refine dq 105 rfl (fun _ g u h => LWo.guardNU (t := 102) u.1 rfl rfl rfl rfl rfl rfl (.nil (zn g))) ?_
           refine dq 106 rfl (fun _ g u h => LWo.guardNU (t := 102) u.2.1 rfl rfl rfl rfl rfl rfl (.nil (zn g))) ?_
           refine dq 107 rfl (fun _ g u h => LWo.guardNU (t := 102) u.1 rfl rfl rfl rfl rfl rfl (.nil (zn g))) ?_
           refine dq 108 rfl (fun _ g u h => LWo.guardNU (t := 102) u.1 rfl rfl rfl rfl rfl rfl (.nil (zn g))) ?_
           refine dq 109 rfl (fun _ g u h => LWo.guardNU (t := 102) u.1 rfl rfl rfl rfl rfl rfl (.nil (zn g))) ?_
           refine dq 110 rfl (fun _ g u h => LWo.pickTM (e_bool true) u.1 rfl rfl (hn := .nil (zn g))) ?_
           refine ⟨rfl, by kernel_rfl, hN31 (t0, t3, true, o5) _ ⟨rfl, rfl, rfl, rfl, trivial⟩ ⟨rfl, trivial⟩ h⟩
          ·have h := bF h35 h
           refine bk h fun x36 e36 h => ?_
           refine bS ((!x36)) (fun h37 => ?_) (fun h37 => ?_)
           ·have h := bT h37 h
            refine LWP.drawF (l := [_,_,_,_,_,_,_,_,_,_,_,_,_,_,_,_,_,_,_,_,_,_,_,_,_,_,_,_,_,_,_,_,_,_,_,_,_,_,_,_]) [] [0, 3, 5] [([3], []), ([71], []), ([0], []), ([73], []), ([74], []), ([72, 75], []), ([76], []), ([77], []), ([3, 78], []), ([78, 79], []), ([78, 80], []), ([78, 81], []), ([78, 82], []), ([83], []), ([5, 84], [5]), ([3, 84], []), ([84, 86], []), ([84, 85, 87], []), ([84, 88], []), ([84, 89], []), ([90], []), ([0, 91], []), ([3, 91], []), ([91, 93], []), ([91, 92, 94], []), ([91, 95], []), ([3, 91], []), ([91, 97], []), ([91, 96, 98], []), ([91, 99], []), ([91, 100], []), ([101], []), ([3, 102], []), ([102, 103], []), ([102, 104], []), ([3, 102], []), ([102, 106], []), ([102, 107], []), ([102, 105, 108], []), ([102, 109], [])] [0, 3, 5, 110] [5] mixed (by kernel_rfl) rfl (by decide) ?_
            refine dq 71 rfl (fun _ g u h => LWo.fieldAddr _ u_impl_Bond rfl s_int u.1 rfl (hn := .nil (zn g))) ?_
            refine dq 72 rfl (fun _ g u h => LWo.load1 (c := (e_int t3.Of)) g_int u.1 (hn := .nil (zn g))) ?_
            refine dq 73 rfl (fun _ g u h => LWo.move (e_Limpl_Table t0) u.1 (hn := .nil (zn g))) ?_
            refine dq 74 rfl (fun _ g u h => LWo.lenM (f := e_impl_Table) (l := t0) u_Limpl_Table u.1 (hn := .nil (zn g))) ?_
            refine dq 75 rfl (fun _ g u h => LWo.int _ u.1 rfl (sub_ck e32) (hn := .nil (zn g))) ?_
            refine dq 76 rfl (fun _ g u h => LWo.vcall rfl (av3 u.1 rfl u.2.1) (c_impl_between _ _ _ _ e33) (.same (.same (.same (.nil)))) (hn := .nil (zn g))) ?_
            refine dq 77 rfl (fun _ g u h => LWo.not u.1 (hn := .nil (zn g))) ?_
            refine dq 78 rfl (fun _ g u h => LWo.move (e_bool (!x33)) u.1 (hn := .nil (zn g))) ?_
            refine dq 79 rfl (fun _ g u h => LWo.guardY (t := 78) u.2.1 h34 rfl rfl (LWo.fieldAddr _ u_impl_Bond rfl s_Limpl_Part u.1 rfl (hn := .nil (zn g)))) ?_
            refine dq 80 rfl (fun _ g u h => LWo.guardY (t := 78) u.1 h34 rfl rfl (LWo.load1 (c := (e_Limpl_Part t3.E)) g_Limpl_Part u.2.1 (hn := .nil (zn g)))) ?_
            refine dq 81 rfl (fun _ g u h => LWo.guardY (t := 78) u.1 h34 rfl rfl (LWo.lenM (f := e_impl_Part) (l := t3.E) u_Limpl_Part u.2.1 (hn := .nil (zn g)))) ?_
            refine dq 82 rfl (fun _ g u h => LWo.guardY (t := 78) u.1 h34 rfl rfl (LWo.int _ u.2.1 rfl rfl (hn := .nil (zn g)))) ?_
            refine dq 83 rfl (fun _ g u h => LWo.pickFM (e_bool (decide ((t3.E.length : Int) > (0 : Int)))) u.1 h34 u.2.1 (hn := .nil (zn g))) ?_
            refine dq 84 rfl (fun _ g u h => LWo.move (e_bool (decide ((t3.E.length : Int) > (0 : Int)))) u.1 (hn := .nil (zn g))) ?_
            refine dq 85 rfl (fun _ g u h => LWo.guardY (t := 84) u.2.1 h35 rfl rfl (LWo.loadVN ((e_impl_Table o5)).cells  g_impl_Table s_impl_Table u.1 h.1 rfl rfl (hn := .nil (zn g)))) ?_
            refine dq 86 rfl (fun _ g u h => LWo.guardY (t := 84) u.2.1 h35 rfl rfl (LWo.fieldAddr _ u_impl_Bond rfl s_Lint u.1 rfl (hn := .nil (zn g)))) ?_
            refine dq 87 rfl (fun _ g u h => LWo.guardY (t := 84) u.1 h35 rfl rfl (LWo.load1 (c := (e_Lint t3.f_List)) g_Lint u.2.1 (hn := .nil (zn g)))) ?_
            refine dq 88 rfl (fun _ g u h => LWo.guardY (t := 84) u.1 h35 rfl rfl (LWo.vcall rfl (av2 u.2.1 u.2.2.1) (c_impl_listOk _ _ _ e36) (.same (.same (.nil))) (hn := .nil (zn g)))) ?_
            refine dq 89 rfl (fun _ g u h => LWo.guardY (t := 84) u.1 h35 rfl rfl (LWo.not u.2.1 (hn := .nil (zn g)))) ?_
            refine dq 90 rfl (fun _ g u h => LWo.pickFM (e_bool (!x36)) u.1 h35 u.2.1 (hn := .nil (zn g))) ?_
            refine dq 91 rfl (fun _ g u h => LWo.move (e_bool (!x36)) u.1 (hn := .nil (zn g))) ?_
            refine dq 92 rfl (fun _ g u h => LWo.guardNU (t := 91) u.2.1 h37 rfl rfl rfl rfl rfl (.nil (zn g))) ?_
            refine dq 93 rfl (fun _ g u h => LWo.guardNU (t := 91) u.2.1 h37 rfl rfl rfl rfl rfl (.nil (zn g))) ?_
            refine dq 94 rfl (fun _ g u h => LWo.guardNU (t := 91) u.1 h37 rfl rfl rfl rfl rfl (.nil (zn g))) ?_
            refine dq 95 rfl (fun _ g u h => LWo.guardNU (t := 91) u.1 h37 rfl rfl rfl rfl rfl (.nil (zn g))) ?_
            refine dq 96 rfl (fun _ g u h => LWo.guardNU (t := 91) u.1 h37 rfl rfl rfl rfl rfl (.nil (zn g))) ?_
            refine dq 97 rfl (fun _ g u h => LWo.guardNU (t := 91) u.2.1 h37 rfl rfl rfl rfl rfl (.nil (zn g))) ?_
            refine dq 98 rfl (fun _ g u h => LWo.guardNU (t := 91) u.1 h37 rfl rfl rfl rfl rfl (.nil (zn g))) ?_
            refine dq 99 rfl (fun _ g u h => LWo.guardNU (t := 91) u.1 h37 rfl rfl rfl rfl rfl (.nil (zn g))) ?_
            refine dq 100 rfl (fun _ g u h => LWo.guardNU (t := 91) u.1 h37 rfl rfl rfl rfl rfl (.nil (zn g))) ?_
            refine dq 101 rfl (fun _ g u h => LWo.pickTM (e_bool true) u.1 h37 rfl (hn := .nil (zn g))) ?_
            refine dq 102 rfl (fun _ g u h => LWo.move (e_bool true) u.1 (hn := .nil (zn g))) ?_
            refine dq 103 rfl (fun _ g u h => LWo.guardNU (t := 102) u.2.1 rfl rfl rfl rfl rfl rfl (.nil (zn g))) ?_
            refine dq 104 rfl (fun _ g u h => LWo.guardNU (t := 102) u.1 rfl rfl rfl rfl rfl rfl (.nil (zn g))) ?_
            refine dq 105 rfl (fun _ g u h => LWo.guardNU (t := 102) u.1 rfl rfl rfl rfl rfl rfl (.nil (zn g))) ?_
            refine dq 106 rfl (fun _ g u h => LWo.guardNU (t := 102) u.2.1 rfl rfl rfl rfl rfl rfl (.nil (zn g))) ?_
            refine dq 107 rfl (fun _ g u h => LWo.guardNU (t := 102) u.1 rfl rfl rfl rfl rfl rfl (.nil (zn g))) ?_
            refine dq 108 rfl (fun _ g u h => LWo.guardNU (t := 102) u.1 rfl rfl rfl rfl rfl rfl (.nil (zn g))) ?_
            refine dq 109 rfl (fun _ g u h => LWo.guardNU (t := 102) u.1 rfl rfl rfl rfl rfl rfl (.nil (zn g))) ?_
            refine dq 110 rfl (fun _ g u h => LWo.pickTM (e_bool true) u.1 rfl rfl (hn := .nil (zn g))) ?_
            refine ⟨rfl, by kernel_rfl, hN31 (t0, t3, true, o5) _ ⟨rfl, rfl, rfl, rfl, trivial⟩ ⟨rfl, trivial⟩ h⟩
           ·have h := bF h37 h
            refine bk h fun x38 e38 h => ?_
            refine bk h fun x39 e39 h => ?_
            refine bS ((!x39)) (fun h40 => ?_) (fun h40 => ?_)
            ·have h := bT h40 h
             refine LWP.drawF (l := [_,_,_,_,_,_,_,_,_,_,_,_,_,_,_,_,_,_,_,_,_,_,_,_,_,_,_,_,_,_,_,_,_,_,_,_,_,_,_,_]) [] [0, 3, 5] [([3], []), ([71], []), ([0], []), ([73], []), ([74], []), ([72, 75], []), ([76], []), ([77], []), ([3, 78], []), ([78, 79], []), ([78, 80], []), ([78, 81], []), ([78, 82], []), ([83], []), ([5, 84], [5]), ([3, 84], []), ([84, 86], []), ([84, 85, 87], []), ([84, 88], []), ([84, 89], []), ([90], []), ([0, 91], []), ([3, 91], []), ([91, 93], []), ([91, 92, 94], []), ([91, 95], []), ([3, 91], []), ([91, 97], []), ([91, 96, 98], []), ([91, 99], []), ([91, 100], []), ([101], []), ([3, 102], []), ([102, 103], []), ([102, 104], []), ([3, 102], []), ([102, 106], []), ([102, 107], []), ([102, 105, 108], []), ([102, 109], [])] [0, 3, 5, 110] [5] mixed (by kernel_rfl) rfl (by decide) ?_
             refine dq 71 rfl (fun _ g u h => LWo.fieldAddr _ u_impl_Bond rfl s_int u.1 rfl (hn := .nil (zn g))) ?_
             refine dq 72 rfl (fun _ g u h => LWo.load1 (c := (e_int t3.Of)) g_int u.1 (hn := .nil (zn g))) ?_
             refine dq 73 rfl (fun _ g u h => LWo.move (e_Limpl_Table t0) u.1 (hn := .nil (zn g))) ?_
             refine dq 74 rfl (fun _ g u h => LWo.lenM (f := e_impl_Table) (l := t0) u_Limpl_Table u.1 (hn := .nil (zn g))) ?_
             refine dq 75 rfl (fun _ g u h => LWo.int _ u.1 rfl (sub_ck e32) (hn := .nil (zn g))) ?_
             refine dq 76 rfl (fun _ g u h => LWo.vcall rfl (av3 u.1 rfl u.2.1) (c_impl_between _ _ _ _ e33) (.same (.same (.same (.nil)))) (hn := .nil (zn g))) ?_
             refine dq 77 rfl (fun _ g u h => LWo.not u.1 (hn := .nil (zn g))) ?_
             refine dq 78 rfl (fun _ g u h => LWo.move (e_bool (!x33)) u.1 (hn := .nil (zn g))) ?_
             refine dq 79 rfl (fun _ g u h => LWo.guardY (t := 78) u.2.1 h34 rfl rfl (LWo.fieldAddr _ u_impl_Bond rfl s_Limpl_Part u.1 rfl (hn := .nil (zn g)))) ?_
             refine dq 80 rfl (fun _ g u h => LWo.guardY (t := 78) u.1 h34 rfl rfl (LWo.load1 (c := (e_Limpl_Part t3.E)) g_Limpl_Part u.2.1 (hn := .nil (zn g)))) ?_
             refine dq 81 rfl (fun _ g u h => LWo.guardY (t := 78) u.1 h34 rfl rfl (LWo.lenM (f := e_impl_Part) (l := t3.E) u_Limpl_Part u.2.1 (hn := .nil (zn g)))) ?_
             refine dq 82 rfl (fun _ g u h => LWo.guardY (t := 78) u.1 h34 rfl rfl (LWo.int _ u.2.1 rfl rfl (hn := .nil (zn g)))) ?_
             refine dq 83 rfl (fun _ g u h => LWo.pickFM (e_bool (decide ((t3.E.length : Int) > (0 : Int)))) u.1 h34 u.2.1 (hn := .nil (zn g))) ?_
             refine dq 84 rfl (fun _ g u h => LWo.move (e_bool (decide ((t3.E.length : Int) > (0 : Int)))) u.1 (hn := .nil (zn g))) ?_
             refine dq 85 rfl (fun _ g u h => LWo.guardY (t := 84) u.2.1 h35 rfl rfl (LWo.loadVN ((e_impl_Table o5)).cells  g_impl_Table s_impl_Table u.1 h.1 rfl rfl (hn := .nil (zn g)))) ?_
             refine dq 86 rfl (fun _ g u h => LWo.guardY (t := 84) u.2.1 h35 rfl rfl (LWo.fieldAddr _ u_impl_Bond rfl s_Lint u.1 rfl (hn := .nil (zn g)))) ?_
             refine dq 87 rfl (fun _ g u h => LWo.guardY (t := 84) u.1 h35 rfl rfl (LWo.load1 (c := (e_Lint t3.f_List)) g_Lint u.2.1 (hn := .nil (zn g)))) ?_
             refine dq 88 rfl (fun _ g u h => LWo.guardY (t := 84) u.1 h35 rfl rfl (LWo.vcall rfl (av2 u.2.1 u.2.2.1) (c_impl_listOk _ _ _ e36) (.same (.same (.nil))) (hn := .nil (zn g)))) ?_
             refine dq 89 rfl (fun _ g u h => LWo.guardY (t := 84) u.1 h35 rfl rfl (LWo.not u.2.1 (hn := .nil (zn g)))) ?_
             refine dq 90 rfl (fun _ g u h => LWo.pickFM (e_bool (!x36)) u.1 h35 u.2.1 (hn := .nil (zn g))) ?_
             refine dq 91 rfl (fun _ g u h => LWo.move (e_bool (!x36)) u.1 (hn := .nil (zn g))) ?_
             refine dq 92 rfl (fun _ g u h => LWo.guardY (t := 91) u.2.1 h37 rfl rfl (LWo.move (e_Limpl_Table t0) u.1 (hn := .nil (zn g)))) ?_
             refine dq 93 rfl (fun _ g u h => LWo.guardY (t := 91) u.2.1 h37 rfl rfl (LWo.fieldAddr _ u_impl_Bond rfl s_int u.1 rfl (hn := .nil (zn g)))) ?_
             refine dq 94 rfl (fun _ g u h => LWo.guardY (t := 91) u.1 h37 rfl rfl (LWo.load1 (c := (e_int t3.Of)) g_int u.2.1 (hn := .nil (zn g)))) ?_
             refine dq 95 rfl (fun _ g u h => LWo.guardY (t := 91) u.1 h37 rfl rfl (LWo.indexM (f := e_impl_Table) e38 u_Limpl_Table s_impl_Table u.2.1 u.2.2.1 (hn := .nil (zn g)))) ?_
             refine dq 96 rfl (fun _ g u h => LWo.guardY (t := 91) u.1 h37 rfl rfl (LWo.loadN ((e_impl_Table x38)).cells g_impl_Table s_impl_Table u.2.1 (Nat.le_of_ble_eq_true rfl) rfl (hn := .nil (zn g)))) ?_
             refine dq 97 rfl (fun _ g u h => LWo.guardY (t := 91) u.2.1 h37 rfl rfl (LWo.fieldAddr _ u_impl_Bond rfl s_Lint u.1 rfl (hn := .nil (zn g)))) ?_
             refine dq 98 rfl (fun _ g u h => LWo.guardY (t := 91) u.1 h37 rfl rfl (LWo.load1 (c := (e_Lint t3.To)) g_Lint u.2.1 (hn := .nil (zn g)))) ?_
             refine dq 99 rfl (fun _ g u h => LWo.guardY (t := 91) u.1 h37 rfl rfl (LWo.vcall rfl (av2 u.2.1 u.2.2.1) (c_impl_listOk _ _ _ e39) (.same (.same (.nil))) (hn := .nil (zn g)))) ?_
             refine dq 100 rfl (fun _ g u h => LWo.guardY (t := 91) u.1 h37 rfl rfl (LWo.not u.2.1 (hn := .nil (zn g)))) ?_
             refine dq 101 rfl (fun _ g u h => LWo.pickFM (e_bool (!x39)) u.1 h37 u.2.1 (hn := .nil (zn g))) ?_
             refine dq 102 rfl (fun _ g u h => LWo.move (e_bool (!x39)) u.1 (hn := .nil (zn g))) ?_
             refine dq 103 rfl (fun _ g u h => LWo.guardNU (t := 102) u.2.1 h40 rfl rfl rfl rfl rfl (.nil (zn g))) ?_
             refine dq 104 rfl (fun _ g u h => LWo.guardNU (t := 102) u.1 h40 rfl rfl rfl rfl rfl (.nil (zn g))) ?_
             refine dq 105 rfl (fun _ g u h => LWo.guardNU (t := 102) u.1 h40 rfl rfl rfl rfl rfl (.nil (zn g))) ?_
             refine dq 106 rfl (fun _ g u h => LWo.guardNU (t := 102) u.2.1 h40 rfl rfl rfl rfl rfl (.nil (zn g))) ?_
             refine dq 107 rfl (fun _ g u h => LWo.guardNU (t := 102) u.1 h40 rfl rfl rfl rfl rfl (.nil (zn g))) ?_
             refine dq 108 rfl (fun _ g u h => LWo.guardNU (t := 102) u.1 h40 rfl rfl rfl rfl rfl (.nil (zn g))) ?_
             refine dq 109 rfl (fun _ g u h => LWo.guardNU (t := 102) u.1 h40 rfl rfl rfl rfl rfl (.nil (zn g))) ?_
             refine dq 110 rfl (fun _ g u h => LWo.pickTM (e_bool true) u.1 h40 rfl (hn := .nil (zn g))) ?_
             refine ⟨rfl, by kernel_rfl, hN31 (t0, t3, true, o5) _ ⟨rfl, rfl, rfl, rfl, trivial⟩ ⟨rfl, trivial⟩ h⟩
            ·have h := bF h40 h
             refine LWP.drawF (l := [_,_,_,_,_,_,_,_,_,_,_,_,_,_,_,_,_,_,_,_,_,_,_,_,_,_,_,_,_,_,_,_,_,_,_,_,_,_,_,_]) [] [0, 3, 5] [([3], []), ([71], []), ([0], []), ([73], []), ([74], []), ([72, 75], []), ([76], []), ([77], []), ([3, 78], []), ([78, 79], []), ([78, 80], []), ([78, 81], []), ([78, 82], []), ([83], []), ([5, 84], [5]), ([3, 84], []), ([84, 86], []), ([84, 85, 87], []), ([84, 88], []), ([84, 89], []), ([90], []), ([0, 91], []), ([3, 91], []), ([91, 93], []), ([91, 92, 94], []), ([91, 95], []), ([3, 91], []), ([91, 97], []), ([91, 96, 98], []), ([91, 99], []), ([91, 100], []), ([101], []), ([3, 102], []), ([102, 103], []), ([102, 104], []), ([3, 102], []), ([102, 106], []), ([102, 107], []), ([102, 105, 108], []), ([102, 109], [])] [0, 3, 5, 110] [5] mixed (by kernel_rfl) rfl (by decide) ?_
             refine dq 71 rfl (fun _ g u h => LWo.fieldAddr _ u_impl_Bond rfl s_int u.1 rfl (hn := .nil (zn g))) ?_
             refine dq 72 rfl (fun _ g u h => LWo.load1 (c := (e_int t3.Of)) g_int u.1 (hn := .nil (zn g))) ?_
             refine dq 73 rfl (fun _ g u h => LWo.move (e_Limpl_Table t0) u.1 (hn := .nil (zn g))) ?_
             refine dq 74 rfl (fun _ g u h => LWo.lenM (f := e_impl_Table) (l := t0) u_Limpl_Table u.1 (hn := .nil (zn g))) ?_
             refine dq 75 rfl (fun _ g u h => LWo.int _ u.1 rfl (sub_ck e32) (hn := .nil (zn g))) ?_
             refine dq 76 rfl (fun _ g u h => LWo.vcall rfl (av3 u.1 rfl u.2.1) (c_impl_between _ _ _ _ e33) (.same (.same (.same (.nil)))) (hn := .nil (zn g))) ?_
             refine dq 77 rfl (fun _ g u h => LWo.not u.1 (hn := .nil (zn g))) ?_
             refine dq 78 rfl (fun _ g u h => LWo.move (e_bool (!x33)) u.1 (hn := .nil (zn g))) ?_
             refine dq 79 rfl (fun _ g u h => LWo.guardY (t := 78) u.2.1 h34 rfl rfl (LWo.fieldAddr _ u_impl_Bond rfl s_Limpl_Part u.1 rfl (hn := .nil (zn g)))) ?_
             refine dq 80 rfl (fun _ g u h => LWo.guardY (t := 78) u.1 h34 rfl rfl (LWo.load1 (c := (e_Limpl_Part t3.E)) g_Limpl_Part u.2.1 (hn := .nil (zn g)))) ?_
             refine dq 81 rfl (fun _ g u h => LWo.guardY (t := 78) u.1 h34 rfl rfl (LWo.lenM (f := e_impl_Part) (l := t3.E) u_Limpl_Part u.2.1 (hn := .nil (zn g)))) ?_
             refine dq 82 rfl (fun _ g u h => LWo.guardY (t := 78) u.1 h34 rfl rfl (LWo.int _ u.2.1 rfl rfl (hn := .nil (zn g)))) ?_
             refine dq 83 rfl (fun _ g u h => LWo.pickFM (e_bool (decide ((t3.E.length : Int) > (0 : Int)))) u.1 h34 u.2.1 (hn := .nil (zn g))) ?_
             refine dq 84 rfl (fun _ g u h => LWo.move (e_bool (decide ((t3.E.length : Int) > (0 : Int)))) u.1 (hn := .nil (zn g))) ?_
             refine dq 85 rfl (fun _ g u h => LWo.guardY (t := 84) u.2.1 h35 rfl rfl (LWo.loadVN ((e_impl_Table o5)).cells  g_impl_Table s_impl_Table u.1 h.1 rfl rfl (hn := .nil (zn g)))) ?_
             refine dq 86 rfl (fun _ g u h => LWo.guardY (t := 84) u.2.1 h35 rfl rfl (LWo.fieldAddr _ u_impl_Bond rfl s_Lint u.1 rfl (hn := .nil (zn g)))) ?_
             refine dq 87 rfl (fun _ g u h => LWo.guardY (t := 84) u.1 h35 rfl rfl (LWo.load1 (c := (e_Lint t3.f_List)) g_Lint u.2.1 (hn := .nil (zn g)))) ?_
             refine dq 88 rfl (fun _ g u h => LWo.guardY (t := 84) u.1 h35 rfl rfl (LWo.vcall rfl (av2 u.2.1 u.2.2.1) (c_impl_listOk _ _ _ e36) (.same (.same (.nil))) (hn := .nil (zn g)))) ?_
             refine dq 89 rfl (fun _ g u h => LWo.guardY (t := 84) u.1 h35 rfl rfl (LWo.not u.2.1 (hn := .nil (zn g)))) ?_
             refine dq 90 rfl (fun _ g u h => LWo.pickFM (e_bool (!x36)) u.1 h35 u.2.1 (hn := .nil (zn g))) ?_
             refine dq 91 rfl (fun _ g u h => LWo.move (e_bool (!x36)) u.1 (hn := .nil (zn g))) ?_
             refine dq 92 rfl (fun _ g u h => LWo.guardY (t := 91) u.2.1 h37 rfl rfl (LWo.move (e_Limpl_Table t0) u.1 (hn := .nil (zn g)))) ?_
             refine dq 93 rfl (fun _ g u h => LWo.guardY (t := 91) u.2.1 h37 rfl rfl (LWo.fieldAddr _ u_impl_Bond rfl s_int u.1 rfl (hn := .nil (zn g)))) ?_
             refine dq 94 rfl (fun _ g u h => LWo.guardY (t := 91) u.1 h37 rfl rfl (LWo.load1 (c := (e_int t3.Of)) g_int u.2.1 (hn := .nil (zn g)))) ?_
             refine dq 95 rfl (fun _ g u h => LWo.guardY (t := 91) u.1 h37 rfl rfl (LWo.indexM (f := e_impl_Table) e38 u_Limpl_Table s_impl_Table u.2.1 u.2.2.1 (hn := .nil (zn g)))) ?_
             refine dq 96 rfl (fun _ g u h => LWo.guardY (t := 91) u.1 h37 rfl rfl (LWo.loadN ((e_impl_Table x38)).cells g_impl_Table s_impl_Table u.2.1 (Nat.le_of_ble_eq_true rfl) rfl (hn := .nil (zn g)))) ?_
             refine dq 97 rfl (fun _ g u h => LWo.guardY (t := 91) u.2.1 h37 rfl rfl (LWo.fieldAddr _ u_impl_Bond rfl s_Lint u.1 rfl (hn := .nil (zn g)))) ?_
             refine dq 98 rfl (fun _ g u h => LWo.guardY (t := 91) u.1 h37 rfl rfl (LWo.load1 (c := (e_Lint t3.To)) g_Lint u.2.1 (hn := .nil (zn g)))) ?_
             refine dq 99 rfl (fun _ g u h => LWo.guardY (t := 91) u.1 h37 rfl rfl (LWo.vcall rfl (av2 u.2.1 u.2.2.1) (c_impl_listOk _ _ _ e39) (.same (.same (.nil))) (hn := .nil (zn g)))) ?_
             refine dq 100 rfl (fun _ g u h => LWo.guardY (t := 91) u.1 h37 rfl rfl (LWo.not u.2.1 (hn := .nil (zn g)))) ?_
             refine dq 101 rfl (fun _ g u h => LWo.pickFM (e_bool (!x39)) u.1 h37 u.2.1 (hn := .nil (zn g))) ?_
             refine dq 102 rfl (fun _ g u h => LWo.move (e_bool (!x39)) u.1 (hn := .nil (zn g))) ?_
             refine dq 103 rfl (fun _ g u h => LWo.guardY (t := 102) u.2.1 h40 rfl rfl (LWo.fieldAddr _ u_impl_Bond rfl s_Lint u.1 rfl (hn := .nil (zn g)))) ?_
             refine dq 104 rfl (fun _ g u h => LWo.guardY (t := 102) u.1 h40 rfl rfl (LWo.load1 (c := (e_Lint t3.To)) g_Lint u.2.1 (hn := .nil (zn g)))) ?_
             refine dq 105 rfl (fun _ g u h => LWo.guardY (t := 102) u.1 h40 rfl rfl (LWo.lenM (f := e_int) (l := t3.To) u_Lint u.2.1 (hn := .nil (zn g)))) ?_
             refine dq 106 rfl (fun _ g u h => LWo.guardY (t := 102) u.2.1 h40 rfl rfl (LWo.fieldAddr _ u_impl_Bond rfl s_Lint u.1 rfl (hn := .nil (zn g)))) ?_
             refine dq 107 rfl (fun _ g u h => LWo.guardY (t := 102) u.1 h40 rfl rfl (LWo.load1 (c := (e_Lint t3.f_List)) g_Lint u.2.1 (hn := .nil (zn g)))) ?_
             refine dq 108 rfl (fun _ g u h => LWo.guardY (t := 102) u.1 h40 rfl rfl (LWo.lenM (f := e_int) (l := t3.f_List) u_Lint u.2.1 (hn := .nil (zn g)))) ?_
             refine dq 109 rfl (fun _ g u h => LWo.guardY (t := 102) u.1 h40 rfl rfl (LWo.int _ u.2.1 u.2.2.1 rfl (hn := .nil (zn g)))) ?_
             refine dq 110 rfl (fun _ g u h => LWo.pickFM (e_bool ((t3.To.length : Int) != (t3.f_List.length : Int))) u.1 h40 u.2.1 (hn := .nil (zn g))) ?_
             refine ⟨rfl, by kernel_rfl, hN31 (t0, t3, ((t3.To.length : Int) != (t3.f_List.length : Int)), o5) _ ⟨rfl, rfl, rfl, rfl, trivial⟩ ⟨rfl, trivial⟩ h⟩
       ·have h := bF h29 h
        refine LWP.skip (hN14 () _ trivial trivial h)
   ·intro N11 hN11
    refine LWP.region (l := [_,_,_,_,_,_,_,_,_,_,_,_,_,_,_]) ?_
    refine LWo.fieldAddr _ u_impl_Bond rfl s_int rfl rfl (hn := ?_)
    refine LWo.load1 (c := (e_int a1.Of)) g_int rfl (hn := ?_)
    refine LWo.int _ rfl rfl rfl (hn := ?_)
    refine LWo.move (e_bool (a1.Of == (0 : Int))) rfl (hn := ?_)
    refine LWo.byCases (t := 24) _ rfl (fun h12 => ?_) (fun h12 => ?_)
    ·have h := bT h12 h
     refine LWo.guardY (t := 24) rfl h12 rfl rfl ?_
     refine LWo.fieldAddr _ u_impl_Bond rfl s_Lint rfl rfl (hn := ?_)
     refine LWo.guardY (t := 24) rfl h12 rfl rfl ?_
     refine LWo.load1 (c := (e_Lint a1.To)) g_Lint rfl (hn := ?_)
     refine LWo.guardY (t := 24) rfl h12 rfl rfl ?_
     refine LWo.lenM (f := e_int) (l := a1.To) u_Lint rfl (hn := ?_)
     refine LWo.guardY (t := 24) rfl h12 rfl rfl ?_
     refine LWo.int _ rfl rfl rfl (hn := ?_)
     refine LWo.pickTM (e_bool ((a1.To.length : Int) == (0 : Int))) rfl h12 rfl (hn := ?_)
     refine LWo.move (e_bool ((a1.To.length : Int) == (0 : Int))) rfl (hn := ?_)
     refine LWo.byCases (t := 30) _ rfl (fun h13 => ?_) (fun h13 => ?_)
     ·have h := bT h13 h
      refine LWo.guardY (t := 30) rfl h13 rfl rfl ?_
      refine LWo.fieldAddr _ u_impl_Bond rfl s_bool rfl rfl (hn := ?_)
      refine LWo.guardY (t := 30) rfl h13 rfl rfl ?_
      refine LWo.load1 (c := (e_bool a1.Follow)) g_bool rfl (hn := ?_)
      refine LWo.guardY (t := 30) rfl h13 rfl rfl ?_
      refine LWo.not rfl (hn := ?_)
      refine LWo.pickTM (e_bool (!a1.Follow)) rfl h13 rfl (hn := ?_)
      refine LWo.assign (e_bool (!a1.Follow)) rfl (hn := ?_)
      refine LWo.nil (hN11 (a0, a1, (!a1.Follow), y10) _ ⟨rfl, rfl, rfl, rfl, trivial⟩ ⟨rfl, trivial⟩ h)
     ·have h := bF h13 h
      refine LWo.guardNU (t := 30) rfl h13 rfl rfl rfl rfl rfl ?_
      refine LWo.guardNU (t := 30) rfl h13 rfl rfl rfl rfl rfl ?_
      refine LWo.guardNU (t := 30) rfl h13 rfl rfl rfl rfl rfl ?_
      refine LWo.pickFM (e_bool false) rfl h13 rfl (hn := ?_)
      refine LWo.assign (e_bool false) rfl (hn := ?_)
      refine LWo.nil (hN11 (a0, a1, false, y10) _ ⟨rfl, rfl, rfl, rfl, trivial⟩ ⟨rfl, trivial⟩ h)
    ·have h := bF h12 h
     refine LWo.guardNU (t := 24) rfl h12 rfl rfl rfl rfl rfl ?_
     refine LWo.guardNU (t := 24) rfl h12 rfl rfl rfl rfl rfl ?_
     refine LWo.guardNU (t := 24) rfl h12 rfl rfl rfl rfl rfl ?_
     refine LWo.guardNU (t := 24) rfl h12 rfl rfl rfl rfl rfl ?_
     refine LWo.pickFM (e_bool false) rfl h12 rfl (hn := ?_)
     refine LWo.move (e_bool false) rfl (hn := ?_)
     refine LWo.guardNU (t := 30) rfl rfl rfl rfl rfl rfl rfl ?_
     refine LWo.guardNU (t := 30) rfl rfl rfl rfl rfl rfl rfl ?_
     refine LWo.guardNU (t := 30) rfl rfl rfl rfl rfl rfl rfl ?_
     refine LWo.pickFM (e_bool false) rfl rfl rfl (hn := ?_)
     refine LWo.assign (e_bool false) rfl (hn := ?_)
     refine LWo.nil (hN11 (a0, a1, false, y10) _ ⟨rfl, rfl, rfl, rfl, trivial⟩ ⟨rfl, trivial⟩ h)

def m_impl_BondOk_j1 (t4 : Bool) : Option Bool :=
  some t4
def m_impl_BondOk (a0 : (List S_impl_Table)) (a1 : S_impl_Bond) : Option Bool :=
  (m_impl_TablesOk a0).bind fun x3 =>
  bif x3 then ((m_impl_bondOk a0 a1).bind fun x5 =>
    m_impl_BondOk_j1  x5)
  else (m_impl_BondOk_j1  false)
theorem c_impl_BondOk (a0 : (List S_impl_Table)) (a1 : S_impl_Bond) (r : Bool) (h : m_impl_BondOk a0 a1 = some r) : Ret Try.prog f_impl_BondOk [e_Limpl_Table a0, e_impl_Bond a1] (e_bool r) := by
  refine Does.goG [] F_impl_BondOk rfl e_impl_BondOk n_impl_BondOk rfl (rvs := [.tmp 4]) rfl rfl ?_
  intro w0 ok0 lent ρ0
  refine LWP.seq_k fun N1 hN1 => ?_
  refine LWP.region (l := [_,_]) ?_
  refine LWo.boxF (e_impl_Bond a1) rfl rfl rfl (hn := ?_)
  refine LWo.assign (e_bool false) rfl (hn := ?_)
  refine LWo.nil (hN1 _ ?_)
  refine LWP.join (α := Bool) (fun z : Bool => [(4, (e_bool z))]) (fun z : Bool => []) (fun z : Bool => m_impl_BondOk_j1  z) r (fun _ => by simp [hkeys]) ?_ ?_
  ·rintro t4 h
   replace h : m_impl_BondOk_j1  t4 = some _ := h
   obtain rfl := Option.some.inj h
   refine LWP.ret (QG.mk (.inr rfl) (.cons (.tmp (x := (e_bool t4)) rfl) (.nil)) (RetOK.one0 (.pure rfl) (by decide)) rfl rfl)
  ·intro N2 hN2
   refine LWP.region (l := [_,_,_,_,_,_,_,_]) ?_
   refine LWo.move (e_Limpl_Table a0) rfl (hn := ?_)
   refine bk h fun x3 e3 h => ?_
   refine LWo.vcall rfl rfl (c_impl_TablesOk _ _ e3) (.same (.nil)) (hn := ?_)
   refine LWo.move (e_bool x3) rfl (hn := ?_)
   refine LWo.byCases (t := 7) _ rfl (fun h4 => ?_) (fun h4 => ?_)
   ·have h := bT h4 h
    refine LWo.guardY (t := 7) rfl h4 rfl rfl ?_
    refine LWo.move (e_Limpl_Table a0) rfl (hn := ?_)
    refine LWo.guardY (t := 7) rfl h4 rfl rfl ?_
    refine LWo.loadN ((e_impl_Bond a1)).cells g_impl_Bond s_impl_Bond rfl (Nat.le_of_ble_eq_true rfl) rfl (hn := ?_)
    refine bk h fun x5 e5 h => ?_
    refine LWo.guardY (t := 7) rfl h4 rfl rfl ?_
    refine LWo.vcall rfl rfl (c_impl_bondOk _ _ _ e5) (.same (.same (.nil))) (hn := ?_)
    refine LWo.pickTM (e_bool x5) rfl h4 rfl (hn := ?_)
    refine LWo.assign (e_bool x5) rfl (hn := ?_)
    refine LWo.nil (hN2 x5 _ ⟨rfl, trivial⟩ trivial h)
   ·have h := bF h4 h
    refine LWo.guardNU (t := 7) rfl h4 rfl rfl rfl rfl rfl ?_
    refine LWo.guardNU (t := 7) rfl h4 rfl rfl rfl rfl rfl ?_
    refine LWo.guardNU (t := 7) rfl h4 rfl rfl rfl rfl rfl ?_
    refine LWo.pickFM (e_bool false) rfl h4 rfl (hn := ?_)
    refine LWo.assign (e_bool false) rfl (hn := ?_)
    refine LWo.nil (hN2 false _ ⟨rfl, trivial⟩ trivial h)

def m_laws_eqColumn (a0 : S_impl_Column) (a1 : S_impl_Column) : Option Bool :=
  bif (a0.Kind != a1.Kind) then (some false)
  else (bif (a0.Empty != a1.Empty) then (some false)
  else (some true))
theorem c_laws_eqColumn (a0 : S_impl_Column) (a1 : S_impl_Column) (r : Bool) (h : m_laws_eqColumn a0 a1 = some r) : Ret Try.prog f_laws_eqColumn [e_impl_Column a0, e_impl_Column a1] (e_bool r) := by
  refine Does.goG [] F_laws_eqColumn rfl e_laws_eqColumn n_laws_eqColumn rfl (rvs := [.tmp 4]) rfl rfl ?_
  intro w0 ok0 lent ρ0
  refine LWP.seq_k fun N1 hN1 => ?_
  refine LWP.region (l := [_,_,_]) ?_
  refine LWo.boxF (e_impl_Column a0) rfl rfl rfl (hn := ?_)
  refine LWo.boxF (e_impl_Column a1) rfl rfl rfl (hn := ?_)
  refine LWo.assign (e_bool false) rfl (hn := ?_)
  refine LWo.nil (hN1 _ ?_)
  refine LWP.seq_k fun N2 hN2 => ?_
  refine LWP.seq_k fun N3 hN3 => ?_
  refine LWP.region (l := [_,_,_,_,_]) ?_
  refine LWo.fieldAddr _ u_impl_Column rfl s_int rfl rfl (hn := ?_)
  refine LWo.load1 (c := (e_int a0.Kind)) g_int rfl (hn := ?_)
  refine LWo.fieldAddr _ u_impl_Column rfl s_int rfl rfl (hn := ?_)
  refine LWo.load1 (c := (e_int a1.Kind)) g_int rfl (hn := ?_)
  refine LWo.int _ rfl rfl rfl (hn := ?_)
  refine LWo.nil (hN3 _ ?_)
  refine LWP.cond_split rfl (fun h4 => ?_) (fun h4 => ?_)
  ·have h := bT h4 h
   refine LWP.seq_k fun N5 hN5 => ?_
   refine LWP.region (l := [_]) ?_
   refine LWo.assign (e_bool false) rfl (hn := ?_)
   refine LWo.nil (hN5 _ ?_)
   obtain rfl := Option.some.inj h
   refine LWP.ret (QG.mk (.inr rfl) (.cons (.tmp (x := (e_bool false)) rfl) (.nil)) (RetOK.one0 (.pure rfl) (by decide)) rfl rfl)
  ·have h := bF h4 h
   refine LWP.skip (hN2 _ ?_)
   refine LWP.seq_k fun N6 hN6 => ?_
   refine LWP.seq_k fun N7 hN7 => ?_
   refine LWP.region (l := [_,_,_,_,_]) ?_
   refine LWo.fieldAddr _ u_impl_Column rfl s_bool rfl rfl (hn := ?_)
   refine LWo.load1 (c := (e_bool a0.Empty)) g_bool rfl (hn := ?_)
   refine LWo.fieldAddr _ u_impl_Column rfl s_bool rfl rfl (hn := ?_)
   refine LWo.load1 (c := (e_bool a1.Empty)) g_bool rfl (hn := ?_)
   refine LWo.boolNe u_bool rfl rfl (hn := ?_)
   refine LWo.nil (hN7 _ ?_)
   refine LWP.cond_split rfl (fun h8 => ?_) (fun h8 => ?_)
   ·have h := bT h8 h
    refine LWP.seq_k fun N9 hN9 => ?_
    refine LWP.region (l := [_]) ?_
    refine LWo.assign (e_bool false) rfl (hn := ?_)
    refine LWo.nil (hN9 _ ?_)
    obtain rfl := Option.some.inj h
    refine LWP.ret (QG.mk (.inr rfl) (.cons (.tmp (x := (e_bool false)) rfl) (.nil)) (RetOK.one0 (.pure rfl) (by decide)) rfl rfl)
   ·have h := bF h8 h
    refine LWP.skip (hN6 _ ?_)
    refine LWP.seq_k fun N10 hN10 => ?_
    refine LWP.region (l := [_]) ?_
    refine LWo.assign (e_bool true) rfl (hn := ?_)
    refine LWo.nil (hN10 _ ?_)
    obtain rfl := Option.some.inj h
    refine LWP.ret (QG.mk (.inr rfl) (.cons (.tmp (x := (e_bool true)) rfl) (.nil)) (RetOK.one0 (.pure rfl) (by decide)) rfl rfl)

def m_laws_eqColumnS_j1  : Option Bool :=
  some true
def m_laws_eqColumnS_l1 : Nat → (List S_impl_Column) → (List S_impl_Column) → Int → Option Bool
  | 0, _, _, _ => none
  | n1 + 1, t0, t1, t5 =>
    bif decide (t5 < (t0.length : Int)) then ((at? t0 t5).bind fun x15 =>
    (at? t1 t5).bind fun x16 =>
    (m_laws_eqColumn x15 x16).bind fun x17 =>
    bif (!x17) then (some false)
    else ((ckI (t5 + (1 : Int))).bind fun x20 =>
    (m_laws_eqColumnS_l1  n1) t0 t1 x20))
    else (m_laws_eqColumnS_j1  )
def m_laws_eqColumnS (a0 : (List S_impl_Column)) (a1 : (List S_impl_Column)) : Option Bool :=
  bif ((a0.length : Int) != (a1.length : Int)) then (some false)
  else (m_laws_eqColumnS_l1  (((a0.length : Int) - (0 : Int)).toNat + 1) a0 a1 (0 : Int))
theorem c_laws_eqColumnS (a0 : (List S_impl_Column)) (a1 : (List S_impl_Column)) (r : Bool) (h : m_laws_eqColumnS a0 a1 = some r) : Ret Try.prog f_laws_eqColumnS [e_Limpl_Column a0, e_Limpl_Column a1] (e_bool r) := by
  refine Does.goG [] F_laws_eqColumnS rfl e_laws_eqColumnS n_laws_eqColumnS rfl (rvs := [.tmp 4]) rfl rfl ?_
  intro w0 ok0 lent ρ0
  refine LWP.seq_k fun N1 hN1 => ?_
  refine LWP.region (l := [_]) ?_
  refine LWo.assign (e_bool false) rfl (hn := ?_)
  refine LWo.nil (hN1 _ ?_)
  refine LWP.seq_k fun N2 hN2 => ?_
  refine LWP.seq_k fun N3 hN3 => ?_
  refine LWP.region (l := [_,_,_,_,_]) ?_
  refine LWo.move (e_Limpl_Column a0) rfl (hn := ?_)
  refine LWo.lenM (f := e_impl_Column) (l := a0) u_Limpl_Column rfl (hn := ?_)
  refine LWo.move (e_Limpl_Column a1) rfl (hn := ?_)
  refine LWo.lenM (f := e_impl_Column) (l := a1) u_Limpl_Column rfl (hn := ?_)
  refine LWo.int _ rfl rfl rfl (hn := ?_)
  refine LWo.nil (hN3 _ ?_)
  refine LWP.cond_split rfl (fun h4 => ?_) (fun h4 => ?_)
  ·have h := bT h4 h
   refine LWP.seq_k fun N5 hN5 => ?_
   refine LWP.region (l := [_]) ?_
   refine LWo.assign (e_bool false) rfl (hn := ?_)
   refine LWo.nil (hN5 _ ?_)
   obtain rfl := Option.some.inj h
   refine LWP.ret (QG.mk (.inr rfl) (.cons (.tmp (x := (e_bool false)) rfl) (.nil)) (RetOK.one0 (.pure rfl) (by decide)) rfl rfl)
  ·have h := bF h4 h
   refine LWP.skip (hN2 _ ?_)
   refine LWP.join (α := Unit) (fun z : Unit => []) (fun z : Unit => []) (fun z : Unit => m_laws_eqColumnS_j1  ) r (fun _ => by simp [hkeys]) ?_ ?_
   ·rintro _ h
    replace h : m_laws_eqColumnS_j1   = some _ := h
    refine LWP.seq_k fun N21 hN21 => ?_
    refine LWP.region (l := [_]) ?_
    refine LWo.assign (e_bool true) rfl (hn := ?_)
    refine LWo.nil (hN21 _ ?_)
    obtain rfl := Option.some.inj h
    refine LWP.ret (QG.mk (.inr rfl) (.cons (.tmp (x := (e_bool true)) rfl) (.nil)) (RetOK.one0 (.pure rfl) (by decide)) rfl rfl)
   ·intro N6 hN6
    refine LWP.seq_k fun N7 hN7 => ?_
    refine LWP.region (l := [_]) ?_
    refine LWo.assign (e_int (0 : Int)) rfl (hn := ?_)
    refine LWo.nil (hN7 _ ?_)
    refine LWP.block ?_
    refine LWP.loopM (α := (List S_impl_Column) × (List S_impl_Column) × Int) (fun z : (List S_impl_Column) × (List S_impl_Column) × Int => [(0, (e_Limpl_Column z.1)), (1, (e_Limpl_Column z.2.1)), (5, (e_int z.2.2))]) (fun z : (List S_impl_Column) × (List S_impl_Column) × Int => []) (fun n1 (z : (List S_impl_Column) × (List S_impl_Column) × Int) => m_laws_eqColumnS_l1  n1 z.1 z.2.1 z.2.2) r _ (a0, a1, (0 : Int)) h (fun _ => rfl) (fun _ => by simp [hkeys]) ⟨rfl, rfl, rfl, trivial⟩ trivial ?_
    rintro n1 ⟨t0, t1, t5⟩ h N8 hN8
    replace h : m_laws_eqColumnS_l1  (n1 + 1) t0 t1 t5 = some _ := h
    refine LWP.seq_k fun N10 hN10 => ?_
    refine LWP.seq_k fun N11 hN11 => ?_
    refine LWP.region (l := [_,_,_,_]) ?_
    refine LWo.move (e_int t5) rfl (hn := ?_)
    refine LWo.move (e_Limpl_Column t0) rfl (hn := ?_)
    refine LWo.lenM (f := e_impl_Column) (l := t0) u_Limpl_Column rfl (hn := ?_)
    refine LWo.int _ rfl rfl rfl (hn := ?_)
    refine LWo.nil (hN11 _ ?_)
    refine LWP.cond_split rfl (fun h12 => ?_) (fun h12 => ?_)
    ·have h := bT h12 h
     refine LWP.skip (hN10 _ ?_)
     refine LWP.seq_k fun N13 hN13 => ?_
     refine LWP.block ?_
     refine LWP.seq_k fun N14 hN14 => ?_
     refine bk h fun x15 e15 h => ?_
     refine bk h fun x16 e16 h => ?_
     refine bk h fun x17 e17 h => ?_
     refine LWP.drawF (l := [_,_,_,_,_,_,_,_,_,_]) [] [0, 1, 5] [([0], []), ([5], []), ([17, 18], []), ([19], []), ([1], []), ([5], []), ([21, 22], []), ([23], []), ([20, 24], []), ([25], [])] [0, 1, 5, 26] [] mixed (by kernel_rfl) rfl (by decide) ?_
     refine dq 17 rfl (fun _ g u h => LWo.move (e_Limpl_Column t0) u.1 (hn := .nil (zn g))) ?_
     refine dq 18 rfl (fun _ g u h => LWo.move (e_int t5) u.1 (hn := .nil (zn g))) ?_
     refine dq 19 rfl (fun _ g u h => LWo.indexM (f := e_impl_Column) e15 u_Limpl_Column s_impl_Column u.1 u.2.1 (hn := .nil (zn g))) ?_
     refine dq 20 rfl (fun _ g u h => LWo.loadN ((e_impl_Column x15)).cells g_impl_Column s_impl_Column u.1 (Nat.le_of_ble_eq_true rfl) rfl (hn := .nil (zn g))) ?_
     refine dq 21 rfl (fun _ g u h => LWo.move (e_Limpl_Column t1) u.1 (hn := .nil (zn g))) ?_
     refine dq 22 rfl (fun _ g u h => LWo.move (e_int t5) u.1 (hn := .nil (zn g))) ?_
     refine dq 23 rfl (fun _ g u h => LWo.indexM (f := e_impl_Column) e16 u_Limpl_Column s_impl_Column u.1 u.2.1 (hn := .nil (zn g))) ?_
     refine dq 24 rfl (fun _ g u h => LWo.loadN ((e_impl_Column x16)).cells g_impl_Column s_impl_Column u.1 (Nat.le_of_ble_eq_true rfl) rfl (hn := .nil (zn g))) ?_
     refine dq 25 rfl (fun _ g u h => LWo.vcall rfl (av2 u.1 u.2.1) (c_laws_eqColumn _ _ _ e17) (.same (.same (.nil))) (hn := .nil (zn g))) ?_
     refine dq 26 rfl (fun _ g u h => LWo.not u.1 (hn := .nil (zn g))) ?_
     refine ⟨rfl, by kernel_rfl, hN14 _ ?_⟩
     refine LWP.cond_split rfl (fun h18 => ?_) (fun h18 => ?_)
     ·have h := bT h18 h
      refine LWP.seq_k fun N19 hN19 => ?_
      refine LWP.region (l := [_]) ?_
      refine LWo.assign (e_bool false) rfl (hn := ?_)
      refine LWo.nil (hN19 _ ?_)
      obtain rfl := Option.some.inj h
      refine LWP.ret (QG.mk (.inr rfl) (.cons (.tmp (x := (e_bool false)) rfl) (.nil)) (RetOK.one0 (.pure rfl) (by decide)) rfl rfl)
     ·have h := bF h18 h
      refine LWP.skip (hN13 _ ?_)
      refine LWP.region (l := [_,_,_]) ?_
      refine LWo.move (e_int t5) rfl (hn := ?_)
      refine bk h fun x20 e20 h => ?_
      refine LWo.int _ rfl rfl (add_ck e20) (hn := ?_)
      refine LWo.assign (e_int x20) rfl (hn := ?_)
      refine LWo.nil (hN8 (t0, t1, x20) _ ⟨rfl, rfl, rfl, trivial⟩ trivial h)
    ·have h := bF h12 h
     refine LWP.exit (hN6 () _ trivial trivial h)

def m_laws_eqValue (a0 : S_impl_Value) (a1 : S_impl_Value) : Option Bool :=
  bif (a0.Kind != a1.Kind) then (some false)
  else (bif (a0.N != a1.N) then (some false)
  else (bif (!(sEq a0.S a1.S)) then (some false)
  else (some true)))
theorem c_laws_eqValue (a0 : S_impl_Value) (a1 : S_impl_Value) (r : Bool) (h : m_laws_eqValue a0 a1 = some r) : Ret Try.prog f_laws_eqValue [e_impl_Value a0, e_impl_Value a1] (e_bool r) := by
  refine Does.goG [] F_laws_eqValue rfl e_laws_eqValue n_laws_eqValue rfl (rvs := [.tmp 4]) rfl rfl ?_
  intro w0 ok0 lent ρ0
  refine LWP.seq_k fun N1 hN1 => ?_
  refine LWP.region (l := [_,_,_]) ?_
  refine LWo.boxF (e_impl_Value a0) rfl rfl rfl (hn := ?_)
  refine LWo.boxF (e_impl_Value a1) rfl rfl rfl (hn := ?_)
  refine LWo.assign (e_bool false) rfl (hn := ?_)
  refine LWo.nil (hN1 _ ?_)
  refine LWP.seq_k fun N2 hN2 => ?_
  refine LWP.seq_k fun N3 hN3 => ?_
  refine LWP.region (l := [_,_,_,_,_]) ?_
  refine LWo.fieldAddr _ u_impl_Value rfl s_int rfl rfl (hn := ?_)
  refine LWo.load1 (c := (e_int a0.Kind)) g_int rfl (hn := ?_)
  refine LWo.fieldAddr _ u_impl_Value rfl s_int rfl rfl (hn := ?_)
  refine LWo.load1 (c := (e_int a1.Kind)) g_int rfl (hn := ?_)
  refine LWo.int _ rfl rfl rfl (hn := ?_)
  refine LWo.nil (hN3 _ ?_)
  refine LWP.cond_split rfl (fun h4 => ?_) (fun h4 => ?_)
  ·have h := bT h4 h
   refine LWP.seq_k fun N5 hN5 => ?_
   refine LWP.region (l := [_]) ?_
   refine LWo.assign (e_bool false) rfl (hn := ?_)
   refine LWo.nil (hN5 _ ?_)
   obtain rfl := Option.some.inj h
   refine LWP.ret (QG.mk (.inr rfl) (.cons (.tmp (x := (e_bool false)) rfl) (.nil)) (RetOK.one0 (.pure rfl) (by decide)) rfl rfl)
  ·have h := bF h4 h
   refine LWP.skip (hN2 _ ?_)
   refine LWP.seq_k fun N6 hN6 => ?_
   refine LWP.seq_k fun N7 hN7 => ?_
   refine LWP.region (l := [_,_,_,_,_]) ?_
   refine LWo.fieldAddr _ u_impl_Value rfl s_int rfl rfl (hn := ?_)
   refine LWo.load1 (c := (e_int a0.N)) g_int rfl (hn := ?_)
   refine LWo.fieldAddr _ u_impl_Value rfl s_int rfl rfl (hn := ?_)
   refine LWo.load1 (c := (e_int a1.N)) g_int rfl (hn := ?_)
   refine LWo.int _ rfl rfl rfl (hn := ?_)
   refine LWo.nil (hN7 _ ?_)
   refine LWP.cond_split rfl (fun h8 => ?_) (fun h8 => ?_)
   ·have h := bT h8 h
    refine LWP.seq_k fun N9 hN9 => ?_
    refine LWP.region (l := [_]) ?_
    refine LWo.assign (e_bool false) rfl (hn := ?_)
    refine LWo.nil (hN9 _ ?_)
    obtain rfl := Option.some.inj h
    refine LWP.ret (QG.mk (.inr rfl) (.cons (.tmp (x := (e_bool false)) rfl) (.nil)) (RetOK.one0 (.pure rfl) (by decide)) rfl rfl)
   ·have h := bF h8 h
    refine LWP.skip (hN6 _ ?_)
    refine LWP.seq_k fun N10 hN10 => ?_
    refine LWP.seq_k fun N11 hN11 => ?_
    refine LWP.region (l := [_,_,_,_,_]) ?_
    refine LWo.fieldAddr _ u_impl_Value rfl s_string rfl rfl (hn := ?_)
    refine LWo.load1 (c := (e_string a0.S)) g_string rfl (hn := ?_)
    refine LWo.fieldAddr _ u_impl_Value rfl s_string rfl rfl (hn := ?_)
    refine LWo.load1 (c := (e_string a1.S)) g_string rfl (hn := ?_)
    refine LWo.str _ rfl rfl rfl (hn := ?_)
    refine LWo.nil (hN11 _ ?_)
    refine LWP.cond_split rfl (fun h12 => ?_) (fun h12 => ?_)
    ·have h := bT h12 h
     refine LWP.seq_k fun N13 hN13 => ?_
     refine LWP.region (l := [_]) ?_
     refine LWo.assign (e_bool false) rfl (hn := ?_)
     refine LWo.nil (hN13 _ ?_)
     obtain rfl := Option.some.inj h
     refine LWP.ret (QG.mk (.inr rfl) (.cons (.tmp (x := (e_bool false)) rfl) (.nil)) (RetOK.one0 (.pure rfl) (by decide)) rfl rfl)
    ·have h := bF h12 h
     refine LWP.skip (hN10 _ ?_)
     refine LWP.seq_k fun N14 hN14 => ?_
     refine LWP.region (l := [_]) ?_
     refine LWo.assign (e_bool true) rfl (hn := ?_)
     refine LWo.nil (hN14 _ ?_)
     obtain rfl := Option.some.inj h
     refine LWP.ret (QG.mk (.inr rfl) (.cons (.tmp (x := (e_bool true)) rfl) (.nil)) (RetOK.one0 (.pure rfl) (by decide)) rfl rfl)

def m_laws_eqValueS_j1  : Option Bool :=
  some true
def m_laws_eqValueS_l1 : Nat → (List S_impl_Value) → (List S_impl_Value) → Int → Option Bool
  | 0, _, _, _ => none
  | n1 + 1, t0, t1, t5 =>
    bif decide (t5 < (t0.length : Int)) then ((at? t0 t5).bind fun x15 =>
    (at? t1 t5).bind fun x16 =>
    (m_laws_eqValue x15 x16).bind fun x17 =>
    bif (!x17) then (some false)
    else ((ckI (t5 + (1 : Int))).bind fun x20 =>
    (m_laws_eqValueS_l1  n1) t0 t1 x20))
    else (m_laws_eqValueS_j1  )
def m_laws_eqValueS (a0 : (List S_impl_Value)) (a1 : (List S_impl_Value)) : Option Bool :=
  bif ((a0.length : Int) != (a1.length : Int)) then (some false)
  else (m_laws_eqValueS_l1  (((a0.length : Int) - (0 : Int)).toNat + 1) a0 a1 (0 : Int))
theorem c_laws_eqValueS (a0 : (List S_impl_Value)) (a1 : (List S_impl_Value)) (r : Bool) (h : m_laws_eqValueS a0 a1 = some r) : Ret Try.prog f_laws_eqValueS [e_Limpl_Value a0, e_Limpl_Value a1] (e_bool r) := by
  refine Does.goG [] F_laws_eqValueS rfl e_laws_eqValueS n_laws_eqValueS rfl (rvs := [.tmp 4]) rfl rfl ?_
  intro w0 ok0 lent ρ0
  refine LWP.seq_k fun N1 hN1 => ?_
  refine LWP.region (l := [_]) ?_
  refine LWo.assign (e_bool false) rfl (hn := ?_)
  refine LWo.nil (hN1 _ ?_)
  refine LWP.seq_k fun N2 hN2 => ?_
  refine LWP.seq_k fun N3 hN3 => ?_
  refine LWP.region (l := [_,_,_,_,_]) ?_
  refine LWo.move (e_Limpl_Value a0) rfl (hn := ?_)
  refine LWo.lenM (f := e_impl_Value) (l := a0) u_Limpl_Value rfl (hn := ?_)
  refine LWo.move (e_Limpl_Value a1) rfl (hn := ?_)
  refine LWo.lenM (f := e_impl_Value) (l := a1) u_Limpl_Value rfl (hn := ?_)
  refine LWo.int _ rfl rfl rfl (hn := ?_)
  refine LWo.nil (hN3 _ ?_)
  refine LWP.cond_split rfl (fun h4 => ?_) (fun h4 => ?_)
  ·have h := bT h4 h
   refine LWP.seq_k fun N5 hN5 => ?_
   refine LWP.region (l := [_]) ?_
   refine LWo.assign (e_bool false) rfl (hn := ?_)
   refine LWo.nil (hN5 _ ?_)
   obtain rfl := Option.some.inj h
   refine LWP.ret (QG.mk (.inr rfl) (.cons (.tmp (x := (e_bool false)) rfl) (.nil)) (RetOK.one0 (.pure rfl) (by decide)) rfl rfl)
  ·have h := bF h4 h
   refine LWP.skip (hN2 _ ?_)
   refine LWP.join (α := Unit) (fun z : Unit => []) (fun z : Unit => []) (fun z : Unit => m_laws_eqValueS_j1  ) r (fun _ => by simp [hkeys]) ?_ ?_
   ·rintro _ h
    replace h : m_laws_eqValueS_j1   = some _ := h
    refine LWP.seq_k fun N21 hN21 => ?_
    refine LWP.region (l := [_]) ?_
    refine LWo.assign (e_bool true) rfl (hn := ?_)
    refine LWo.nil (hN21 _ ?_)
    obtain rfl := Option.some.inj h
    refine LWP.ret (QG.mk (.inr rfl) (.cons (.tmp (x := (e_bool true)) rfl) (.nil)) (RetOK.one0 (.pure rfl) (by decide)) rfl rfl)
   ·intro N6 hN6
    refine LWP.seq_k fun N7 hN7 => ?_
    refine LWP.region (l := [_]) ?_
    refine LWo.assign (e_int (0 : Int)) rfl (hn := ?_)
    refine LWo.nil (hN7 _ ?_)
    refine LWP.block ?_
    refine LWP.loopM (α := (List S_impl_Value) × (List S_impl_Value) × Int) (fun z : (List S_impl_Value) × (List S_impl_Value) × Int => [(0, (e_Limpl_Value z.1)), (1, (e_Limpl_Value z.2.1)), (5, (e_int z.2.2))]) (fun z : (List S_impl_Value) × (List S_impl_Value) × Int => []) (fun n1 (z : (List S_impl_Value) × (List S_impl_Value) × Int) => m_laws_eqValueS_l1  n1 z.1 z.2.1 z.2.2) r _ (a0, a1, (0 : Int)) h (fun _ => rfl) (fun _ => by simp [hkeys]) ⟨rfl, rfl, rfl, trivial⟩ trivial ?_
    rintro n1 ⟨t0, t1, t5⟩ h N8 hN8
    replace h : m_laws_eqValueS_l1  (n1 + 1) t0 t1 t5 = some _ := h
    refine LWP.seq_k fun N10 hN10 => ?_
    refine LWP.seq_k fun N11 hN11 => ?_
    refine LWP.region (l := [_,_,_,_]) ?_
    refine LWo.move (e_int t5) rfl (hn := ?_)
    refine LWo.move (e_Limpl_Value t0) rfl (hn := ?_)
    refine LWo.lenM (f := e_impl_Value) (l := t0) u_Limpl_Value rfl (hn := ?_)
    refine LWo.int _ rfl rfl rfl (hn := ?_)
    refine LWo.nil (hN11 _ ?_)
    refine LWP.cond_split rfl (fun h12 => ?_) (fun h12 => ?_)
    ·have h := bT h12 h
     refine LWP.skip (hN10 _ ?_)
     refine LWP.seq_k fun N13 hN13 => ?_
     refine LWP.block ?_
     refine LWP.seq_k fun N14 hN14 => ?_
     refine bk h fun x15 e15 h => ?_
     refine bk h fun x16 e16 h => ?_
     refine bk h fun x17 e17 h => ?_
     refine LWP.drawF (l := [_,_,_,_,_,_,_,_,_,_]) [] [0, 1, 5] [([0], []), ([5], []), ([17, 18], []), ([19], []), ([1], []), ([5], []), ([21, 22], []), ([23], []), ([20, 24], []), ([25], [])] [0, 1, 5, 26] [] mixed (by kernel_rfl) rfl (by decide) ?_
     refine dq 17 rfl (fun _ g u h => LWo.move (e_Limpl_Value t0) u.1 (hn := .nil (zn g))) ?_
     refine dq 18 rfl (fun _ g u h => LWo.move (e_int t5) u.1 (hn := .nil (zn g))) ?_
     refine dq 19 rfl (fun _ g u h => LWo.indexM (f := e_impl_Value) e15 u_Limpl_Value s_impl_Value u.1 u.2.1 (hn := .nil (zn g))) ?_
     refine dq 20 rfl (fun _ g u h => LWo.loadN ((e_impl_Value x15)).cells g_impl_Value s_impl_Value u.1 (Nat.le_of_ble_eq_true rfl) rfl (hn := .nil (zn g))) ?_
     refine dq 21 rfl (fun _ g u h => LWo.move (e_Limpl_Value t1) u.1 (hn := .nil (zn g))) ?_
     refine dq 22 rfl (fun _ g u h => LWo.move (e_int t5) u.1 (hn := .nil (zn g))) ?_
     refine dq 23 rfl (fun _ g u h => LWo.indexM (f := e_impl_Value) e16 u_Limpl_Value s_impl_Value u.1 u.2.1 (hn := .nil (zn g))) ?_
     refine dq 24 rfl (fun _ g u h => LWo.loadN ((e_impl_Value x16)).cells g_impl_Value s_impl_Value u.1 (Nat.le_of_ble_eq_true rfl) rfl (hn := .nil (zn g))) ?_
     refine dq 25 rfl (fun _ g u h => LWo.vcall rfl (av2 u.1 u.2.1) (c_laws_eqValue _ _ _ e17) (.same (.same (.nil))) (hn := .nil (zn g))) ?_
     refine dq 26 rfl (fun _ g u h => LWo.not u.1 (hn := .nil (zn g))) ?_
     refine ⟨rfl, by kernel_rfl, hN14 _ ?_⟩
     refine LWP.cond_split rfl (fun h18 => ?_) (fun h18 => ?_)
     ·have h := bT h18 h
      refine LWP.seq_k fun N19 hN19 => ?_
      refine LWP.region (l := [_]) ?_
      refine LWo.assign (e_bool false) rfl (hn := ?_)
      refine LWo.nil (hN19 _ ?_)
      obtain rfl := Option.some.inj h
      refine LWP.ret (QG.mk (.inr rfl) (.cons (.tmp (x := (e_bool false)) rfl) (.nil)) (RetOK.one0 (.pure rfl) (by decide)) rfl rfl)
     ·have h := bF h18 h
      refine LWP.skip (hN13 _ ?_)
      refine LWP.region (l := [_,_,_]) ?_
      refine LWo.move (e_int t5) rfl (hn := ?_)
      refine bk h fun x20 e20 h => ?_
      refine LWo.int _ rfl rfl (add_ck e20) (hn := ?_)
      refine LWo.assign (e_int x20) rfl (hn := ?_)
      refine LWo.nil (hN8 (t0, t1, x20) _ ⟨rfl, rfl, rfl, trivial⟩ trivial h)
    ·have h := bF h12 h
     refine LWP.exit (hN6 () _ trivial trivial h)

def m_laws_eqValueSS_j1  : Option Bool :=
  some true
def m_laws_eqValueSS_l1 : Nat → (List (List S_impl_Value)) → (List (List S_impl_Value)) → Int → Option Bool
  | 0, _, _, _ => none
  | n1 + 1, t0, t1, t5 =>
    bif decide (t5 < (t0.length : Int)) then ((at? t0 t5).bind fun x15 =>
    (at? t1 t5).bind fun x16 =>
    (m_laws_eqValueS x15 x16).bind fun x17 =>
    bif (!x17) then (some false)
    else ((ckI (t5 + (1 : Int))).bind fun x20 =>
    (m_laws_eqValueSS_l1  n1) t0 t1 x20))
    else (m_laws_eqValueSS_j1  )
def m_laws_eqValueSS (a0 : (List (List S_impl_Value))) (a1 : (List (List S_impl_Value))) : Option Bool :=
  bif ((a0.length : Int) != (a1.length : Int)) then (some false)
  else (m_laws_eqValueSS_l1  (((a0.length : Int) - (0 : Int)).toNat + 1) a0 a1 (0 : Int))
theorem c_laws_eqValueSS (a0 : (List (List S_impl_Value))) (a1 : (List (List S_impl_Value))) (r : Bool) (h : m_laws_eqValueSS a0 a1 = some r) : Ret Try.prog f_laws_eqValueSS [e_LLimpl_Value a0, e_LLimpl_Value a1] (e_bool r) := by
  refine Does.goG [] F_laws_eqValueSS rfl e_laws_eqValueSS n_laws_eqValueSS rfl (rvs := [.tmp 4]) rfl rfl ?_
  intro w0 ok0 lent ρ0
  refine LWP.seq_k fun N1 hN1 => ?_
  refine LWP.region (l := [_]) ?_
  refine LWo.assign (e_bool false) rfl (hn := ?_)
  refine LWo.nil (hN1 _ ?_)
  refine LWP.seq_k fun N2 hN2 => ?_
  refine LWP.seq_k fun N3 hN3 => ?_
  refine LWP.region (l := [_,_,_,_,_]) ?_
  refine LWo.move (e_LLimpl_Value a0) rfl (hn := ?_)
  refine LWo.lenM (f := e_Limpl_Value) (l := a0) u_LLimpl_Value rfl (hn := ?_)
  refine LWo.move (e_LLimpl_Value a1) rfl (hn := ?_)
  refine LWo.lenM (f := e_Limpl_Value) (l := a1) u_LLimpl_Value rfl (hn := ?_)
  refine LWo.int _ rfl rfl rfl (hn := ?_)
  refine LWo.nil (hN3 _ ?_)
  refine LWP.cond_split rfl (fun h4 => ?_) (fun h4 => ?_)
  ·have h := bT h4 h
   refine LWP.seq_k fun N5 hN5 => ?_
   refine LWP.region (l := [_]) ?_
   refine LWo.assign (e_bool false) rfl (hn := ?_)
   refine LWo.nil (hN5 _ ?_)
   obtain rfl := Option.some.inj h
   refine LWP.ret (QG.mk (.inr rfl) (.cons (.tmp (x := (e_bool false)) rfl) (.nil)) (RetOK.one0 (.pure rfl) (by decide)) rfl rfl)
  ·have h := bF h4 h
   refine LWP.skip (hN2 _ ?_)
   refine LWP.join (α := Unit) (fun z : Unit => []) (fun z : Unit => []) (fun z : Unit => m_laws_eqValueSS_j1  ) r (fun _ => by simp [hkeys]) ?_ ?_
   ·rintro _ h
    replace h : m_laws_eqValueSS_j1   = some _ := h
    refine LWP.seq_k fun N21 hN21 => ?_
    refine LWP.region (l := [_]) ?_
    refine LWo.assign (e_bool true) rfl (hn := ?_)
    refine LWo.nil (hN21 _ ?_)
    obtain rfl := Option.some.inj h
    refine LWP.ret (QG.mk (.inr rfl) (.cons (.tmp (x := (e_bool true)) rfl) (.nil)) (RetOK.one0 (.pure rfl) (by decide)) rfl rfl)
   ·intro N6 hN6
    refine LWP.seq_k fun N7 hN7 => ?_
    refine LWP.region (l := [_]) ?_
    refine LWo.assign (e_int (0 : Int)) rfl (hn := ?_)
    refine LWo.nil (hN7 _ ?_)
    refine LWP.block ?_
    refine LWP.loopM (α := (List (List S_impl_Value)) × (List (List S_impl_Value)) × Int) (fun z : (List (List S_impl_Value)) × (List (List S_impl_Value)) × Int => [(0, (e_LLimpl_Value z.1)), (1, (e_LLimpl_Value z.2.1)), (5, (e_int z.2.2))]) (fun z : (List (List S_impl_Value)) × (List (List S_impl_Value)) × Int => []) (fun n1 (z : (List (List S_impl_Value)) × (List (List S_impl_Value)) × Int) => m_laws_eqValueSS_l1  n1 z.1 z.2.1 z.2.2) r _ (a0, a1, (0 : Int)) h (fun _ => rfl) (fun _ => by simp [hkeys]) ⟨rfl, rfl, rfl, trivial⟩ trivial ?_
    rintro n1 ⟨t0, t1, t5⟩ h N8 hN8
    replace h : m_laws_eqValueSS_l1  (n1 + 1) t0 t1 t5 = some _ := h
    refine LWP.seq_k fun N10 hN10 => ?_
    refine LWP.seq_k fun N11 hN11 => ?_
    refine LWP.region (l := [_,_,_,_]) ?_
    refine LWo.move (e_int t5) rfl (hn := ?_)
    refine LWo.move (e_LLimpl_Value t0) rfl (hn := ?_)
    refine LWo.lenM (f := e_Limpl_Value) (l := t0) u_LLimpl_Value rfl (hn := ?_)
    refine LWo.int _ rfl rfl rfl (hn := ?_)
    refine LWo.nil (hN11 _ ?_)
    refine LWP.cond_split rfl (fun h12 => ?_) (fun h12 => ?_)
    ·have h := bT h12 h
     refine LWP.skip (hN10 _ ?_)
     refine LWP.seq_k fun N13 hN13 => ?_
     refine LWP.block ?_
     refine LWP.seq_k fun N14 hN14 => ?_
     refine bk h fun x15 e15 h => ?_
     refine bk h fun x16 e16 h => ?_
     refine bk h fun x17 e17 h => ?_
     refine LWP.drawF (l := [_,_,_,_,_,_,_,_,_,_]) [] [0, 1, 5] [([0], []), ([5], []), ([17, 18], []), ([19], []), ([1], []), ([5], []), ([21, 22], []), ([23], []), ([20, 24], []), ([25], [])] [0, 1, 5, 26] [] mixed (by kernel_rfl) rfl (by decide) ?_
     refine dq 17 rfl (fun _ g u h => LWo.move (e_LLimpl_Value t0) u.1 (hn := .nil (zn g))) ?_
     refine dq 18 rfl (fun _ g u h => LWo.move (e_int t5) u.1 (hn := .nil (zn g))) ?_
     refine dq 19 rfl (fun _ g u h => LWo.indexM (f := e_Limpl_Value) e15 u_LLimpl_Value s_Limpl_Value u.1 u.2.1 (hn := .nil (zn g))) ?_
     refine dq 20 rfl (fun _ g u h => LWo.load1 (c := (e_Limpl_Value x15)) g_Limpl_Value u.1 (hn := .nil (zn g))) ?_
     refine dq 21 rfl (fun _ g u h => LWo.move (e_LLimpl_Value t1) u.1 (hn := .nil (zn g))) ?_
     refine dq 22 rfl (fun _ g u h => LWo.move (e_int t5) u.1 (hn := .nil (zn g))) ?_
     refine dq 23 rfl (fun _ g u h => LWo.indexM (f := e_Limpl_Value) e16 u_LLimpl_Value s_Limpl_Value u.1 u.2.1 (hn := .nil (zn g))) ?_
     refine dq 24 rfl (fun _ g u h => LWo.load1 (c := (e_Limpl_Value x16)) g_Limpl_Value u.1 (hn := .nil (zn g))) ?_
     refine dq 25 rfl (fun _ g u h => LWo.vcall rfl (av2 u.1 u.2.1) (c_laws_eqValueS _ _ _ e17) (.same (.same (.nil))) (hn := .nil (zn g))) ?_
     refine dq 26 rfl (fun _ g u h => LWo.not u.1 (hn := .nil (zn g))) ?_
     refine ⟨rfl, by kernel_rfl, hN14 _ ?_⟩
     refine LWP.cond_split rfl (fun h18 => ?_) (fun h18 => ?_)
     ·have h := bT h18 h
      refine LWP.seq_k fun N19 hN19 => ?_
      refine LWP.region (l := [_]) ?_
      refine LWo.assign (e_bool false) rfl (hn := ?_)
      refine LWo.nil (hN19 _ ?_)
      obtain rfl := Option.some.inj h
      refine LWP.ret (QG.mk (.inr rfl) (.cons (.tmp (x := (e_bool false)) rfl) (.nil)) (RetOK.one0 (.pure rfl) (by decide)) rfl rfl)
     ·have h := bF h18 h
      refine LWP.skip (hN13 _ ?_)
      refine LWP.region (l := [_,_,_]) ?_
      refine LWo.move (e_int t5) rfl (hn := ?_)
      refine bk h fun x20 e20 h => ?_
      refine LWo.int _ rfl rfl (add_ck e20) (hn := ?_)
      refine LWo.assign (e_int x20) rfl (hn := ?_)
      refine LWo.nil (hN8 (t0, t1, x20) _ ⟨rfl, rfl, rfl, trivial⟩ trivial h)
    ·have h := bF h12 h
     refine LWP.exit (hN6 () _ trivial trivial h)

def m_laws_eqTable (a0 : S_impl_Table) (a1 : S_impl_Table) : Option Bool :=
  (m_laws_eqColumnS a0.Columns a1.Columns).bind fun x4 =>
  bif (!x4) then (some false)
  else ((m_laws_eqValueSS a0.Rows a1.Rows).bind fun x9 =>
  bif (!x9) then (some false)
  else (some true))
theorem c_laws_eqTable (a0 : S_impl_Table) (a1 : S_impl_Table) (r : Bool) (h : m_laws_eqTable a0 a1 = some r) : Ret Try.prog f_laws_eqTable [e_impl_Table a0, e_impl_Table a1] (e_bool r) := by
  refine Does.goG [] F_laws_eqTable rfl e_laws_eqTable n_laws_eqTable rfl (rvs := [.tmp 4]) rfl rfl ?_
  intro w0 ok0 lent ρ0
  refine LWP.seq_k fun N1 hN1 => ?_
  refine LWP.region (l := [_,_,_]) ?_
  refine LWo.boxF (e_impl_Table a0) rfl rfl rfl (hn := ?_)
  refine LWo.boxF (e_impl_Table a1) rfl rfl rfl (hn := ?_)
  refine LWo.assign (e_bool false) rfl (hn := ?_)
  refine LWo.nil (hN1 _ ?_)
  refine LWP.seq_k fun N2 hN2 => ?_
  refine LWP.seq_k fun N3 hN3 => ?_
  refine LWP.region (l := [_,_,_,_,_,_]) ?_
  refine LWo.fieldAddr _ u_impl_Table rfl s_Limpl_Column rfl rfl (hn := ?_)
  refine LWo.load1 (c := (e_Limpl_Column a0.Columns)) g_Limpl_Column rfl (hn := ?_)
  refine LWo.fieldAddr _ u_impl_Table rfl s_Limpl_Column rfl rfl (hn := ?_)
  refine LWo.load1 (c := (e_Limpl_Column a1.Columns)) g_Limpl_Column rfl (hn := ?_)
  refine bk h fun x4 e4 h => ?_
  refine LWo.vcall rfl rfl (c_laws_eqColumnS _ _ _ e4) (.same (.same (.nil))) (hn := ?_)
  refine LWo.not rfl (hn := ?_)
  refine LWo.nil (hN3 _ ?_)
  refine LWP.cond_split rfl (fun h5 => ?_) (fun h5 => ?_)
  ·have h := bT h5 h
   refine LWP.seq_k fun N6 hN6 => ?_
   refine LWP.region (l := [_]) ?_
   refine LWo.assign (e_bool false) rfl (hn := ?_)
   refine LWo.nil (hN6 _ ?_)
   obtain rfl := Option.some.inj h
   refine LWP.ret (QG.mk (.inr rfl) (.cons (.tmp (x := (e_bool false)) rfl) (.nil)) (RetOK.one0 (.pure rfl) (by decide)) rfl rfl)
  ·have h := bF h5 h
   refine LWP.skip (hN2 _ ?_)
   refine LWP.seq_k fun N7 hN7 => ?_
   refine LWP.seq_k fun N8 hN8 => ?_
   refine LWP.region (l := [_,_,_,_,_,_]) ?_
   refine LWo.fieldAddr _ u_impl_Table rfl s_LLimpl_Value rfl rfl (hn := ?_)
   refine LWo.load1 (c := (e_LLimpl_Value a0.Rows)) g_LLimpl_Value rfl (hn := ?_)
   refine LWo.fieldAddr _ u_impl_Table rfl s_LLimpl_Value rfl rfl (hn := ?_)
   refine LWo.load1 (c := (e_LLimpl_Value a1.Rows)) g_LLimpl_Value rfl (hn := ?_)
   refine bk h fun x9 e9 h => ?_
   refine LWo.vcall rfl rfl (c_laws_eqValueSS _ _ _ e9) (.same (.same (.nil))) (hn := ?_)
   refine LWo.not rfl (hn := ?_)
   refine LWo.nil (hN8 _ ?_)
   refine LWP.cond_split rfl (fun h10 => ?_) (fun h10 => ?_)
   ·have h := bT h10 h
    refine LWP.seq_k fun N11 hN11 => ?_
    refine LWP.region (l := [_]) ?_
    refine LWo.assign (e_bool false) rfl (hn := ?_)
    refine LWo.nil (hN11 _ ?_)
    obtain rfl := Option.some.inj h
    refine LWP.ret (QG.mk (.inr rfl) (.cons (.tmp (x := (e_bool false)) rfl) (.nil)) (RetOK.one0 (.pure rfl) (by decide)) rfl rfl)
   ·have h := bF h10 h
    refine LWP.skip (hN7 _ ?_)
    refine LWP.seq_k fun N12 hN12 => ?_
    refine LWP.region (l := [_]) ?_
    refine LWo.assign (e_bool true) rfl (hn := ?_)
    refine LWo.nil (hN12 _ ?_)
    obtain rfl := Option.some.inj h
    refine LWP.ret (QG.mk (.inr rfl) (.cons (.tmp (x := (e_bool true)) rfl) (.nil)) (RetOK.one0 (.pure rfl) (by decide)) rfl rfl)

def m_laws_eqTableS_j1  : Option Bool :=
  some true
def m_laws_eqTableS_l1 : Nat → (List S_impl_Table) → (List S_impl_Table) → Int → Option Bool
  | 0, _, _, _ => none
  | n1 + 1, t0, t1, t5 =>
    bif decide (t5 < (t0.length : Int)) then ((at? t0 t5).bind fun x15 =>
    (at? t1 t5).bind fun x16 =>
    (m_laws_eqTable x15 x16).bind fun x17 =>
    bif (!x17) then (some false)
    else ((ckI (t5 + (1 : Int))).bind fun x20 =>
    (m_laws_eqTableS_l1  n1) t0 t1 x20))
    else (m_laws_eqTableS_j1  )
def m_laws_eqTableS (a0 : (List S_impl_Table)) (a1 : (List S_impl_Table)) : Option Bool :=
  bif ((a0.length : Int) != (a1.length : Int)) then (some false)
  else (m_laws_eqTableS_l1  (((a0.length : Int) - (0 : Int)).toNat + 1) a0 a1 (0 : Int))
theorem c_laws_eqTableS (a0 : (List S_impl_Table)) (a1 : (List S_impl_Table)) (r : Bool) (h : m_laws_eqTableS a0 a1 = some r) : Ret Try.prog f_laws_eqTableS [e_Limpl_Table a0, e_Limpl_Table a1] (e_bool r) := by
  refine Does.goG [] F_laws_eqTableS rfl e_laws_eqTableS n_laws_eqTableS rfl (rvs := [.tmp 4]) rfl rfl ?_
  intro w0 ok0 lent ρ0
  refine LWP.seq_k fun N1 hN1 => ?_
  refine LWP.region (l := [_]) ?_
  refine LWo.assign (e_bool false) rfl (hn := ?_)
  refine LWo.nil (hN1 _ ?_)
  refine LWP.seq_k fun N2 hN2 => ?_
  refine LWP.seq_k fun N3 hN3 => ?_
  refine LWP.region (l := [_,_,_,_,_]) ?_
  refine LWo.move (e_Limpl_Table a0) rfl (hn := ?_)
  refine LWo.lenM (f := e_impl_Table) (l := a0) u_Limpl_Table rfl (hn := ?_)
  refine LWo.move (e_Limpl_Table a1) rfl (hn := ?_)
  refine LWo.lenM (f := e_impl_Table) (l := a1) u_Limpl_Table rfl (hn := ?_)
  refine LWo.int _ rfl rfl rfl (hn := ?_)
  refine LWo.nil (hN3 _ ?_)
  refine LWP.cond_split rfl (fun h4 => ?_) (fun h4 => ?_)
  ·have h := bT h4 h
   refine LWP.seq_k fun N5 hN5 => ?_
   refine LWP.region (l := [_]) ?_
   refine LWo.assign (e_bool false) rfl (hn := ?_)
   refine LWo.nil (hN5 _ ?_)
   obtain rfl := Option.some.inj h
   refine LWP.ret (QG.mk (.inr rfl) (.cons (.tmp (x := (e_bool false)) rfl) (.nil)) (RetOK.one0 (.pure rfl) (by decide)) rfl rfl)
  ·have h := bF h4 h
   refine LWP.skip (hN2 _ ?_)
   refine LWP.join (α := Unit) (fun z : Unit => []) (fun z : Unit => []) (fun z : Unit => m_laws_eqTableS_j1  ) r (fun _ => by simp [hkeys]) ?_ ?_
   ·rintro _ h
    replace h : m_laws_eqTableS_j1   = some _ := h
    refine LWP.seq_k fun N21 hN21 => ?_
    refine LWP.region (l := [_]) ?_
    refine LWo.assign (e_bool true) rfl (hn := ?_)
    refine LWo.nil (hN21 _ ?_)
    obtain rfl := Option.some.inj h
    refine LWP.ret (QG.mk (.inr rfl) (.cons (.tmp (x := (e_bool true)) rfl) (.nil)) (RetOK.one0 (.pure rfl) (by decide)) rfl rfl)
   ·intro N6 hN6
    refine LWP.seq_k fun N7 hN7 => ?_
    refine LWP.region (l := [_]) ?_
    refine LWo.assign (e_int (0 : Int)) rfl (hn := ?_)
    refine LWo.nil (hN7 _ ?_)
    refine LWP.block ?_
    refine LWP.loopM (α := (List S_impl_Table) × (List S_impl_Table) × Int) (fun z : (List S_impl_Table) × (List S_impl_Table) × Int => [(0, (e_Limpl_Table z.1)), (1, (e_Limpl_Table z.2.1)), (5, (e_int z.2.2))]) (fun z : (List S_impl_Table) × (List S_impl_Table) × Int => []) (fun n1 (z : (List S_impl_Table) × (List S_impl_Table) × Int) => m_laws_eqTableS_l1  n1 z.1 z.2.1 z.2.2) r _ (a0, a1, (0 : Int)) h (fun _ => rfl) (fun _ => by simp [hkeys]) ⟨rfl, rfl, rfl, trivial⟩ trivial ?_
    rintro n1 ⟨t0, t1, t5⟩ h N8 hN8
    replace h : m_laws_eqTableS_l1  (n1 + 1) t0 t1 t5 = some _ := h
    refine LWP.seq_k fun N10 hN10 => ?_
    refine LWP.seq_k fun N11 hN11 => ?_
    refine LWP.region (l := [_,_,_,_]) ?_
    refine LWo.move (e_int t5) rfl (hn := ?_)
    refine LWo.move (e_Limpl_Table t0) rfl (hn := ?_)
    refine LWo.lenM (f := e_impl_Table) (l := t0) u_Limpl_Table rfl (hn := ?_)
    refine LWo.int _ rfl rfl rfl (hn := ?_)
    refine LWo.nil (hN11 _ ?_)
    refine LWP.cond_split rfl (fun h12 => ?_) (fun h12 => ?_)
    ·have h := bT h12 h
     refine LWP.skip (hN10 _ ?_)
     refine LWP.seq_k fun N13 hN13 => ?_
     refine LWP.block ?_
     refine LWP.seq_k fun N14 hN14 => ?_
     refine bk h fun x15 e15 h => ?_
     refine bk h fun x16 e16 h => ?_
     refine bk h fun x17 e17 h => ?_
     refine LWP.drawF (l := [_,_,_,_,_,_,_,_,_,_]) [] [0, 1, 5] [([0], []), ([5], []), ([17, 18], []), ([19], []), ([1], []), ([5], []), ([21, 22], []), ([23], []), ([20, 24], []), ([25], [])] [0, 1, 5, 26] [] mixed (by kernel_rfl) rfl (by decide) ?_
     refine dq 17 rfl (fun _ g u h => LWo.move (e_Limpl_Table t0) u.1 (hn := .nil (zn g))) ?_
     refine dq 18 rfl (fun _ g u h => LWo.move (e_int t5) u.1 (hn := .nil (zn g))) ?_
     refine dq 19 rfl (fun _ g u h => LWo.indexM (f := e_impl_Table) e15 u_Limpl_Table s_impl_Table u.1 u.2.1 (hn := .nil (zn g))) ?_
     refine dq 20 rfl (fun _ g u h => LWo.loadN ((e_impl_Table x15)).cells g_impl_Table s_impl_Table u.1 (Nat.le_of_ble_eq_true rfl) rfl (hn := .nil (zn g))) ?_
     refine dq 21 rfl (fun _ g u h => LWo.move (e_Limpl_Table t1) u.1 (hn := .nil (zn g))) ?_
     refine dq 22 rfl (fun _ g u h => LWo.move (e_int t5) u.1 (hn := .nil (zn g))) ?_
     refine dq 23 rfl (fun _ g u h => LWo.indexM (f := e_impl_Table) e16 u_Limpl_Table s_impl_Table u.1 u.2.1 (hn := .nil (zn g))) ?_
     refine dq 24 rfl (fun _ g u h => LWo.loadN ((e_impl_Table x16)).cells g_impl_Table s_impl_Table u.1 (Nat.le_of_ble_eq_true rfl) rfl (hn := .nil (zn g))) ?_
     refine dq 25 rfl (fun _ g u h => LWo.vcall rfl (av2 u.1 u.2.1) (c_laws_eqTable _ _ _ e17) (.same (.same (.nil))) (hn := .nil (zn g))) ?_
     refine dq 26 rfl (fun _ g u h => LWo.not u.1 (hn := .nil (zn g))) ?_
     refine ⟨rfl, by kernel_rfl, hN14 _ ?_⟩
     refine LWP.cond_split rfl (fun h18 => ?_) (fun h18 => ?_)
     ·have h := bT h18 h
      refine LWP.seq_k fun N19 hN19 => ?_
      refine LWP.region (l := [_]) ?_
      refine LWo.assign (e_bool false) rfl (hn := ?_)
      refine LWo.nil (hN19 _ ?_)
      obtain rfl := Option.some.inj h
      refine LWP.ret (QG.mk (.inr rfl) (.cons (.tmp (x := (e_bool false)) rfl) (.nil)) (RetOK.one0 (.pure rfl) (by decide)) rfl rfl)
     ·have h := bF h18 h
      refine LWP.skip (hN13 _ ?_)
      refine LWP.region (l := [_,_,_]) ?_
      refine LWo.move (e_int t5) rfl (hn := ?_)
      refine bk h fun x20 e20 h => ?_
      refine LWo.int _ rfl rfl (add_ck e20) (hn := ?_)
      refine LWo.assign (e_int x20) rfl (hn := ?_)
      refine LWo.nil (hN8 (t0, t1, x20) _ ⟨rfl, rfl, rfl, trivial⟩ trivial h)
    ·have h := bF h12 h
     refine LWP.exit (hN6 () _ trivial trivial h)
end Go.Proofs.Ytgepipglchpabaa
