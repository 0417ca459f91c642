/- Mirrors of functions, and that the functions return what the mirrors say. -/
import Derived.Test.YtgepipglchpabaaXW1
set_option linter.unusedVariables false
set_option linter.unusedSimpArgs false
set_option linter.unnecessarySimpa false
namespace Go.Proofs.Ytgepipglchpabaa
open Go.Proofs Go.Lift Go.RowKit
def m_spec_ExprKind_j4 (t42 : Bool) (o1016 : (List Int)) : Option Int :=
  bif t42 then (some (-1 : Int))
  else ((at? o1016 (0 : Int)).bind fun x28 =>
  (at? o1016 (0 : Int)).bind fun x29 =>
  some x29)
def m_spec_ExprKind_j3 (t6 : Bool) (o1016 : (List Int)) : Option Int :=
  bif (!t6) then (m_spec_ExprKind_j4  true o1016)
  else (m_spec_ExprKind_j4  ((o1016.length : Int) != (1 : Int)) o1016)
def m_spec_ExprKind_j2 (k1 : (List S_impl_Column) → (List S_impl_Part) → Bool → Int → (List Int) → Option Int) (t0 : (List S_impl_Column)) (t1 : (List S_impl_Part)) (t6 : Bool) (t7 : Int) (t23 : Bool) (o1016 : (List Int)) : Option Int :=
  bif t23 then ((at? t1 t7).bind fun x19 =>
  (m_spec_l4Step t0 o1016 x19).bind fun x20 =>
  (ckI (t7 + (1 : Int))).bind fun x21 =>
  k1 t0 t1 x20.2 x21 x20.1)
  else (m_spec_ExprKind_j3  t6 o1016)
def m_spec_ExprKind_l1 : Nat → (List S_impl_Column) → (List S_impl_Part) → Bool → Int → (List Int) → Option Int
  | 0, _, _, _, _, _ => none
  | n1 + 1, t0, t1, t6, t7, o1016 =>
    bif decide (t7 < (t1.length : Int)) then (m_spec_ExprKind_j2  (m_spec_ExprKind_l1  n1) t0 t1 t6 t7 t6 o1016)
    else (m_spec_ExprKind_j2  (m_spec_ExprKind_l1  n1) t0 t1 t6 t7 false o1016)
def m_spec_ExprKind_j1 (t0 : (List S_impl_Column)) (t1 : (List S_impl_Part)) (t15 : Bool) : Option Int :=
  bif t15 then (some (-1 : Int))
  else (m_spec_ExprKind_l1  (1000000000) t0 t1 true (0 : Int) ([] : (List Int)))
def m_spec_ExprKind (a0 : (List S_impl_Column)) (a1 : (List S_impl_Part)) : Option Int :=
  (m_spec_ColumnsOk a0).bind fun x4 =>
  bif (!x4) then (m_spec_ExprKind_j1  a0 a1 true)
  else (m_spec_ExprKind_j1  a0 a1 (decide ((a1.length : Int) > (12 : Int))))
theorem c_spec_ExprKind (a0 : (List S_impl_Column)) (a1 : (List S_impl_Part)) (r : Int) (h : m_spec_ExprKind a0 a1 = some r) : Ret Try.prog f_spec_ExprKind [e_Limpl_Column a0, e_Limpl_Part a1] (e_int r) := by
  refine Does.goG [] F_spec_ExprKind rfl e_spec_ExprKind n_spec_ExprKind rfl (rvs := [.tmp 4]) rfl rfl ?_
  intro w0 ok0 lent ρ0
  refine LWP.seq_k fun N1 hN1 => ?_
  refine LWP.region (l := [_]) ?_
  refine LWo.assign (e_int (0 : Int)) rfl (hn := ?_)
  refine LWo.nil (hN1 _ ?_)
  refine LWP.seq_k fun N2 hN2 => ?_
  refine LWP.join (α := (List S_impl_Column) × (List S_impl_Part) × Bool) (fun z : (List S_impl_Column) × (List S_impl_Part) × Bool => [(0, (e_Limpl_Column z.1)), (1, (e_Limpl_Part z.2.1)), (15, (e_bool z.2.2))]) (fun z : (List S_impl_Column) × (List S_impl_Part) × Bool => []) (fun z : (List S_impl_Column) × (List S_impl_Part) × Bool => m_spec_ExprKind_j1  z.1 z.2.1 z.2.2) r (fun _ => by simp [hkeys]) ?_ ?_
  ·rintro ⟨t0, t1, t15⟩ h
   replace h : m_spec_ExprKind_j1  t0 t1 t15 = some _ := h
   refine LWP.cond_split rfl (fun h6 => ?_) (fun h6 => ?_)
   ·have h := bT h6 h
    refine LWP.seq_k fun N7 hN7 => ?_
    refine LWP.region (l := [_]) ?_
    refine LWo.assign (e_int (-1 : Int)) rfl (hn := ?_)
    refine LWo.nil (hN7 _ ?_)
    obtain rfl := Option.some.inj h
    refine LWP.ret (QG.mk (.inr rfl) (.cons (.tmp (x := (e_int (-1 : Int))) rfl) (.nil)) (RetOK.one0 (.pure rfl) (by decide)) rfl rfl)
   ·have h := bF h6 h
    refine LWP.skip (hN2 _ ?_)
    refine LWP.seq_k fun N8 hN8 => ?_
    refine LWP.region (l := [_,_]) ?_
    refine LWo.lit0 1016 u_Lint s_int z_int (hn := ?_)
    refine LWo.known 16 (.own 1016 0 ([] : (List Int)).length) rfl ?_
    refine LWo.assign (.own 1016 0 (([] : (List Int))).length) rfl (hn := ?_)
    refine LWo.nil (hN8 _ ?_)
    refine LWP.seq_k fun N9 hN9 => ?_
    refine LWP.region (l := [_]) ?_
    refine LWo.assign (e_bool true) rfl (hn := ?_)
    refine LWo.nil (hN9 _ ?_)
    refine LWP.join (α := Bool × (List Int)) (fun z : Bool × (List Int) => [(5, (.own 1016 0 (z.2).length)), (6, (e_bool z.1))]) (fun z : Bool × (List Int) => [(1016, (lob 1 e_int z.2))]) (fun z : Bool × (List Int) => m_spec_ExprKind_j3  z.1 z.2) r (fun _ => by simp [hkeys]) ?_ ?_
    ·rintro ⟨t6, o1016⟩ h
     replace h : m_spec_ExprKind_j3  t6 o1016 = some _ := h
     refine LWP.seq_k fun N22 hN22 => ?_
     refine LWP.join (α := Bool × (List Int)) (fun z : Bool × (List Int) => [(5, (.own 1016 0 (z.2).length)), (42, (e_bool z.1))]) (fun z : Bool × (List Int) => [(1016, (lob 1 e_int z.2))]) (fun z : Bool × (List Int) => m_spec_ExprKind_j4  z.1 z.2) r (fun _ => by simp [hkeys]) ?_ ?_
     ·rintro ⟨t42, o1016⟩ h
      replace h : m_spec_ExprKind_j4  t42 o1016 = some _ := h
      refine LWP.cond_split rfl (fun h25 => ?_) (fun h25 => ?_)
      ·have h := bT h25 h
       refine LWP.seq_k fun N26 hN26 => ?_
       refine LWP.region (l := [_]) ?_
       refine LWo.assign (e_int (-1 : Int)) rfl (hn := ?_)
       refine LWo.nil (hN26 _ ?_)
       obtain rfl := Option.some.inj h
       refine LWP.ret (QG.mk (.inr rfl) (.cons (.tmp (x := (e_int (-1 : Int))) rfl) (.nil)) (RetOK.one0 (.pure rfl) (by decide)) rfl rfl)
      ·have h := bF h25 h
       refine LWP.skip (hN22 _ ?_)
       refine LWP.seq_k fun N27 hN27 => ?_
       refine LWP.region (l := [_,_,_,_]) ?_
       refine LWo.move (.own 1016 0 (o1016).length) rfl (hn := ?_)
       refine bk h fun x28 e28 h => ?_
       refine LWo.indexO e28 rfl u_Lint s_int rfl rfl rfl (hn := ?_)
       refine bk h fun x29 e29 h => ?_
       refine LWo.loadO1 (e_int x29) e29 g_int rfl rfl rfl (hn := ?_)
       refine LWo.assign (e_int x29) rfl (hn := ?_)
       refine LWo.nil (hN27 _ ?_)
       obtain rfl := Option.some.inj h
       refine LWP.ret (QG.mk (.inr rfl) (.cons (.tmp (x := (e_int x29)) rfl) (.nil)) (RetOK.one0 (.pure rfl) (by decide)) rfl rfl)
     ·intro N23 hN23
      refine LWP.region (l := [_,_,_,_,_,_,_]) ?_
      refine LWo.move (e_bool t6) rfl (hn := ?_)
      refine LWo.not rfl (hn := ?_)
      refine LWo.move (e_bool (!t6)) rfl (hn := ?_)
      refine LWo.byCases (t := 38) _ rfl (fun h24 => ?_) (fun h24 => ?_)
      ·have h := bT h24 h
       refine LWo.guardNU (t := 38) rfl h24 rfl rfl rfl rfl rfl ?_
       refine LWo.guardNU (t := 38) rfl h24 rfl rfl rfl rfl rfl ?_
       refine LWo.guardNU (t := 38) rfl h24 rfl rfl rfl rfl rfl ?_
       refine LWo.pickTM (e_bool true) rfl h24 rfl (hn := ?_)
       refine LWo.nil (hN23 (true, o1016) _ ⟨rfl, rfl, trivial⟩ ⟨rfl, trivial⟩ h)
      ·have h := bF h24 h
       refine LWo.guardY (t := 38) rfl h24 rfl rfl ?_
       refine LWo.move (.own 1016 0 (o1016).length) rfl (hn := ?_)
       refine LWo.guardY (t := 38) rfl h24 rfl rfl ?_
       refine LWo.lenO u_Lint rfl (hn := ?_)
       refine LWo.guardY (t := 38) rfl h24 rfl rfl ?_
       refine LWo.int _ rfl rfl rfl (hn := ?_)
       refine LWo.pickFM (e_bool ((o1016.length : Int) != (1 : Int))) rfl h24 rfl (hn := ?_)
       refine LWo.nil (hN23 (((o1016.length : Int) != (1 : Int)), o1016) _ ⟨rfl, rfl, trivial⟩ ⟨rfl, trivial⟩ h)
    ·intro N10 hN10
     refine LWP.seq_k fun N11 hN11 => ?_
     refine LWP.region (l := [_]) ?_
     refine LWo.assign (e_int (0 : Int)) rfl (hn := ?_)
     refine LWo.nil (hN11 _ ?_)
     refine LWP.block ?_
     refine LWP.loopM (α := (List S_impl_Column) × (List S_impl_Part) × Bool × Int × (List Int)) (fun z : (List S_impl_Column) × (List S_impl_Part) × Bool × Int × (List Int) => [(0, (e_Limpl_Column z.1)), (1, (e_Limpl_Part z.2.1)), (5, (.own 1016 0 (z.2.2.2.2).length)), (6, (e_bool z.2.2.1)), (7, (e_int z.2.2.2.1))]) (fun z : (List S_impl_Column) × (List S_impl_Part) × Bool × Int × (List Int) => [(1016, (lob 1 e_int z.2.2.2.2))]) (fun n1 (z : (List S_impl_Column) × (List S_impl_Part) × Bool × Int × (List Int)) => m_spec_ExprKind_l1  n1 z.1 z.2.1 z.2.2.1 z.2.2.2.1 z.2.2.2.2) r _ (t0, t1, true, (0 : Int), ([] : (List Int))) h (fun _ => rfl) (fun _ => by simp [hkeys]) ⟨rfl, rfl, rfl, rfl, rfl, trivial⟩ ⟨rfl, trivial⟩ ?_
     rintro n1 ⟨t0, t1, t6, t7, o1016⟩ h N12 hN12
     replace h : m_spec_ExprKind_l1  (n1 + 1) t0 t1 t6 t7 o1016 = some _ := h
     refine LWP.seq_k fun N14 hN14 => ?_
     refine LWP.join (α := (List S_impl_Column) × (List S_impl_Part) × Bool × Int × Bool × (List Int)) (fun z : (List S_impl_Column) × (List S_impl_Part) × Bool × Int × Bool × (List Int) => [(0, (e_Limpl_Column z.1)), (1, (e_Limpl_Part z.2.1)), (5, (.own 1016 0 (z.2.2.2.2.2).length)), (6, (e_bool z.2.2.1)), (7, (e_int z.2.2.2.1)), (23, (e_bool z.2.2.2.2.1))]) (fun z : (List S_impl_Column) × (List S_impl_Part) × Bool × Int × Bool × (List Int) => [(1016, (lob 1 e_int z.2.2.2.2.2))]) (fun z : (List S_impl_Column) × (List S_impl_Part) × Bool × Int × Bool × (List Int) => m_spec_ExprKind_j2  (m_spec_ExprKind_l1  n1) z.1 z.2.1 z.2.2.1 z.2.2.2.1 z.2.2.2.2.1 z.2.2.2.2.2) r (fun _ => by simp [hkeys]) ?_ ?_
     ·rintro ⟨t0, t1, t6, t7, t23, o1016⟩ h
      replace h : m_spec_ExprKind_j2  (m_spec_ExprKind_l1  n1) t0 t1 t6 t7 t23 o1016 = some _ := h
      refine LWP.cond_split rfl (fun h17 => ?_) (fun h17 => ?_)
      ·have h := bT h17 h
       refine LWP.skip (hN14 _ ?_)
       refine LWP.seq_k fun N18 hN18 => ?_
       refine LWP.block ?_
       refine LWP.region (l := [_,_,_,_,_,_,_,_,_,_,_,_]) ?_
       refine LWo.move (e_Limpl_Column t0) rfl (hn := ?_)
       refine LWo.move (.own 1016 0 (o1016).length) rfl (hn := ?_)
       refine LWo.move (e_Limpl_Part t1) rfl (hn := ?_)
       refine LWo.move (e_int t7) rfl (hn := ?_)
       refine bk h fun x19 e19 h => ?_
       refine LWo.indexM (f := e_impl_Part) e19 u_Limpl_Part s_impl_Part rfl rfl (hn := ?_)
       refine LWo.loadN ((e_impl_Part x19)).cells g_impl_Part s_impl_Part rfl (Nat.le_of_ble_eq_true rfl) rfl (hn := ?_)
       refine bk h fun x20 e20 h => ?_
       refine LWo.tcallT (e := e_int) (e' := e_int) [_] 1033 rfl rfl (c_spec_l4Step _ _ _ _ e20) (fun _ => rfl) (fun _ => rfl) rfl rfl rfl rfl (fun _ h => by cases h) rfl (hn := ?_)
       refine LWo.move (.tup [(.own 1033 0 (x20.1).length), (e_bool x20.2)]) rfl (hn := ?_)
       refine LWo.extract (.own 1033 0 (x20.1).length) rfl rfl (hn := ?_)
       refine LWo.extract (e_bool x20.2) rfl rfl (hn := ?_)
       refine LWo.assign (.own 1033 0 (x20.1).length) rfl (hn := ?_)
       refine LWo.assign (e_bool x20.2) rfl (hn := ?_)
       refine LWo.nil (hN18 _ ?_)
       refine LWP.region (l := [_,_,_]) ?_
       refine LWo.move (e_int t7) rfl (hn := ?_)
       refine bk h fun x21 e21 h => ?_
       refine LWo.int _ rfl rfl (add_ck e21) (hn := ?_)
       refine LWo.assign (e_int x21) rfl (hn := ?_)
       refine LWo.rekey 5 1033 1016 rfl rfl rfl rfl rfl rfl ?_
       refine LWo.nil (hN12 (t0, t1, x20.2, x21, x20.1) _ ⟨rfl, rfl, rfl, rfl, rfl, trivial⟩ ⟨rfl, trivial⟩ h)
      ·have h := bF h17 h
       refine LWP.exit (hN10 (t6, o1016) _ ⟨rfl, rfl, trivial⟩ ⟨rfl, trivial⟩ h)
     ·intro N15 hN15
      refine LWP.region (l := [_,_,_,_,_,_,_]) ?_
      refine LWo.move (e_int t7) rfl (hn := ?_)
      refine LWo.move (e_Limpl_Part t1) rfl (hn := ?_)
      refine LWo.lenM (f := e_impl_Part) (l := t1) u_Limpl_Part rfl (hn := ?_)
      refine LWo.int _ rfl rfl rfl (hn := ?_)
      refine LWo.move (e_bool (decide (t7 < (t1.length : Int)))) rfl (hn := ?_)
      refine LWo.byCases (t := 21) _ rfl (fun h16 => ?_) (fun h16 => ?_)
      ·have h := bT h16 h
       refine LWo.guardY (t := 21) rfl h16 rfl rfl ?_
       refine LWo.move (e_bool t6) rfl (hn := ?_)
       refine LWo.pickTM (e_bool t6) rfl h16 rfl (hn := ?_)
       refine LWo.nil (hN15 (t0, t1, t6, t7, t6, o1016) _ ⟨rfl, rfl, rfl, rfl, rfl, rfl, trivial⟩ ⟨rfl, trivial⟩ h)
      ·have h := bF h16 h
       refine LWo.guardNU (t := 21) rfl h16 rfl rfl rfl rfl rfl ?_
       refine LWo.pickFM (e_bool false) rfl h16 rfl (hn := ?_)
       refine LWo.nil (hN15 (t0, t1, t6, t7, false, o1016) _ ⟨rfl, rfl, rfl, rfl, rfl, rfl, trivial⟩ ⟨rfl, trivial⟩ h)
  ·intro N3 hN3
   refine LWP.region (l := [_,_,_,_,_,_,_,_]) ?_
   refine LWo.move (e_Limpl_Column a0) rfl (hn := ?_)
   refine bk h fun x4 e4 h => ?_
   refine LWo.vcall rfl rfl (c_spec_ColumnsOk _ _ e4) (.same (.nil)) (hn := ?_)
   refine LWo.not rfl (hn := ?_)
   refine LWo.move (e_bool (!x4)) rfl (hn := ?_)
   refine LWo.byCases (t := 11) _ rfl (fun h5 => ?_) (fun h5 => ?_)
   ·have h := bT h5 h
    refine LWo.guardNU (t := 11) rfl h5 rfl rfl rfl rfl rfl ?_
    refine LWo.guardNU (t := 11) rfl h5 rfl rfl rfl rfl rfl ?_
    refine LWo.guardNU (t := 11) rfl h5 rfl rfl rfl rfl rfl ?_
    refine LWo.pickTM (e_bool true) rfl h5 rfl (hn := ?_)
    refine LWo.nil (hN3 (a0, a1, true) _ ⟨rfl, rfl, rfl, trivial⟩ trivial h)
   ·have h := bF h5 h
    refine LWo.guardY (t := 11) rfl h5 rfl rfl ?_
    refine LWo.move (e_Limpl_Part a1) rfl (hn := ?_)
    refine LWo.guardY (t := 11) rfl h5 rfl rfl ?_
    refine LWo.lenM (f := e_impl_Part) (l := a1) u_Limpl_Part rfl (hn := ?_)
    refine LWo.guardY (t := 11) rfl h5 rfl rfl ?_
    refine LWo.int _ rfl rfl rfl (hn := ?_)
    refine LWo.pickFM (e_bool (decide ((a1.length : Int) > (12 : Int)))) rfl h5 rfl (hn := ?_)
    refine LWo.nil (hN3 (a0, a1, decide ((a1.length : Int) > (12 : Int))) _ ⟨rfl, rfl, rfl, trivial⟩ trivial h)

def m_spec_RowOk_j1 (t0 : (List S_impl_Value)) : Option Bool :=
  some (decide ((t0.length : Int) ≤ (4 : Int)))
def m_spec_RowOk_l1 : Nat → (List S_impl_Value) → Int → Option Bool
  | 0, _, _ => none
  | n1 + 1, t0, t3 =>
    bif decide (t3 < (t0.length : Int)) then ((at? t0 t3).bind fun x11 =>
    (m_spec_ValueOk x11).bind fun x12 =>
    bif (!x12) then (some false)
    else ((ckI (t3 + (1 : Int))).bind fun x15 =>
    (m_spec_RowOk_l1  n1) t0 x15))
    else (m_spec_RowOk_j1  t0)
def m_spec_RowOk (a0 : (List S_impl_Value)) : Option Bool :=
  m_spec_RowOk_l1  (((a0.length : Int) - (0 : Int)).toNat + 1) a0 (0 : Int)
theorem c_spec_RowOk (a0 : (List S_impl_Value)) (r : Bool) (h : m_spec_RowOk a0 = some r) : Ret Try.prog f_spec_RowOk [e_Limpl_Value a0] (e_bool r) := by
  refine Does.goG [] F_spec_RowOk rfl e_spec_RowOk n_spec_RowOk rfl (rvs := [.tmp 2]) rfl rfl ?_
  intro w0 ok0 lent ρ0
  refine LWP.seq_k fun N1 hN1 => ?_
  refine LWP.region (l := [_]) ?_
  refine LWo.assign (e_bool false) rfl (hn := ?_)
  refine LWo.nil (hN1 _ ?_)
  refine LWP.join (α := (List S_impl_Value)) (fun z : (List S_impl_Value) => [(0, (e_Limpl_Value z))]) (fun z : (List S_impl_Value) => []) (fun z : (List S_impl_Value) => m_spec_RowOk_j1  z) r (fun _ => by simp [hkeys]) ?_ ?_
  ·rintro t0 h
   replace h : m_spec_RowOk_j1  t0 = some _ := h
   refine LWP.seq_k fun N16 hN16 => ?_
   refine LWP.region (l := [_,_,_,_]) ?_
   refine LWo.move (e_Limpl_Value t0) rfl (hn := ?_)
   refine LWo.lenM (f := e_impl_Value) (l := t0) u_Limpl_Value rfl (hn := ?_)
   refine LWo.int _ rfl rfl rfl (hn := ?_)
   refine LWo.assign (e_bool (decide ((t0.length : Int) ≤ (4 : Int)))) rfl (hn := ?_)
   refine LWo.nil (hN16 _ ?_)
   obtain rfl := Option.some.inj h
   refine LWP.ret (QG.mk (.inr rfl) (.cons (.tmp (x := (e_bool (decide ((t0.length : Int) ≤ (4 : Int))))) rfl) (.nil)) (RetOK.one0 (.pure rfl) (by decide)) rfl rfl)
  ·intro N2 hN2
   refine LWP.seq_k fun N3 hN3 => ?_
   refine LWP.region (l := [_]) ?_
   refine LWo.assign (e_int (0 : Int)) rfl (hn := ?_)
   refine LWo.nil (hN3 _ ?_)
   refine LWP.block ?_
   refine LWP.loopM (α := (List S_impl_Value) × Int) (fun z : (List S_impl_Value) × Int => [(0, (e_Limpl_Value z.1)), (3, (e_int z.2))]) (fun z : (List S_impl_Value) × Int => []) (fun n1 (z : (List S_impl_Value) × Int) => m_spec_RowOk_l1  n1 z.1 z.2) r _ (a0, (0 : Int)) h (fun _ => rfl) (fun _ => by simp [hkeys]) ⟨rfl, rfl, trivial⟩ trivial ?_
   rintro n1 ⟨t0, t3⟩ h N4 hN4
   replace h : m_spec_RowOk_l1  (n1 + 1) t0 t3 = some _ := h
   refine LWP.seq_k fun N6 hN6 => ?_
   refine LWP.seq_k fun N7 hN7 => ?_
   refine LWP.region (l := [_,_,_,_]) ?_
   refine LWo.move (e_int t3) rfl (hn := ?_)
   refine LWo.move (e_Limpl_Value t0) rfl (hn := ?_)
   refine LWo.lenM (f := e_impl_Value) (l := t0) u_Limpl_Value rfl (hn := ?_)
   refine LWo.int _ rfl rfl rfl (hn := ?_)
   refine LWo.nil (hN7 _ ?_)
   refine LWP.cond_split rfl (fun h8 => ?_) (fun h8 => ?_)
   ·have h := bT h8 h
    refine LWP.skip (hN6 _ ?_)
    refine LWP.seq_k fun N9 hN9 => ?_
    refine LWP.block ?_
    refine LWP.seq_k fun N10 hN10 => ?_
    refine LWP.region (l := [_,_,_,_,_,_]) ?_
    refine LWo.move (e_Limpl_Value t0) rfl (hn := ?_)
    refine LWo.move (e_int t3) rfl (hn := ?_)
    refine bk h fun x11 e11 h => ?_
    refine LWo.indexM (f := e_impl_Value) e11 u_Limpl_Value s_impl_Value rfl rfl (hn := ?_)
    refine LWo.loadN ((e_impl_Value x11)).cells g_impl_Value s_impl_Value rfl (Nat.le_of_ble_eq_true rfl) rfl (hn := ?_)
    refine bk h fun x12 e12 h => ?_
    refine LWo.vcall rfl rfl (c_spec_ValueOk _ _ e12) (.same (.nil)) (hn := ?_)
    refine LWo.not rfl (hn := ?_)
    refine LWo.nil (hN10 _ ?_)
    refine LWP.cond_split rfl (fun h13 => ?_) (fun h13 => ?_)
    ·have h := bT h13 h
     refine LWP.seq_k fun N14 hN14 => ?_
     refine LWP.region (l := [_]) ?_
     refine LWo.assign (e_bool false) rfl (hn := ?_)
     refine LWo.nil (hN14 _ ?_)
     obtain rfl := Option.some.inj h
     refine LWP.ret (QG.mk (.inr rfl) (.cons (.tmp (x := (e_bool false)) rfl) (.nil)) (RetOK.one0 (.pure rfl) (by decide)) rfl rfl)
    ·have h := bF h13 h
     refine LWP.skip (hN9 _ ?_)
     refine LWP.region (l := [_,_,_]) ?_
     refine LWo.move (e_int t3) rfl (hn := ?_)
     refine bk h fun x15 e15 h => ?_
     refine LWo.int _ rfl rfl (add_ck e15) (hn := ?_)
     refine LWo.assign (e_int x15) rfl (hn := ?_)
     refine LWo.nil (hN4 (t0, x15) _ ⟨rfl, rfl, trivial⟩ trivial h)
   ·have h := bF h8 h
    refine LWP.exit (hN2 t0 _ ⟨rfl, trivial⟩ trivial h)

def m_spec_RowFits_j3  : Option Bool :=
  some true
def m_spec_RowFits_j2 (k1 : (List S_impl_Column) → (List S_impl_Value) → Int → Option Bool) (t0 : (List S_impl_Column)) (t1 : (List S_impl_Value)) (t5 : Int) (t53 : Bool) : Option Bool :=
  bif t53 then (some false)
  else ((ckI (t5 + (1 : Int))).bind fun x27 =>
  k1 t0 t1 x27)
def m_spec_RowFits_l1 : Nat → (List S_impl_Column) → (List S_impl_Value) → Int → Option Bool
  | 0, _, _, _ => none
  | n1 + 1, t0, t1, t5 =>
    bif decide (t5 < (t1.length : Int)) then ((at? t1 t5).bind fun x19 =>
    (at? t0 t5).bind fun x20 =>
    bif (x19.Kind != x20.Kind) then ((at? t1 t5).bind fun x22 =>
      bif (x22.Kind != (0 : Int)) then (m_spec_RowFits_j2  (m_spec_RowFits_l1  n1) t0 t1 t5 true)
      else ((at? t0 t5).bind fun x24 =>
        m_spec_RowFits_j2  (m_spec_RowFits_l1  n1) t0 t1 t5 (!x24.Empty)))
    else (m_spec_RowFits_j2  (m_spec_RowFits_l1  n1) t0 t1 t5 false))
    else (m_spec_RowFits_j3  )
def m_spec_RowFits_j1 (t0 : (List S_impl_Column)) (t1 : (List S_impl_Value)) (t20 : Bool) : Option Bool :=
  bif t20 then (some false)
  else (m_spec_RowFits_l1  (((t1.length : Int) - (0 : Int)).toNat + 1) t0 t1 (0 : Int))
def m_spec_RowFits (a0 : (List S_impl_Column)) (a1 : (List S_impl_Value)) : Option Bool :=
  (m_spec_ColumnsOk a0).bind fun x4 =>
  bif (!x4) then (m_spec_RowFits_j1  a0 a1 true)
  else ((m_spec_RowOk a1).bind fun x6 =>
    bif (!x6) then (m_spec_RowFits_j1  a0 a1 true)
    else (m_spec_RowFits_j1  a0 a1 ((a1.length : Int) != (a0.length : Int))))
theorem c_spec_RowFits (a0 : (List S_impl_Column)) (a1 : (List S_impl_Value)) (r : Bool) (h : m_spec_RowFits a0 a1 = some r) : Ret Try.prog f_spec_RowFits [e_Limpl_Column a0, e_Limpl_Value a1] (e_bool r) := by
  refine Does.goG [] F_spec_RowFits rfl e_spec_RowFits n_spec_RowFits rfl (rvs := [.tmp 4]) rfl rfl ?_
  intro w0 ok0 lent ρ0
  refine LWP.seq_k fun N1 hN1 => ?_
  refine LWP.region (l := [_]) ?_
  refine LWo.assign (e_bool false) rfl (hn := ?_)
  refine LWo.nil (hN1 _ ?_)
  refine LWP.seq_k fun N2 hN2 => ?_
  refine LWP.join (α := (List S_impl_Column) × (List S_impl_Value) × Bool) (fun z : (List S_impl_Column) × (List S_impl_Value) × Bool => [(0, (e_Limpl_Column z.1)), (1, (e_Limpl_Value z.2.1)), (20, (e_bool z.2.2))]) (fun z : (List S_impl_Column) × (List S_impl_Value) × Bool => []) (fun z : (List S_impl_Column) × (List S_impl_Value) × Bool => m_spec_RowFits_j1  z.1 z.2.1 z.2.2) r (fun _ => by simp [hkeys]) ?_ ?_
  ·rintro ⟨t0, t1, t20⟩ h
   replace h : m_spec_RowFits_j1  t0 t1 t20 = some _ := h
   refine LWP.cond_split rfl (fun h8 => ?_) (fun h8 => ?_)
   ·have h := bT h8 h
    refine LWP.seq_k fun N9 hN9 => ?_
    refine LWP.region (l := [_]) ?_
    refine LWo.assign (e_bool false) rfl (hn := ?_)
    refine LWo.nil (hN9 _ ?_)
    obtain rfl := Option.some.inj h
    refine LWP.ret (QG.mk (.inr rfl) (.cons (.tmp (x := (e_bool false)) rfl) (.nil)) (RetOK.one0 (.pure rfl) (by decide)) rfl rfl)
   ·have h := bF h8 h
    refine LWP.skip (hN2 _ ?_)
    refine LWP.join (α := Unit) (fun z : Unit => []) (fun z : Unit => []) (fun z : Unit => m_spec_RowFits_j3  ) r (fun _ => by simp [hkeys]) ?_ ?_
    ·rintro _ h
     replace h : m_spec_RowFits_j3   = some _ := h
     refine LWP.seq_k fun N28 hN28 => ?_
     refine LWP.region (l := [_]) ?_
     refine LWo.assign (e_bool true) rfl (hn := ?_)
     refine LWo.nil (hN28 _ ?_)
     obtain rfl := Option.some.inj h
     refine LWP.ret (QG.mk (.inr rfl) (.cons (.tmp (x := (e_bool true)) rfl) (.nil)) (RetOK.one0 (.pure rfl) (by decide)) rfl rfl)
    ·intro N10 hN10
     refine LWP.seq_k fun N11 hN11 => ?_
     refine LWP.region (l := [_]) ?_
     refine LWo.assign (e_int (0 : Int)) rfl (hn := ?_)
     refine LWo.nil (hN11 _ ?_)
     refine LWP.block ?_
     refine LWP.loopM (α := (List S_impl_Column) × (List S_impl_Value) × Int) (fun z : (List S_impl_Column) × (List S_impl_Value) × Int => [(0, (e_Limpl_Column z.1)), (1, (e_Limpl_Value z.2.1)), (5, (e_int z.2.2))]) (fun z : (List S_impl_Column) × (List S_impl_Value) × Int => []) (fun n1 (z : (List S_impl_Column) × (List S_impl_Value) × Int) => m_spec_RowFits_l1  n1 z.1 z.2.1 z.2.2) r _ (t0, t1, (0 : Int)) h (fun _ => rfl) (fun _ => by simp [hkeys]) ⟨rfl, rfl, rfl, trivial⟩ trivial ?_
     rintro n1 ⟨t0, t1, t5⟩ h N12 hN12
     replace h : m_spec_RowFits_l1  (n1 + 1) t0 t1 t5 = some _ := h
     refine LWP.seq_k fun N14 hN14 => ?_
     refine LWP.seq_k fun N15 hN15 => ?_
     refine LWP.region (l := [_,_,_,_]) ?_
     refine LWo.move (e_int t5) rfl (hn := ?_)
     refine LWo.move (e_Limpl_Value t1) rfl (hn := ?_)
     refine LWo.lenM (f := e_impl_Value) (l := t1) u_Limpl_Value rfl (hn := ?_)
     refine LWo.int _ rfl rfl rfl (hn := ?_)
     refine LWo.nil (hN15 _ ?_)
     refine LWP.cond_split rfl (fun h16 => ?_) (fun h16 => ?_)
     ·have h := bT h16 h
      refine LWP.skip (hN14 _ ?_)
      refine LWP.seq_k fun N17 hN17 => ?_
      refine LWP.block ?_
      refine LWP.join (α := (List S_impl_Column) × (List S_impl_Value) × Int × Bool) (fun z : (List S_impl_Column) × (List S_impl_Value) × Int × Bool => [(0, (e_Limpl_Column z.1)), (1, (e_Limpl_Value z.2.1)), (5, (e_int z.2.2.1)), (53, (e_bool z.2.2.2))]) (fun z : (List S_impl_Column) × (List S_impl_Value) × Int × Bool => []) (fun z : (List S_impl_Column) × (List S_impl_Value) × Int × Bool => m_spec_RowFits_j2  (m_spec_RowFits_l1  n1) z.1 z.2.1 z.2.2.1 z.2.2.2) r (fun _ => by simp [hkeys]) ?_ ?_
      ·rintro ⟨t0, t1, t5, t53⟩ h
       replace h : m_spec_RowFits_j2  (m_spec_RowFits_l1  n1) t0 t1 t5 t53 = some _ := h
       refine LWP.cond_split rfl (fun h25 => ?_) (fun h25 => ?_)
       ·have h := bT h25 h
        refine LWP.seq_k fun N26 hN26 => ?_
        refine LWP.region (l := [_]) ?_
        refine LWo.assign (e_bool false) rfl (hn := ?_)
        refine LWo.nil (hN26 _ ?_)
        obtain rfl := Option.some.inj h
        refine LWP.ret (QG.mk (.inr rfl) (.cons (.tmp (x := (e_bool false)) rfl) (.nil)) (RetOK.one0 (.pure rfl) (by decide)) rfl rfl)
       ·have h := bF h25 h
        refine LWP.skip (hN17 _ ?_)
        refine LWP.region (l := [_,_,_]) ?_
        refine LWo.move (e_int t5) rfl (hn := ?_)
        refine bk h fun x27 e27 h => ?_
        refine LWo.int _ rfl rfl (add_ck e27) (hn := ?_)
        refine LWo.assign (e_int x27) rfl (hn := ?_)
        refine LWo.nil (hN12 (t0, t1, x27) _ ⟨rfl, rfl, rfl, trivial⟩ trivial h)
      ·intro N18 hN18
       refine bk h fun x19 e19 h => ?_
       refine bk h fun x20 e20 h => ?_
       refine bS ((x19.Kind != x20.Kind)) (fun h21 => ?_) (fun h21 => ?_)
       ·have h := bT h21 h
        refine bk h fun x22 e22 h => ?_
        refine bS ((x22.Kind != (0 : Int))) (fun h23 => ?_) (fun h23 => ?_)
        ·have h := bT h23 h
         refine LWP.drawF (l := [_,_,_,_,_,_,_,_,_,_,_,_,_,_,_,_,_,_,_,_,_,_,_,_,_,_,_]) [] [0, 1, 5] [([1], []), ([5], []), ([27, 28], []), ([29], []), ([30], []), ([0], []), ([5], []), ([32, 33], []), ([34], []), ([35], []), ([31, 36], []), ([37], []), ([1, 38], []), ([5, 38], []), ([38, 39, 40], []), ([38, 41], []), ([38, 42], []), ([38, 43], []), ([38, 44], []), ([0, 45], []), ([5, 45], []), ([45, 46, 47], []), ([45, 48], []), ([45, 49], []), ([45, 50], []), ([38, 45, 51], []), ([38, 52], [])] [0, 1, 5, 53] [] mixed (by kernel_rfl) rfl (by decide) ?_
         refine dq 27 rfl (fun _ g u h => LWo.move (e_Limpl_Value t1) u.1 (hn := .nil (zn g))) ?_
         refine dq 28 rfl (fun _ g u h => LWo.move (e_int t5) u.1 (hn := .nil (zn g))) ?_
         refine dq 29 rfl (fun _ g u h => LWo.indexM (f := e_impl_Value) e19 u_Limpl_Value s_impl_Value u.1 u.2.1 (hn := .nil (zn g))) ?_
         refine dq 30 rfl (fun _ g u h => LWo.fieldAddr _ u_impl_Value rfl s_int u.1 rfl (hn := .nil (zn g))) ?_
         refine dq 31 rfl (fun _ g u h => LWo.load1 (c := (e_int x19.Kind)) g_int u.1 (hn := .nil (zn g))) ?_
         refine dq 32 rfl (fun _ g u h => LWo.move (e_Limpl_Column t0) u.1 (hn := .nil (zn g))) ?_
         refine dq 33 rfl (fun _ g u h => LWo.move (e_int t5) u.1 (hn := .nil (zn g))) ?_
         refine dq 34 rfl (fun _ g u h => LWo.indexM (f := e_impl_Column) e20 u_Limpl_Column s_impl_Column u.1 u.2.1 (hn := .nil (zn g))) ?_
         refine dq 35 rfl (fun _ g u h => LWo.fieldAddr _ u_impl_Column rfl s_int u.1 rfl (hn := .nil (zn g))) ?_
         refine dq 36 rfl (fun _ g u h => LWo.load1 (c := (e_int x20.Kind)) g_int u.1 (hn := .nil (zn g))) ?_
         refine dq 37 rfl (fun _ g u h => LWo.int _ u.1 u.2.1 rfl (hn := .nil (zn g))) ?_
         refine dq 38 rfl (fun _ g u h => LWo.move (e_bool (x19.Kind != x20.Kind)) u.1 (hn := .nil (zn g))) ?_
         refine dq 39 rfl (fun _ g u h => LWo.guardY (t := 38) u.2.1 h21 rfl rfl (LWo.move (e_Limpl_Value t1) u.1 (hn := .nil (zn g)))) ?_
         refine dq 40 rfl (fun _ g u h => LWo.guardY (t := 38) u.2.1 h21 rfl rfl (LWo.move (e_int t5) u.1 (hn := .nil (zn g)))) ?_
         refine dq 41 rfl (fun _ g u h => LWo.guardY (t := 38) u.1 h21 rfl rfl (LWo.indexM (f := e_impl_Value) e22 u_Limpl_Value s_impl_Value u.2.1 u.2.2.1 (hn := .nil (zn g)))) ?_
         refine dq 42 rfl (fun _ g u h => LWo.guardY (t := 38) u.1 h21 rfl rfl (LWo.fieldAddr _ u_impl_Value rfl s_int u.2.1 rfl (hn := .nil (zn g)))) ?_
         refine dq 43 rfl (fun _ g u h => LWo.guardY (t := 38) u.1 h21 rfl rfl (LWo.load1 (c := (e_int x22.Kind)) g_int u.2.1 (hn := .nil (zn g)))) ?_
         refine dq 44 rfl (fun _ g u h => LWo.guardY (t := 38) u.1 h21 rfl rfl (LWo.int _ u.2.1 rfl rfl (hn := .nil (zn g)))) ?_
         refine dq 45 rfl (fun _ g u h => LWo.guardY (t := 38) u.1 h21 rfl rfl (LWo.move (e_bool (x22.Kind != (0 : Int))) u.2.1 (hn := .nil (zn g)))) ?_
         refine dq 46 rfl (fun _ g u h => LWo.guardNU (t := 45) u.2.1 h23 rfl rfl rfl rfl rfl (.nil (zn g))) ?_
         refine dq 47 rfl (fun _ g u h => LWo.guardNU (t := 45) u.2.1 h23 rfl rfl rfl rfl rfl (.nil (zn g))) ?_
         refine dq 48 rfl (fun _ g u h => LWo.guardNU (t := 45) u.1 h23 rfl rfl rfl rfl rfl (.nil (zn g))) ?_
         refine dq 49 rfl (fun _ g u h => LWo.guardNU (t := 45) u.1 h23 rfl rfl rfl rfl rfl (.nil (zn g))) ?_
         refine dq 50 rfl (fun _ g u h => LWo.guardNU (t := 45) u.1 h23 rfl rfl rfl rfl rfl (.nil (zn g))) ?_
         refine dq 51 rfl (fun _ g u h => LWo.guardNU (t := 45) u.1 h23 rfl rfl rfl rfl rfl (.nil (zn g))) ?_
         refine dq 52 rfl (fun _ g u h => LWo.guardY (t := 38) u.1 h21 rfl rfl (LWo.pickTM (e_bool true) u.2.1 h23 rfl (hn := .nil (zn g)))) ?_
         refine dq 53 rfl (fun _ g u h => LWo.pickTM (e_bool true) u.1 h21 u.2.1 (hn := .nil (zn g))) ?_
         refine ⟨rfl, by kernel_rfl, hN18 (t0, t1, t5, true) _ ⟨rfl, rfl, rfl, rfl, trivial⟩ trivial h⟩
        ·have h := bF h23 h
         refine bk h fun x24 e24 h => ?_
         refine LWP.drawF (l := [_,_,_,_,_,_,_,_,_,_,_,_,_,_,_,_,_,_,_,_,_,_,_,_,_,_,_]) [] [0, 1, 5] [([1], []), ([5], []), ([27, 28], []), ([29], []), ([30], []), ([0], []), ([5], []), ([32, 33], []), ([34], []), ([35], []), ([31, 36], []), ([37], []), ([1, 38], []), ([5, 38], []), ([38, 39, 40], []), ([38, 41], []), ([38, 42], []), ([38, 43], []), ([38, 44], []), ([0, 45], []), ([5, 45], []), ([45, 46, 47], []), ([45, 48], []), ([45, 49], []), ([45, 50], []), ([38, 45, 51], []), ([38, 52], [])] [0, 1, 5, 53] [] mixed (by kernel_rfl) rfl (by decide) ?_
         refine dq 27 rfl (fun _ g u h => LWo.move (e_Limpl_Value t1) u.1 (hn := .nil (zn g))) ?_
         refine dq 28 rfl (fun _ g u h => LWo.move (e_int t5) u.1 (hn := .nil (zn g))) ?_
         refine dq 29 rfl (fun _ g u h => LWo.indexM (f := e_impl_Value) e19 u_Limpl_Value s_impl_Value u.1 u.2.1 (hn := .nil (zn g))) ?_
         refine dq 30 rfl (fun _ g u h => LWo.fieldAddr _ u_impl_Value rfl s_int u.1 rfl (hn := .nil (zn g))) ?_
         refine dq 31 rfl (fun _ g u h => LWo.load1 (c := (e_int x19.Kind)) g_int u.1 (hn := .nil (zn g))) ?_
         refine dq 32 rfl (fun _ g u h => LWo.move (e_Limpl_Column t0) u.1 (hn := .nil (zn g))) ?_
         refine dq 33 rfl (fun _ g u h => LWo.move (e_int t5) u.1 (hn := .nil (zn g))) ?_
         refine dq 34 rfl (fun _ g u h => LWo.indexM (f := e_impl_Column) e20 u_Limpl_Column s_impl_Column u.1 u.2.1 (hn := .nil (zn g))) ?_
         refine dq 35 rfl (fun _ g u h => LWo.fieldAddr _ u_impl_Column rfl s_int u.1 rfl (hn := .nil (zn g))) ?_
         refine dq 36 rfl (fun _ g u h => LWo.load1 (c := (e_int x20.Kind)) g_int u.1 (hn := .nil (zn g))) ?_
         refine dq 37 rfl (fun _ g u h => LWo.int _ u.1 u.2.1 rfl (hn := .nil (zn g))) ?_
         refine dq 38 rfl (fun _ g u h => LWo.move (e_bool (x19.Kind != x20.Kind)) u.1 (hn := .nil (zn g))) ?_
         refine dq 39 rfl (fun _ g u h => LWo.guardY (t := 38) u.2.1 h21 rfl rfl (LWo.move (e_Limpl_Value t1) u.1 (hn := .nil (zn g)))) ?_
         refine dq 40 rfl (fun _ g u h => LWo.guardY (t := 38) u.2.1 h21 rfl rfl (LWo.move (e_int t5) u.1 (hn := .nil (zn g)))) ?_
         refine dq 41 rfl (fun _ g u h => LWo.guardY (t := 38) u.1 h21 rfl rfl (LWo.indexM (f := e_impl_Value) e22 u_Limpl_Value s_impl_Value u.2.1 u.2.2.1 (hn := .nil (zn g)))) ?_
         refine dq 42 rfl (fun _ g u h => LWo.guardY (t := 38) u.1 h21 rfl rfl (LWo.fieldAddr _ u_impl_Value rfl s_int u.2.1 rfl (hn := .nil (zn g)))) ?_
         refine dq 43 rfl (fun _ g u h => LWo.guardY (t := 38) u.1 h21 rfl rfl (LWo.load1 (c := (e_int x22.Kind)) g_int u.2.1 (hn := .nil (zn g)))) ?_
         refine dq 44 rfl (fun _ g u h => LWo.guardY (t := 38) u.1 h21 rfl rfl (LWo.int _ u.2.1 rfl rfl (hn := .nil (zn g)))) ?_
         refine dq 45 rfl (fun _ g u h => LWo.guardY (t := 38) u.1 h21 rfl rfl (LWo.move (e_bool (x22.Kind != (0 : Int))) u.2.1 (hn := .nil (zn g)))) ?_
         refine dq 46 rfl (fun _ g u h => LWo.guardY (t := 45) u.2.1 h23 rfl rfl (LWo.move (e_Limpl_Column t0) u.1 (hn := .nil (zn g)))) ?_
         refine dq 47 rfl (fun _ g u h => LWo.guardY (t := 45) u.2.1 h23 rfl rfl (LWo.move (e_int t5) u.1 (hn := .nil (zn g)))) ?_
         refine dq 48 rfl (fun _ g u h => LWo.guardY (t := 45) u.1 h23 rfl rfl (LWo.indexM (f := e_impl_Column) e24 u_Limpl_Column s_impl_Column u.2.1 u.2.2.1 (hn := .nil (zn g)))) ?_
         refine dq 49 rfl (fun _ g u h => LWo.guardY (t := 45) u.1 h23 rfl rfl (LWo.fieldAddr _ u_impl_Column rfl s_bool u.2.1 rfl (hn := .nil (zn g)))) ?_
         refine dq 50 rfl (fun _ g u h => LWo.guardY (t := 45) u.1 h23 rfl rfl (LWo.load1 (c := (e_bool x24.Empty)) g_bool u.2.1 (hn := .nil (zn g)))) ?_
         refine dq 51 rfl (fun _ g u h => LWo.guardY (t := 45) u.1 h23 rfl rfl (LWo.not u.2.1 (hn := .nil (zn g)))) ?_
         refine dq 52 rfl (fun _ g u h => LWo.guardY (t := 38) u.1 h21 rfl rfl (LWo.pickFM (e_bool (!x24.Empty)) u.2.1 h23 u.2.2.1 (hn := .nil (zn g)))) ?_
         refine dq 53 rfl (fun _ g u h => LWo.pickTM (e_bool (!x24.Empty)) u.1 h21 u.2.1 (hn := .nil (zn g))) ?_
         refine ⟨rfl, by kernel_rfl, hN18 (t0, t1, t5, (!x24.Empty)) _ ⟨rfl, rfl, rfl, rfl, trivial⟩ trivial h⟩
       ·have h := bF h21 h
        refine LWP.drawF (l := [_,_,_,_,_,_,_,_,_,_,_,_,_,_,_,_,_,_,_,_,_,_,_,_,_,_,_]) [] [0, 1, 5] [([1], []), ([5], []), ([27, 28], []), ([29], []), ([30], []), ([0], []), ([5], []), ([32, 33], []), ([34], []), ([35], []), ([31, 36], []), ([37], []), ([1, 38], []), ([5, 38], []), ([38, 39, 40], []), ([38, 41], []), ([38, 42], []), ([38, 43], []), ([38, 44], []), ([0, 45], []), ([5, 45], []), ([45, 46, 47], []), ([45, 48], []), ([45, 49], []), ([45, 50], []), ([38, 45, 51], []), ([38, 52], [])] [0, 1, 5, 53] [] mixed (by kernel_rfl) rfl (by decide) ?_
        refine dq 27 rfl (fun _ g u h => LWo.move (e_Limpl_Value t1) u.1 (hn := .nil (zn g))) ?_
        refine dq 28 rfl (fun _ g u h => LWo.move (e_int t5) u.1 (hn := .nil (zn g))) ?_
        refine dq 29 rfl (fun _ g u h => LWo.indexM (f := e_impl_Value) e19 u_Limpl_Value s_impl_Value u.1 u.2.1 (hn := .nil (zn g))) ?_
        refine dq 30 rfl (fun _ g u h => LWo.fieldAddr _ u_impl_Value rfl s_int u.1 rfl (hn := .nil (zn g))) ?_
        refine dq 31 rfl (fun _ g u h => LWo.load1 (c := (e_int x19.Kind)) g_int u.1 (hn := .nil (zn g))) ?_
        refine dq 32 rfl (fun _ g u h => LWo.move (e_Limpl_Column t0) u.1 (hn := .nil (zn g))) ?_
        refine dq 33 rfl (fun _ g u h => LWo.move (e_int t5) u.1 (hn := .nil (zn g))) ?_
        refine dq 34 rfl (fun _ g u h => LWo.indexM (f := e_impl_Column) e20 u_Limpl_Column s_impl_Column u.1 u.2.1 (hn := .nil (zn g))) ?_
        refine dq 35 rfl (fun _ g u h => LWo.fieldAddr _ u_impl_Column rfl s_int u.1 rfl (hn := .nil (zn g))) ?_
        refine dq 36 rfl (fun _ g u h => LWo.load1 (c := (e_int x20.Kind)) g_int u.1 (hn := .nil (zn g))) ?_
        refine dq 37 rfl (fun _ g u h => LWo.int _ u.1 u.2.1 rfl (hn := .nil (zn g))) ?_
        refine dq 38 rfl (fun _ g u h => LWo.move (e_bool (x19.Kind != x20.Kind)) u.1 (hn := .nil (zn g))) ?_
        refine dq 39 rfl (fun _ g u h => LWo.guardNU (t := 38) u.2.1 h21 rfl rfl rfl rfl rfl (.nil (zn g))) ?_
        refine dq 40 rfl (fun _ g u h => LWo.guardNU (t := 38) u.2.1 h21 rfl rfl rfl rfl rfl (.nil (zn g))) ?_
        refine dq 41 rfl (fun _ g u h => LWo.guardNU (t := 38) u.1 h21 rfl rfl rfl rfl rfl (.nil (zn g))) ?_
        refine dq 42 rfl (fun _ g u h => LWo.guardNU (t := 38) u.1 h21 rfl rfl rfl rfl rfl (.nil (zn g))) ?_
        refine dq 43 rfl (fun _ g u h => LWo.guardNU (t := 38) u.1 h21 rfl rfl rfl rfl rfl (.nil (zn g))) ?_
        refine dq 44 rfl (fun _ g u h => LWo.guardNU (t := 38) u.1 h21 rfl rfl rfl rfl rfl (.nil (zn g))) ?_
        refine dq 45 rfl (fun _ g u h => LWo.guardNU (t := 38) u.1 h21 rfl rfl rfl rfl rfl (.nil (zn g))) ?_
        refine dq 46 rfl (fun _ g u h => LWo.guardU (t := 45) u.2.1 rfl rfl rfl rfl (.nil (zn g))) ?_
        refine dq 47 rfl (fun _ g u h => LWo.guardU (t := 45) u.2.1 rfl rfl rfl rfl (.nil (zn g))) ?_
        refine dq 48 rfl (fun _ g u h => LWo.guardU (t := 45) u.1 rfl rfl rfl rfl (.nil (zn g))) ?_
        refine dq 49 rfl (fun _ g u h => LWo.guardU (t := 45) u.1 rfl rfl rfl rfl (.nil (zn g))) ?_
        refine dq 50 rfl (fun _ g u h => LWo.guardU (t := 45) u.1 rfl rfl rfl rfl (.nil (zn g))) ?_
        refine dq 51 rfl (fun _ g u h => LWo.guardU (t := 45) u.1 rfl rfl rfl rfl (.nil (zn g))) ?_
        refine dq 52 rfl (fun _ g u h => LWo.guardNU (t := 38) u.1 h21 rfl rfl rfl rfl rfl (.nil (zn g))) ?_
        refine dq 53 rfl (fun _ g u h => LWo.pickFM (e_bool false) u.1 h21 rfl (hn := .nil (zn g))) ?_
        refine ⟨rfl, by kernel_rfl, hN18 (t0, t1, t5, false) _ ⟨rfl, rfl, rfl, rfl, trivial⟩ trivial h⟩
     ·have h := bF h16 h
      refine LWP.exit (hN10 () _ trivial trivial h)
  ·intro N3 hN3
   refine LWP.region (l := [_,_,_,_,_,_,_,_,_,_,_,_,_,_,_]) ?_
   refine LWo.move (e_Limpl_Column a0) rfl (hn := ?_)
   refine bk h fun x4 e4 h => ?_
   refine LWo.vcall rfl rfl (c_spec_ColumnsOk _ _ e4) (.same (.nil)) (hn := ?_)
   refine LWo.not rfl (hn := ?_)
   refine LWo.move (e_bool (!x4)) rfl (hn := ?_)
   refine LWo.byCases (t := 9) _ rfl (fun h5 => ?_) (fun h5 => ?_)
   ·have h := bT h5 h
    refine LWo.guardNU (t := 9) rfl h5 rfl rfl rfl rfl rfl ?_
    refine LWo.guardNU (t := 9) rfl h5 rfl rfl rfl rfl rfl ?_
    refine LWo.guardNU (t := 9) rfl h5 rfl rfl rfl rfl rfl ?_
    refine LWo.pickTM (e_bool true) rfl h5 rfl (hn := ?_)
    refine LWo.move (e_bool true) rfl (hn := ?_)
    refine LWo.guardNU (t := 14) rfl rfl rfl rfl rfl rfl rfl ?_
    refine LWo.guardNU (t := 14) rfl rfl rfl rfl rfl rfl rfl ?_
    refine LWo.guardNU (t := 14) rfl rfl rfl rfl rfl rfl rfl ?_
    refine LWo.guardNU (t := 14) rfl rfl rfl rfl rfl rfl rfl ?_
    refine LWo.guardNU (t := 14) rfl rfl rfl rfl rfl rfl rfl ?_
    refine LWo.pickTM (e_bool true) rfl rfl rfl (hn := ?_)
    refine LWo.nil (hN3 (a0, a1, true) _ ⟨rfl, rfl, rfl, trivial⟩ trivial h)
   ·have h := bF h5 h
    refine LWo.guardY (t := 9) rfl h5 rfl rfl ?_
    refine LWo.move (e_Limpl_Value a1) rfl (hn := ?_)
    refine bk h fun x6 e6 h => ?_
    refine LWo.guardY (t := 9) rfl h5 rfl rfl ?_
    refine LWo.vcall rfl rfl (c_spec_RowOk _ _ e6) (.same (.nil)) (hn := ?_)
    refine LWo.guardY (t := 9) rfl h5 rfl rfl ?_
    refine LWo.not rfl (hn := ?_)
    refine LWo.pickFM (e_bool (!x6)) rfl h5 rfl (hn := ?_)
    refine LWo.move (e_bool (!x6)) rfl (hn := ?_)
    refine LWo.byCases (t := 14) _ rfl (fun h7 => ?_) (fun h7 => ?_)
    ·have h := bT h7 h
     refine LWo.guardNU (t := 14) rfl h7 rfl rfl rfl rfl rfl ?_
     refine LWo.guardNU (t := 14) rfl h7 rfl rfl rfl rfl rfl ?_
     refine LWo.guardNU (t := 14) rfl h7 rfl rfl rfl rfl rfl ?_
     refine LWo.guardNU (t := 14) rfl h7 rfl rfl rfl rfl rfl ?_
     refine LWo.guardNU (t := 14) rfl h7 rfl rfl rfl rfl rfl ?_
     refine LWo.pickTM (e_bool true) rfl h7 rfl (hn := ?_)
     refine LWo.nil (hN3 (a0, a1, true) _ ⟨rfl, rfl, rfl, trivial⟩ trivial h)
    ·have h := bF h7 h
     refine LWo.guardY (t := 14) rfl h7 rfl rfl ?_
     refine LWo.move (e_Limpl_Value a1) rfl (hn := ?_)
     refine LWo.guardY (t := 14) rfl h7 rfl rfl ?_
     refine LWo.lenM (f := e_impl_Value) (l := a1) u_Limpl_Value rfl (hn := ?_)
     refine LWo.guardY (t := 14) rfl h7 rfl rfl ?_
     refine LWo.move (e_Limpl_Column a0) rfl (hn := ?_)
     refine LWo.guardY (t := 14) rfl h7 rfl rfl ?_
     refine LWo.lenM (f := e_impl_Column) (l := a0) u_Limpl_Column rfl (hn := ?_)
     refine LWo.guardY (t := 14) rfl h7 rfl rfl ?_
     refine LWo.int _ rfl rfl rfl (hn := ?_)
     refine LWo.pickFM (e_bool ((a1.length : Int) != (a0.length : Int))) rfl h7 rfl (hn := ?_)
     refine LWo.nil (hN3 (a0, a1, ((a1.length : Int) != (a0.length : Int))) _ ⟨rfl, rfl, rfl, trivial⟩ trivial h)

def m_spec_RowsOk_j1 (t0 : (List S_impl_Column)) : Option Bool :=
  (m_spec_ColumnsOk t0).bind fun x17 =>
  some x17
def m_spec_RowsOk_l1 : Nat → (List S_impl_Column) → (List (List S_impl_Value)) → Int → Option Bool
  | 0, _, _, _ => none
  | n1 + 1, t0, t1, t5 =>
    bif decide (t5 < (t1.length : Int)) then ((at? t1 t5).bind fun x11 =>
    (m_spec_RowFits t0 x11).bind fun x12 =>
    bif (!x12) then (some false)
    else ((ckI (t5 + (1 : Int))).bind fun x15 =>
    (m_spec_RowsOk_l1  n1) t0 t1 x15))
    else (m_spec_RowsOk_j1  t0)
def m_spec_RowsOk (a0 : (List S_impl_Column)) (a1 : (List (List S_impl_Value))) : Option Bool :=
  m_spec_RowsOk_l1  (((a1.length : Int) - (0 : Int)).toNat + 1) a0 a1 (0 : Int)
theorem c_spec_RowsOk (a0 : (List S_impl_Column)) (a1 : (List (List S_impl_Value))) (r : Bool) (h : m_spec_RowsOk a0 a1 = some r) : Ret Try.prog f_spec_RowsOk [e_Limpl_Column a0, e_LLimpl_Value a1] (e_bool r) := by
  refine Does.goG [] F_spec_RowsOk rfl e_spec_RowsOk n_spec_RowsOk rfl (rvs := [.tmp 4]) rfl rfl ?_
  intro w0 ok0 lent ρ0
  refine LWP.seq_k fun N1 hN1 => ?_
  refine LWP.region (l := [_]) ?_
  refine LWo.assign (e_bool false) rfl (hn := ?_)
  refine LWo.nil (hN1 _ ?_)
  refine LWP.join (α := (List S_impl_Column)) (fun z : (List S_impl_Column) => [(0, (e_Limpl_Column z))]) (fun z : (List S_impl_Column) => []) (fun z : (List S_impl_Column) => m_spec_RowsOk_j1  z) r (fun _ => by simp [hkeys]) ?_ ?_
  ·rintro t0 h
   replace h : m_spec_RowsOk_j1  t0 = some _ := h
   refine LWP.seq_k fun N16 hN16 => ?_
   refine LWP.region (l := [_,_,_]) ?_
   refine LWo.move (e_Limpl_Column t0) rfl (hn := ?_)
   refine bk h fun x17 e17 h => ?_
   refine LWo.vcall rfl rfl (c_spec_ColumnsOk _ _ e17) (.same (.nil)) (hn := ?_)
   refine LWo.assign (e_bool x17) rfl (hn := ?_)
   refine LWo.nil (hN16 _ ?_)
   obtain rfl := Option.some.inj h
   refine LWP.ret (QG.mk (.inr rfl) (.cons (.tmp (x := (e_bool x17)) rfl) (.nil)) (RetOK.one0 (.pure rfl) (by decide)) rfl rfl)
  ·intro N2 hN2
   refine LWP.seq_k fun N3 hN3 => ?_
   refine LWP.region (l := [_]) ?_
   refine LWo.assign (e_int (0 : Int)) rfl (hn := ?_)
   refine LWo.nil (hN3 _ ?_)
   refine LWP.block ?_
   refine LWP.loopM (α := (List S_impl_Column) × (List (List S_impl_Value)) × Int) (fun z : (List S_impl_Column) × (List (List S_impl_Value)) × Int => [(0, (e_Limpl_Column z.1)), (1, (e_LLimpl_Value z.2.1)), (5, (e_int z.2.2))]) (fun z : (List S_impl_Column) × (List (List S_impl_Value)) × Int => []) (fun n1 (z : (List S_impl_Column) × (List (List S_impl_Value)) × Int) => m_spec_RowsOk_l1  n1 z.1 z.2.1 z.2.2) r _ (a0, a1, (0 : Int)) h (fun _ => rfl) (fun _ => by simp [hkeys]) ⟨rfl, rfl, rfl, trivial⟩ trivial ?_
   rintro n1 ⟨t0, t1, t5⟩ h N4 hN4
   replace h : m_spec_RowsOk_l1  (n1 + 1) t0 t1 t5 = some _ := h
   refine LWP.seq_k fun N6 hN6 => ?_
   refine LWP.seq_k fun N7 hN7 => ?_
   refine LWP.region (l := [_,_,_,_]) ?_
   refine LWo.move (e_int t5) rfl (hn := ?_)
   refine LWo.move (e_LLimpl_Value t1) rfl (hn := ?_)
   refine LWo.lenM (f := e_Limpl_Value) (l := t1) u_LLimpl_Value rfl (hn := ?_)
   refine LWo.int _ rfl rfl rfl (hn := ?_)
   refine LWo.nil (hN7 _ ?_)
   refine LWP.cond_split rfl (fun h8 => ?_) (fun h8 => ?_)
   ·have h := bT h8 h
    refine LWP.skip (hN6 _ ?_)
    refine LWP.seq_k fun N9 hN9 => ?_
    refine LWP.block ?_
    refine LWP.seq_k fun N10 hN10 => ?_
    refine LWP.region (l := [_,_,_,_,_,_,_]) ?_
    refine LWo.move (e_Limpl_Column t0) rfl (hn := ?_)
    refine LWo.move (e_LLimpl_Value t1) rfl (hn := ?_)
    refine LWo.move (e_int t5) rfl (hn := ?_)
    refine bk h fun x11 e11 h => ?_
    refine LWo.indexM (f := e_Limpl_Value) e11 u_LLimpl_Value s_Limpl_Value rfl rfl (hn := ?_)
    refine LWo.load1 (c := (e_Limpl_Value x11)) g_Limpl_Value rfl (hn := ?_)
    refine bk h fun x12 e12 h => ?_
    refine LWo.vcall rfl rfl (c_spec_RowFits _ _ _ e12) (.same (.same (.nil))) (hn := ?_)
    refine LWo.not rfl (hn := ?_)
    refine LWo.nil (hN10 _ ?_)
    refine LWP.cond_split rfl (fun h13 => ?_) (fun h13 => ?_)
    ·have h := bT h13 h
     refine LWP.seq_k fun N14 hN14 => ?_
     refine LWP.region (l := [_]) ?_
     refine LWo.assign (e_bool false) rfl (hn := ?_)
     refine LWo.nil (hN14 _ ?_)
     obtain rfl := Option.some.inj h
     refine LWP.ret (QG.mk (.inr rfl) (.cons (.tmp (x := (e_bool false)) rfl) (.nil)) (RetOK.one0 (.pure rfl) (by decide)) rfl rfl)
    ·have h := bF h13 h
     refine LWP.skip (hN9 _ ?_)
     refine LWP.region (l := [_,_,_]) ?_
     refine LWo.move (e_int t5) rfl (hn := ?_)
     refine bk h fun x15 e15 h => ?_
     refine LWo.int _ rfl rfl (add_ck e15) (hn := ?_)
     refine LWo.assign (e_int x15) rfl (hn := ?_)
     refine LWo.nil (hN4 (t0, t1, x15) _ ⟨rfl, rfl, rfl, trivial⟩ trivial h)
   ·have h := bF h8 h
    refine LWP.exit (hN2 t0 _ ⟨rfl, trivial⟩ trivial h)

def m_spec_TablesOk_j2 (t0 : (List S_impl_Table)) : Option Bool :=
  some (decide ((t0.length : Int) ≤ (3 : Int)))
def m_spec_TablesOk_j1 (k1 : (List S_impl_Table) → Int → Option Bool) (t0 : (List S_impl_Table)) (t3 : Int) (t30 : Bool) : Option Bool :=
  bif t30 then (some false)
  else ((ckI (t3 + (1 : Int))).bind fun x18 =>
  k1 t0 x18)
def m_spec_TablesOk_l1 : Nat → (List S_impl_Table) → Int → Option Bool
  | 0, _, _ => none
  | n1 + 1, t0, t3 =>
    bif decide (t3 < (t0.length : Int)) then ((at? t0 t3).bind fun x11 =>
    bif decide ((x11.Rows.length : Int) > (6 : Int)) then (m_spec_TablesOk_j1  (m_spec_TablesOk_l1  n1) t0 t3 true)
    else ((at? t0 t3).bind fun x13 =>
      (at? t0 t3).bind fun x14 =>
      (m_spec_RowsOk x13.Columns x14.Rows).bind fun x15 =>
      m_spec_TablesOk_j1  (m_spec_TablesOk_l1  n1) t0 t3 (!x15)))
    else (m_spec_TablesOk_j2  t0)
def m_spec_TablesOk (a0 : (List S_impl_Table)) : Option Bool :=
  m_spec_TablesOk_l1  (((a0.length : Int) - (0 : Int)).toNat + 1) a0 (0 : Int)
theorem c_spec_TablesOk (a0 : (List S_impl_Table)) (r : Bool) (h : m_spec_TablesOk a0 = some r) : Ret Try.prog f_spec_TablesOk [e_Limpl_Table a0] (e_bool r) := by
  refine Does.goG [] F_spec_TablesOk rfl e_spec_TablesOk n_spec_TablesOk rfl (rvs := [.tmp 2]) rfl rfl ?_
  intro w0 ok0 lent ρ0
  refine LWP.seq_k fun N1 hN1 => ?_
  refine LWP.region (l := [_]) ?_
  refine LWo.assign (e_bool false) rfl (hn := ?_)
  refine LWo.nil (hN1 _ ?_)
  refine LWP.join (α := (List S_impl_Table)) (fun z : (List S_impl_Table) => [(0, (e_Limpl_Table z))]) (fun z : (List S_impl_Table) => []) (fun z : (List S_impl_Table) => m_spec_TablesOk_j2  z) r (fun _ => by simp [hkeys]) ?_ ?_
  ·rintro t0 h
   replace h : m_spec_TablesOk_j2  t0 = some _ := h
   refine LWP.seq_k fun N19 hN19 => ?_
   refine LWP.region (l := [_,_,_,_]) ?_
   refine LWo.move (e_Limpl_Table t0) rfl (hn := ?_)
   refine LWo.lenM (f := e_impl_Table) (l := t0) u_Limpl_Table rfl (hn := ?_)
   refine LWo.int _ rfl rfl rfl (hn := ?_)
   refine LWo.assign (e_bool (decide ((t0.length : Int) ≤ (3 : Int)))) rfl (hn := ?_)
   refine LWo.nil (hN19 _ ?_)
   obtain rfl := Option.some.inj h
   refine LWP.ret (QG.mk (.inr rfl) (.cons (.tmp (x := (e_bool (decide ((t0.length : Int) ≤ (3 : Int))))) rfl) (.nil)) (RetOK.one0 (.pure rfl) (by decide)) rfl rfl)
  ·intro N2 hN2
   refine LWP.seq_k fun N3 hN3 => ?_
   refine LWP.region (l := [_]) ?_
   refine LWo.assign (e_int (0 : Int)) rfl (hn := ?_)
   refine LWo.nil (hN3 _ ?_)
   refine LWP.block ?_
   refine LWP.loopM (α := (List S_impl_Table) × Int) (fun z : (List S_impl_Table) × Int => [(0, (e_Limpl_Table z.1)), (3, (e_int z.2))]) (fun z : (List S_impl_Table) × Int => []) (fun n1 (z : (List S_impl_Table) × Int) => m_spec_TablesOk_l1  n1 z.1 z.2) r _ (a0, (0 : Int)) h (fun _ => rfl) (fun _ => by simp [hkeys]) ⟨rfl, rfl, trivial⟩ trivial ?_
   rintro n1 ⟨t0, t3⟩ h N4 hN4
   replace h : m_spec_TablesOk_l1  (n1 + 1) t0 t3 = some _ := h
   refine LWP.seq_k fun N6 hN6 => ?_
   refine LWP.seq_k fun N7 hN7 => ?_
   refine LWP.region (l := [_,_,_,_]) ?_
   refine LWo.move (e_int t3) rfl (hn := ?_)
   refine LWo.move (e_Limpl_Table t0) rfl (hn := ?_)
   refine LWo.lenM (f := e_impl_Table) (l := t0) u_Limpl_Table rfl (hn := ?_)
   refine LWo.int _ rfl rfl rfl (hn := ?_)
   refine LWo.nil (hN7 _ ?_)
   refine LWP.cond_split rfl (fun h8 => ?_) (fun h8 => ?_)
   ·have h := bT h8 h
    refine LWP.skip (hN6 _ ?_)
    refine LWP.seq_k fun N9 hN9 => ?_
    refine LWP.block ?_
    refine LWP.join (α := (List S_impl_Table) × Int × Bool) (fun z : (List S_impl_Table) × Int × Bool => [(0, (e_Limpl_Table z.1)), (3, (e_int z.2.1)), (30, (e_bool z.2.2))]) (fun z : (List S_impl_Table) × Int × Bool => []) (fun z : (List S_impl_Table) × Int × Bool => m_spec_TablesOk_j1  (m_spec_TablesOk_l1  n1) z.1 z.2.1 z.2.2) r (fun _ => by simp [hkeys]) ?_ ?_
    ·rintro ⟨t0, t3, t30⟩ h
     replace h : m_spec_TablesOk_j1  (m_spec_TablesOk_l1  n1) t0 t3 t30 = some _ := h
     refine LWP.cond_split rfl (fun h16 => ?_) (fun h16 => ?_)
     ·have h := bT h16 h
      refine LWP.seq_k fun N17 hN17 => ?_
      refine LWP.region (l := [_]) ?_
      refine LWo.assign (e_bool false) rfl (hn := ?_)
      refine LWo.nil (hN17 _ ?_)
      obtain rfl := Option.some.inj h
      refine LWP.ret (QG.mk (.inr rfl) (.cons (.tmp (x := (e_bool false)) rfl) (.nil)) (RetOK.one0 (.pure rfl) (by decide)) rfl rfl)
     ·have h := bF h16 h
      refine LWP.skip (hN9 _ ?_)
      refine LWP.region (l := [_,_,_]) ?_
      refine LWo.move (e_int t3) rfl (hn := ?_)
      refine bk h fun x18 e18 h => ?_
      refine LWo.int _ rfl rfl (add_ck e18) (hn := ?_)
      refine LWo.assign (e_int x18) rfl (hn := ?_)
      refine LWo.nil (hN4 (t0, x18) _ ⟨rfl, rfl, trivial⟩ trivial h)
    ·intro N10 hN10
     refine bk h fun x11 e11 h => ?_
     refine bS (decide ((x11.Rows.length : Int) > (6 : Int))) (fun h12 => ?_) (fun h12 => ?_)
     ·have h := bT h12 h
      refine LWP.drawF (l := [_,_,_,_,_,_,_,_,_,_,_,_,_,_,_,_,_,_,_,_,_]) [] [0, 3] [([0], []), ([3], []), ([10, 11], []), ([12], []), ([13], []), ([14], []), ([15], []), ([16], []), ([0, 17], []), ([3, 17], []), ([17, 18, 19], []), ([17, 20], []), ([17, 21], []), ([0, 17], []), ([3, 17], []), ([17, 23, 24], []), ([17, 25], []), ([17, 26], []), ([17, 22, 27], []), ([17, 28], []), ([17, 29], [])] [0, 3, 30] [] mixed (by kernel_rfl) rfl (by decide) ?_
      refine dq 10 rfl (fun _ g u h => LWo.move (e_Limpl_Table t0) u.1 (hn := .nil (zn g))) ?_
      refine dq 11 rfl (fun _ g u h => LWo.move (e_int t3) u.1 (hn := .nil (zn g))) ?_
      refine dq 12 rfl (fun _ g u h => LWo.indexM (f := e_impl_Table) e11 u_Limpl_Table s_impl_Table u.1 u.2.1 (hn := .nil (zn g))) ?_
      refine dq 13 rfl (fun _ g u h => LWo.fieldAddr _ u_impl_Table rfl s_LLimpl_Value u.1 rfl (hn := .nil (zn g))) ?_
      refine dq 14 rfl (fun _ g u h => LWo.load1 (c := (e_LLimpl_Value x11.Rows)) g_LLimpl_Value u.1 (hn := .nil (zn g))) ?_
      refine dq 15 rfl (fun _ g u h => LWo.lenM (f := e_Limpl_Value) (l := x11.Rows) u_LLimpl_Value u.1 (hn := .nil (zn g))) ?_
      refine dq 16 rfl (fun _ g u h => LWo.int _ u.1 rfl rfl (hn := .nil (zn g))) ?_
      refine dq 17 rfl (fun _ g u h => LWo.move (e_bool (decide ((x11.Rows.length : Int) > (6 : Int)))) u.1 (hn := .nil (zn g))) ?_
      refine dq 18 rfl (fun _ g u h => LWo.guardNU (t := 17) u.2.1 h12 rfl rfl rfl rfl rfl (.nil (zn g))) ?_
      refine dq 19 rfl (fun _ g u h => LWo.guardNU (t := 17) u.2.1 h12 rfl rfl rfl rfl rfl (.nil (zn g))) ?_
      refine dq 20 rfl (fun _ g u h => LWo.guardNU (t := 17) u.1 h12 rfl rfl rfl rfl rfl (.nil (zn g))) ?_
      refine dq 21 rfl (fun _ g u h => LWo.guardNU (t := 17) u.1 h12 rfl rfl rfl rfl rfl (.nil (zn g))) ?_
      refine dq 22 rfl (fun _ g u h => LWo.guardNU (t := 17) u.1 h12 rfl rfl rfl rfl rfl (.nil (zn g))) ?_
      refine dq 23 rfl (fun _ g u h => LWo.guardNU (t := 17) u.2.1 h12 rfl rfl rfl rfl rfl (.nil (zn g))) ?_
      refine dq 24 rfl (fun _ g u h => LWo.guardNU (t := 17) u.2.1 h12 rfl rfl rfl rfl rfl (.nil (zn g))) ?_
      refine dq 25 rfl (fun _ g u h => LWo.guardNU (t := 17) u.1 h12 rfl rfl rfl rfl rfl (.nil (zn g))) ?_
      refine dq 26 rfl (fun _ g u h => LWo.guardNU (t := 17) u.1 h12 rfl rfl rfl rfl rfl (.nil (zn g))) ?_
      refine dq 27 rfl (fun _ g u h => LWo.guardNU (t := 17) u.1 h12 rfl rfl rfl rfl rfl (.nil (zn g))) ?_
      refine dq 28 rfl (fun _ g u h => LWo.guardNU (t := 17) u.1 h12 rfl rfl rfl rfl rfl (.nil (zn g))) ?_
      refine dq 29 rfl (fun _ g u h => LWo.guardNU (t := 17) u.1 h12 rfl rfl rfl rfl rfl (.nil (zn g))) ?_
      refine dq 30 rfl (fun _ g u h => LWo.pickTM (e_bool true) u.1 h12 rfl (hn := .nil (zn g))) ?_
      refine ⟨rfl, by kernel_rfl, hN10 (t0, t3, true) _ ⟨rfl, rfl, rfl, trivial⟩ trivial h⟩
     ·have h := bF h12 h
      refine bk h fun x13 e13 h => ?_
      refine bk h fun x14 e14 h => ?_
      refine bk h fun x15 e15 h => ?_
      refine LWP.drawF (l := [_,_,_,_,_,_,_,_,_,_,_,_,_,_,_,_,_,_,_,_,_]) [] [0, 3] [([0], []), ([3], []), ([10, 11], []), ([12], []), ([13], []), ([14], []), ([15], []), ([16], []), ([0, 17], []), ([3, 17], []), ([17, 18, 19], []), ([17, 20], []), ([17, 21], []), ([0, 17], []), ([3, 17], []), ([17, 23, 24], []), ([17, 25], []), ([17, 26], []), ([17, 22, 27], []), ([17, 28], []), ([17, 29], [])] [0, 3, 30] [] mixed (by kernel_rfl) rfl (by decide) ?_
      refine dq 10 rfl (fun _ g u h => LWo.move (e_Limpl_Table t0) u.1 (hn := .nil (zn g))) ?_
      refine dq 11 rfl (fun _ g u h => LWo.move (e_int t3) u.1 (hn := .nil (zn g))) ?_
      refine dq 12 rfl (fun _ g u h => LWo.indexM (f := e_impl_Table) e11 u_Limpl_Table s_impl_Table u.1 u.2.1 (hn := .nil (zn g))) ?_
      refine dq 13 rfl (fun _ g u h => LWo.fieldAddr _ u_impl_Table rfl s_LLimpl_Value u.1 rfl (hn := .nil (zn g))) ?_
      refine dq 14 rfl (fun _ g u h => LWo.load1 (c := (e_LLimpl_Value x11.Rows)) g_LLimpl_Value u.1 (hn := .nil (zn g))) ?_
      refine dq 15 rfl (fun _ g u h => LWo.lenM (f := e_Limpl_Value) (l := x11.Rows) u_LLimpl_Value u.1 (hn := .nil (zn g))) ?_
      refine dq 16 rfl (fun _ g u h => LWo.int _ u.1 rfl rfl (hn := .nil (zn g))) ?_
      refine dq 17 rfl (fun _ g u h => LWo.move (e_bool (decide ((x11.Rows.length : Int) > (6 : Int)))) u.1 (hn := .nil (zn g))) ?_
      refine dq 18 rfl (fun _ g u h => LWo.guardY (t := 17) u.2.1 h12 rfl rfl (LWo.move (e_Limpl_Table t0) u.1 (hn := .nil (zn g)))) ?_
      refine dq 19 rfl (fun _ g u h => LWo.guardY (t := 17) u.2.1 h12 rfl rfl (LWo.move (e_int t3) u.1 (hn := .nil (zn g)))) ?_
      refine dq 20 rfl (fun _ g u h => LWo.guardY (t := 17) u.1 h12 rfl rfl (LWo.indexM (f := e_impl_Table) e13 u_Limpl_Table s_impl_Table u.2.1 u.2.2.1 (hn := .nil (zn g)))) ?_
      refine dq 21 rfl (fun _ g u h => LWo.guardY (t := 17) u.1 h12 rfl rfl (LWo.fieldAddr _ u_impl_Table rfl s_Limpl_Column u.2.1 rfl (hn := .nil (zn g)))) ?_
      refine dq 22 rfl (fun _ g u h => LWo.guardY (t := 17) u.1 h12 rfl rfl (LWo.load1 (c := (e_Limpl_Column x13.Columns)) g_Limpl_Column u.2.1 (hn := .nil (zn g)))) ?_
      refine dq 23 rfl (fun _ g u h => LWo.guardY (t := 17) u.2.1 h12 rfl rfl (LWo.move (e_Limpl_Table t0) u.1 (hn := .nil (zn g)))) ?_
      refine dq 24 rfl (fun _ g u h => LWo.guardY (t := 17) u.2.1 h12 rfl rfl (LWo.move (e_int t3) u.1 (hn := .nil (zn g)))) ?_
      refine dq 25 rfl (fun _ g u h => LWo.guardY (t := 17) u.1 h12 rfl rfl (LWo.indexM (f := e_impl_Table) e14 u_Limpl_Table s_impl_Table u.2.1 u.2.2.1 (hn := .nil (zn g)))) ?_
      refine dq 26 rfl (fun _ g u h => LWo.guardY (t := 17) u.1 h12 rfl rfl (LWo.fieldAddr _ u_impl_Table rfl s_LLimpl_Value u.2.1 rfl (hn := .nil (zn g)))) ?_
      refine dq 27 rfl (fun _ g u h => LWo.guardY (t := 17) u.1 h12 rfl rfl (LWo.load1 (c := (e_LLimpl_Value x14.Rows)) g_LLimpl_Value u.2.1 (hn := .nil (zn g)))) ?_
      refine dq 28 rfl (fun _ g u h => LWo.guardY (t := 17) u.1 h12 rfl rfl (LWo.vcall rfl (av2 u.2.1 u.2.2.1) (c_spec_RowsOk _ _ _ e15) (.same (.same (.nil))) (hn := .nil (zn g)))) ?_
      refine dq 29 rfl (fun _ g u h => LWo.guardY (t := 17) u.1 h12 rfl rfl (LWo.not u.2.1 (hn := .nil (zn g)))) ?_
      refine dq 30 rfl (fun _ g u h => LWo.pickFM (e_bool (!x15)) u.1 h12 u.2.1 (hn := .nil (zn g))) ?_
      refine ⟨rfl, by kernel_rfl, hN10 (t0, t3, (!x15)) _ ⟨rfl, rfl, rfl, trivial⟩ trivial h⟩
   ·have h := bF h8 h
    refine LWP.exit (hN2 t0 _ ⟨rfl, trivial⟩ trivial h)

def m_spec_GuardsOk_j2 (t0 : (List S_impl_Table)) : Option Bool :=
  (m_spec_TablesOk t0).bind fun x27 =>
  some x27
def m_spec_GuardsOk_j1 (k1 : (List S_impl_Table) → (List S_impl_Guard) → Int → Option Bool) (t0 : (List S_impl_Table)) (t1 : (List S_impl_Guard)) (t5 : Int) (t50 : Bool) : Option Bool :=
  bif t50 then (some false)
  else ((ckI (t5 + (1 : Int))).bind fun x25 =>
  k1 t0 t1 x25)
def m_spec_GuardsOk_l1 : Nat → (List S_impl_Table) → (List S_impl_Guard) → Int → Option Bool
  | 0, _, _, _ => none
  | n1 + 1, t0, t1, t5 =>
    bif decide (t5 < (t1.length : Int)) then ((at? t1 t5).bind fun x11 =>
    lt (x11) fun y12 =>
    (ckI ((t0.length : Int) - (1 : Int))).bind fun x14 =>
    (m_spec_l1In y12.In (0 : Int) x14).bind fun x15 =>
    bif (!x15) then (m_spec_GuardsOk_j1  (m_spec_GuardsOk_l1  n1) t0 t1 t5 true)
    else ((at? t0 y12.In).bind fun x17 =>
      (m_spec_ExprKind x17.Columns y12.E).bind fun x18 =>
      bif (x18 != (3 : Int)) then (m_spec_GuardsOk_j1  (m_spec_GuardsOk_l1  n1) t0 t1 t5 true)
      else (bif decide (t5 > (0 : Int)) then ((ckI (t5 - (1 : Int))).bind fun x21 =>
          (at? t1 x21).bind fun x22 =>
          m_spec_GuardsOk_j1  (m_spec_GuardsOk_l1  n1) t0 t1 t5 (decide (x22.In ≥ y12.In)))
        else (m_spec_GuardsOk_j1  (m_spec_GuardsOk_l1  n1) t0 t1 t5 false))))
    else (m_spec_GuardsOk_j2  t0)
def m_spec_GuardsOk (a0 : (List S_impl_Table)) (a1 : (List S_impl_Guard)) : Option Bool :=
  m_spec_GuardsOk_l1  (((a1.length : Int) - (0 : Int)).toNat + 1) a0 a1 (0 : Int)
theorem c_spec_GuardsOk (a0 : (List S_impl_Table)) (a1 : (List S_impl_Guard)) (r : Bool) (h : m_spec_GuardsOk a0 a1 = some r) : Ret Try.prog f_spec_GuardsOk [e_Limpl_Table a0, e_Limpl_Guard a1] (e_bool r) := by
  refine Does.goG [] F_spec_GuardsOk rfl e_spec_GuardsOk n_spec_GuardsOk rfl (rvs := [.tmp 4]) rfl rfl ?_
  intro w0 ok0 lent ρ0
  refine LWP.seq_k fun N1 hN1 => ?_
  refine LWP.region (l := [_]) ?_
  refine LWo.assign (e_bool false) rfl (hn := ?_)
  refine LWo.nil (hN1 _ ?_)
  refine LWP.join (α := (List S_impl_Table)) (fun z : (List S_impl_Table) => [(0, (e_Limpl_Table z))]) (fun z : (List S_impl_Table) => []) (fun z : (List S_impl_Table) => m_spec_GuardsOk_j2  z) r (fun _ => by simp [hkeys]) ?_ ?_
  ·rintro t0 h
   replace h : m_spec_GuardsOk_j2  t0 = some _ := h
   refine LWP.seq_k fun N26 hN26 => ?_
   refine LWP.region (l := [_,_,_]) ?_
   refine LWo.move (e_Limpl_Table t0) rfl (hn := ?_)
   refine bk h fun x27 e27 h => ?_
   refine LWo.vcall rfl rfl (c_spec_TablesOk _ _ e27) (.same (.nil)) (hn := ?_)
   refine LWo.assign (e_bool x27) rfl (hn := ?_)
   refine LWo.nil (hN26 _ ?_)
   obtain rfl := Option.some.inj h
   refine LWP.ret (QG.mk (.inr rfl) (.cons (.tmp (x := (e_bool x27)) rfl) (.nil)) (RetOK.one0 (.pure rfl) (by decide)) rfl rfl)
  ·intro N2 hN2
   refine LWP.seq_k fun N3 hN3 => ?_
   refine LWP.region (l := [_]) ?_
   refine LWo.assign (e_int (0 : Int)) rfl (hn := ?_)
   refine LWo.nil (hN3 _ ?_)
   refine LWP.block ?_
   refine LWP.loopM (α := (List S_impl_Table) × (List S_impl_Guard) × Int) (fun z : (List S_impl_Table) × (List S_impl_Guard) × Int => [(0, (e_Limpl_Table z.1)), (1, (e_Limpl_Guard z.2.1)), (5, (e_int z.2.2))]) (fun z : (List S_impl_Table) × (List S_impl_Guard) × Int => []) (fun n1 (z : (List S_impl_Table) × (List S_impl_Guard) × Int) => m_spec_GuardsOk_l1  n1 z.1 z.2.1 z.2.2) r _ (a0, a1, (0 : Int)) h (fun _ => rfl) (fun _ => by simp [hkeys]) ⟨rfl, rfl, rfl, trivial⟩ trivial ?_
   rintro n1 ⟨t0, t1, t5⟩ h N4 hN4
   replace h : m_spec_GuardsOk_l1  (n1 + 1) t0 t1 t5 = some _ := h
   refine LWP.seq_k fun N6 hN6 => ?_
   refine LWP.seq_k fun N7 hN7 => ?_
   refine LWP.region (l := [_,_,_,_]) ?_
   refine LWo.move (e_int t5) rfl (hn := ?_)
   refine LWo.move (e_Limpl_Guard t1) rfl (hn := ?_)
   refine LWo.lenM (f := e_impl_Guard) (l := t1) u_Limpl_Guard rfl (hn := ?_)
   refine LWo.int _ rfl rfl rfl (hn := ?_)
   refine LWo.nil (hN7 _ ?_)
   refine LWP.cond_split rfl (fun h8 => ?_) (fun h8 => ?_)
   ·have h := bT h8 h
    refine LWP.skip (hN6 _ ?_)
    refine LWP.seq_k fun N9 hN9 => ?_
    refine LWP.block ?_
    refine LWP.seq_k fun N10 hN10 => ?_
    refine LWP.region (l := [_,_,_,_,_,_]) ?_
    refine LWo.move (e_Limpl_Guard t1) rfl (hn := ?_)
    refine LWo.move (e_int t5) rfl (hn := ?_)
    refine bk h fun x11 e11 h => ?_
    refine LWo.indexM (f := e_impl_Guard) e11 u_Limpl_Guard s_impl_Guard rfl rfl (hn := ?_)
    refine LWo.loadN ((e_impl_Guard x11)).cells g_impl_Guard s_impl_Guard rfl (Nat.le_of_ble_eq_true rfl) rfl (hn := ?_)
    refine LWo.alloc_impl_Guard 6 rfl (hn := ?_)
    refine lk h fun y12 e12 h => ?_
    refine LWo.storeW (y := (⟨(0 : Int), []⟩ : S_impl_Guard)) y12 s_impl_Guard rfl rfl rfl rfl rfl rfl (by rw [e12]; exact .refl) rfl (hn := ?_)
    refine LWo.nil (hN10 _ ?_)
    refine LWP.join (α := (List S_impl_Table) × (List S_impl_Guard) × Int × Bool) (fun z : (List S_impl_Table) × (List S_impl_Guard) × Int × Bool => [(0, (e_Limpl_Table z.1)), (1, (e_Limpl_Guard z.2.1)), (5, (e_int z.2.2.1)), (50, (e_bool z.2.2.2))]) (fun z : (List S_impl_Table) × (List S_impl_Guard) × Int × Bool => []) (fun z : (List S_impl_Table) × (List S_impl_Guard) × Int × Bool => m_spec_GuardsOk_j1  (m_spec_GuardsOk_l1  n1) z.1 z.2.1 z.2.2.1 z.2.2.2) r (fun _ => by simp [hkeys]) ?_ ?_
    ·rintro ⟨t0, t1, t5, t50⟩ h
     replace h : m_spec_GuardsOk_j1  (m_spec_GuardsOk_l1  n1) t0 t1 t5 t50 = some _ := h
     refine LWP.cond_split rfl (fun h23 => ?_) (fun h23 => ?_)
     ·have h := bT h23 h
      refine LWP.seq_k fun N24 hN24 => ?_
      refine LWP.region (l := [_]) ?_
      refine LWo.assign (e_bool false) rfl (hn := ?_)
      refine LWo.nil (hN24 _ ?_)
      obtain rfl := Option.some.inj h
      refine LWP.ret (QG.mk (.inr rfl) (.cons (.tmp (x := (e_bool false)) rfl) (.nil)) (RetOK.one0 (.pure rfl) (by decide)) rfl rfl)
     ·have h := bF h23 h
      refine LWP.skip (hN9 _ ?_)
      refine LWP.region (l := [_,_,_]) ?_
      refine LWo.move (e_int t5) rfl (hn := ?_)
      refine bk h fun x25 e25 h => ?_
      refine LWo.int _ rfl rfl (add_ck e25) (hn := ?_)
      refine LWo.assign (e_int x25) rfl (hn := ?_)
      refine LWo.nil (hN4 (t0, t1, x25) _ ⟨rfl, rfl, rfl, trivial⟩ trivial h)
    ·intro N13 hN13
     refine bk h fun x14 e14 h => ?_
     refine bk h fun x15 e15 h => ?_
     refine bS ((!x15)) (fun h16 => ?_) (fun h16 => ?_)
     ·have h := bT h16 h
      refine LWP.drawF (l := [_,_,_,_,_,_,_,_,_,_,_,_,_,_,_,_,_,_,_,_,_,_,_,_,_,_,_,_,_,_,_,_,_,_]) [] [0, 1, 5, 6] [([6], []), ([17], [6]), ([0], []), ([19], []), ([20], []), ([18, 21], []), ([22], []), ([23], []), ([0, 24], []), ([6, 24], []), ([24, 26], []), ([24, 25, 27], []), ([24, 28], []), ([24, 29], []), ([6, 24], []), ([24, 31], []), ([24, 30, 32], []), ([24, 33], []), ([24, 34], []), ([35], []), ([5, 36], []), ([36, 37], []), ([36, 38], []), ([1, 39], []), ([5, 39], []), ([39, 41], []), ([39, 40, 42], []), ([39, 43], []), ([39, 44], []), ([6, 39], []), ([39, 46], []), ([39, 45, 47], []), ([36, 39, 48], []), ([36, 49], [])] [0, 1, 5, 50] [] mixed (by kernel_rfl) rfl (by decide) ?_
      refine dq 17 rfl (fun _ g u h => LWo.fieldPtr u_impl_Guard rfl s_int u.1 rfl (hn := .nil (zn g))) ?_
      refine dq 18 rfl (fun _ g u h => LWo.loadV1 (e_int y12.In)  g_int u.1 h.1 rfl (hn := .nil (zn g))) ?_
      refine dq 19 rfl (fun _ g u h => LWo.move (e_Limpl_Table t0) u.1 (hn := .nil (zn g))) ?_
      refine dq 20 rfl (fun _ g u h => LWo.lenM (f := e_impl_Table) (l := t0) u_Limpl_Table u.1 (hn := .nil (zn g))) ?_
      refine dq 21 rfl (fun _ g u h => LWo.int _ u.1 rfl (sub_ck e14) (hn := .nil (zn g))) ?_
      refine dq 22 rfl (fun _ g u h => LWo.vcall rfl (av3 u.1 rfl u.2.1) (c_spec_l1In _ _ _ _ e15) (.same (.same (.same (.nil)))) (hn := .nil (zn g))) ?_
      refine dq 23 rfl (fun _ g u h => LWo.not u.1 (hn := .nil (zn g))) ?_
      refine dq 24 rfl (fun _ g u h => LWo.move (e_bool (!x15)) u.1 (hn := .nil (zn g))) ?_
      refine dq 25 rfl (fun _ g u h => LWo.guardNU (t := 24) u.2.1 h16 rfl rfl rfl rfl rfl (.nil (zn g))) ?_
      refine dq 26 rfl (fun _ g u h => LWo.guardNU (t := 24) u.2.1 h16 rfl rfl rfl rfl rfl (.nil (zn g))) ?_
      refine dq 27 rfl (fun _ g u h => LWo.guardNU (t := 24) u.1 h16 rfl rfl rfl rfl rfl (.nil (zn g))) ?_
      refine dq 28 rfl (fun _ g u h => LWo.guardNU (t := 24) u.1 h16 rfl rfl rfl rfl rfl (.nil (zn g))) ?_
      refine dq 29 rfl (fun _ g u h => LWo.guardNU (t := 24) u.1 h16 rfl rfl rfl rfl rfl (.nil (zn g))) ?_
      refine dq 30 rfl (fun _ g u h => LWo.guardNU (t := 24) u.1 h16 rfl rfl rfl rfl rfl (.nil (zn g))) ?_
      refine dq 31 rfl (fun _ g u h => LWo.guardNU (t := 24) u.2.1 h16 rfl rfl rfl rfl rfl (.nil (zn g))) ?_
      refine dq 32 rfl (fun _ g u h => LWo.guardNU (t := 24) u.1 h16 rfl rfl rfl rfl rfl (.nil (zn g))) ?_
      refine dq 33 rfl (fun _ g u h => LWo.guardNU (t := 24) u.1 h16 rfl rfl rfl rfl rfl (.nil (zn g))) ?_
      refine dq 34 rfl (fun _ g u h => LWo.guardNU (t := 24) u.1 h16 rfl rfl rfl rfl rfl (.nil (zn g))) ?_
      refine dq 35 rfl (fun _ g u h => LWo.pickTM (e_bool true) u.1 h16 rfl (hn := .nil (zn g))) ?_
      refine dq 36 rfl (fun _ g u h => LWo.move (e_bool true) u.1 (hn := .nil (zn g))) ?_
      refine dq 37 rfl (fun _ g u h => LWo.guardNU (t := 36) u.2.1 rfl rfl rfl rfl rfl rfl (.nil (zn g))) ?_
      refine dq 38 rfl (fun _ g u h => LWo.guardNU (t := 36) u.1 rfl rfl rfl rfl rfl rfl (.nil (zn g))) ?_
      refine dq 39 rfl (fun _ g u h => LWo.guardNU (t := 36) u.1 rfl rfl rfl rfl rfl rfl (.nil (zn g))) ?_
      refine dq 40 rfl (fun _ g u h => LWo.guardU (t := 39) u.2.1 rfl rfl rfl rfl (.nil (zn g))) ?_
      refine dq 41 rfl (fun _ g u h => LWo.guardU (t := 39) u.2.1 rfl rfl rfl rfl (.nil (zn g))) ?_
      refine dq 42 rfl (fun _ g u h => LWo.guardU (t := 39) u.1 rfl rfl rfl rfl (.nil (zn g))) ?_
      refine dq 43 rfl (fun _ g u h => LWo.guardU (t := 39) u.1 rfl rfl rfl rfl (.nil (zn g))) ?_
      refine dq 44 rfl (fun _ g u h => LWo.guardU (t := 39) u.1 rfl rfl rfl rfl (.nil (zn g))) ?_
      refine dq 45 rfl (fun _ g u h => LWo.guardU (t := 39) u.1 rfl rfl rfl rfl (.nil (zn g))) ?_
      refine dq 46 rfl (fun _ g u h => LWo.guardU (t := 39) u.2.1 rfl rfl rfl rfl (.nil (zn g))) ?_
      refine dq 47 rfl (fun _ g u h => LWo.guardU (t := 39) u.1 rfl rfl rfl rfl (.nil (zn g))) ?_
      refine dq 48 rfl (fun _ g u h => LWo.guardU (t := 39) u.1 rfl rfl rfl rfl (.nil (zn g))) ?_
      refine dq 49 rfl (fun _ g u h => LWo.guardNU (t := 36) u.1 rfl rfl rfl rfl rfl rfl (.nil (zn g))) ?_
      refine dq 50 rfl (fun _ g u h => LWo.pickTM (e_bool true) u.1 rfl rfl (hn := .nil (zn g))) ?_
      refine ⟨rfl, by kernel_rfl, hN13 (t0, t1, t5, true) _ ⟨rfl, rfl, rfl, rfl, trivial⟩ trivial h⟩
     ·have h := bF h16 h
      refine bk h fun x17 e17 h => ?_
      refine bk h fun x18 e18 h => ?_
      refine bS ((x18 != (3 : Int))) (fun h19 => ?_) (fun h19 => ?_)
      ·have h := bT h19 h
       refine LWP.drawF (l := [_,_,_,_,_,_,_,_,_,_,_,_,_,_,_,_,_,_,_,_,_,_,_,_,_,_,_,_,_,_,_,_,_,_]) [] [0, 1, 5, 6] [([6], []), ([17], [6]), ([0], []), ([19], []), ([20], []), ([18, 21], []), ([22], []), ([23], []), ([0, 24], []), ([6, 24], []), ([24, 26], [6]), ([24, 25, 27], []), ([24, 28], []), ([24, 29], []), ([6, 24], []), ([24, 31], [6]), ([24, 30, 32], []), ([24, 33], []), ([24, 34], []), ([35], []), ([5, 36], []), ([36, 37], []), ([36, 38], []), ([1, 39], []), ([5, 39], []), ([39, 41], []), ([39, 40, 42], []), ([39, 43], []), ([39, 44], []), ([6, 39], []), ([39, 46], []), ([39, 45, 47], []), ([36, 39, 48], []), ([36, 49], [])] [0, 1, 5, 50] [] mixed (by kernel_rfl) rfl (by decide) ?_
       refine dq 17 rfl (fun _ g u h => LWo.fieldPtr u_impl_Guard rfl s_int u.1 rfl (hn := .nil (zn g))) ?_
       refine dq 18 rfl (fun _ g u h => LWo.loadV1 (e_int y12.In)  g_int u.1 h.1 rfl (hn := .nil (zn g))) ?_
       refine dq 19 rfl (fun _ g u h => LWo.move (e_Limpl_Table t0) u.1 (hn := .nil (zn g))) ?_
       refine dq 20 rfl (fun _ g u h => LWo.lenM (f := e_impl_Table) (l := t0) u_Limpl_Table u.1 (hn := .nil (zn g))) ?_
       refine dq 21 rfl (fun _ g u h => LWo.int _ u.1 rfl (sub_ck e14) (hn := .nil (zn g))) ?_
       refine dq 22 rfl (fun _ g u h => LWo.vcall rfl (av3 u.1 rfl u.2.1) (c_spec_l1In _ _ _ _ e15) (.same (.same (.same (.nil)))) (hn := .nil (zn g))) ?_
       refine dq 23 rfl (fun _ g u h => LWo.not u.1 (hn := .nil (zn g))) ?_
       refine dq 24 rfl (fun _ g u h => LWo.move (e_bool (!x15)) u.1 (hn := .nil (zn g))) ?_
       refine dq 25 rfl (fun _ g u h => LWo.guardY (t := 24) u.2.1 h16 rfl rfl (LWo.move (e_Limpl_Table t0) u.1 (hn := .nil (zn g)))) ?_
       refine dq 26 rfl (fun _ g u h => LWo.guardY (t := 24) u.2.1 h16 rfl rfl (LWo.fieldPtr u_impl_Guard rfl s_int u.1 rfl (hn := .nil (zn g)))) ?_
       refine dq 27 rfl (fun _ g u h => LWo.guardY (t := 24) u.1 h16 rfl rfl (LWo.loadV1 (e_int y12.In)  g_int u.2.1 h.1 rfl (hn := .nil (zn g)))) ?_
       refine dq 28 rfl (fun _ g u h => LWo.guardY (t := 24) u.1 h16 rfl rfl (LWo.indexM (f := e_impl_Table) e17 u_Limpl_Table s_impl_Table u.2.1 u.2.2.1 (hn := .nil (zn g)))) ?_
       refine dq 29 rfl (fun _ g u h => LWo.guardY (t := 24) u.1 h16 rfl rfl (LWo.fieldAddr _ u_impl_Table rfl s_Limpl_Column u.2.1 rfl (hn := .nil (zn g)))) ?_
       refine dq 30 rfl (fun _ g u h => LWo.guardY (t := 24) u.1 h16 rfl rfl (LWo.load1 (c := (e_Limpl_Column x17.Columns)) g_Limpl_Column u.2.1 (hn := .nil (zn g)))) ?_
       refine dq 31 rfl (fun _ g u h => LWo.guardY (t := 24) u.2.1 h16 rfl rfl (LWo.fieldPtr u_impl_Guard rfl s_Limpl_Part u.1 rfl (hn := .nil (zn g)))) ?_
       refine dq 32 rfl (fun _ g u h => LWo.guardY (t := 24) u.1 h16 rfl rfl (LWo.loadV1 (e_Limpl_Part y12.E)  g_Limpl_Part u.2.1 h.1 rfl (hn := .nil (zn g)))) ?_
       refine dq 33 rfl (fun _ g u h => LWo.guardY (t := 24) u.1 h16 rfl rfl (LWo.vcall rfl (av2 u.2.1 u.2.2.1) (c_spec_ExprKind _ _ _ e18) (.same (.same (.nil))) (hn := .nil (zn g)))) ?_
       refine dq 34 rfl (fun _ g u h => LWo.guardY (t := 24) u.1 h16 rfl rfl (LWo.int _ u.2.1 rfl rfl (hn := .nil (zn g)))) ?_
       refine dq 35 rfl (fun _ g u h => LWo.pickFM (e_bool (x18 != (3 : Int))) u.1 h16 u.2.1 (hn := .nil (zn g))) ?_
       refine dq 36 rfl (fun _ g u h => LWo.move (e_bool (x18 != (3 : Int))) u.1 (hn := .nil (zn g))) ?_
       refine dq 37 rfl (fun _ g u h => LWo.guardNU (t := 36) u.2.1 h19 rfl rfl rfl rfl rfl (.nil (zn g))) ?_
       refine dq 38 rfl (fun _ g u h => LWo.guardNU (t := 36) u.1 h19 rfl rfl rfl rfl rfl (.nil (zn g))) ?_
       refine dq 39 rfl (fun _ g u h => LWo.guardNU (t := 36) u.1 h19 rfl rfl rfl rfl rfl (.nil (zn g))) ?_
       refine dq 40 rfl (fun _ g u h => LWo.guardU (t := 39) u.2.1 rfl rfl rfl rfl (.nil (zn g))) ?_
       refine dq 41 rfl (fun _ g u h => LWo.guardU (t := 39) u.2.1 rfl rfl rfl rfl (.nil (zn g))) ?_
       refine dq 42 rfl (fun _ g u h => LWo.guardU (t := 39) u.1 rfl rfl rfl rfl (.nil (zn g))) ?_
       refine dq 43 rfl (fun _ g u h => LWo.guardU (t := 39) u.1 rfl rfl rfl rfl (.nil (zn g))) ?_
       refine dq 44 rfl (fun _ g u h => LWo.guardU (t := 39) u.1 rfl rfl rfl rfl (.nil (zn g))) ?_
       refine dq 45 rfl (fun _ g u h => LWo.guardU (t := 39) u.1 rfl rfl rfl rfl (.nil (zn g))) ?_
       refine dq 46 rfl (fun _ g u h => LWo.guardU (t := 39) u.2.1 rfl rfl rfl rfl (.nil (zn g))) ?_
       refine dq 47 rfl (fun _ g u h => LWo.guardU (t := 39) u.1 rfl rfl rfl rfl (.nil (zn g))) ?_
       refine dq 48 rfl (fun _ g u h => LWo.guardU (t := 39) u.1 rfl rfl rfl rfl (.nil (zn g))) ?_
       refine dq 49 rfl (fun _ g u h => LWo.guardNU (t := 36) u.1 h19 rfl rfl rfl rfl rfl (.nil (zn g))) ?_
       refine dq 50 rfl (fun _ g u h => LWo.pickTM (e_bool true) u.1 h19 rfl (hn := .nil (zn g))) ?_
       refine ⟨rfl, by kernel_rfl, hN13 (t0, t1, t5, true) _ ⟨rfl, rfl, rfl, rfl, trivial⟩ trivial h⟩
      ·have h := bF h19 h
       refine bS (decide (t5 > (0 : Int))) (fun h20 => ?_) (fun h20 => ?_)
       ·have h := bT h20 h
        refine bk h fun x21 e21 h => ?_
        refine bk h fun x22 e22 h => ?_
        refine LWP.drawF (l := [_,_,_,_,_,_,_,_,_,_,_,_,_,_,_,_,_,_,_,_,_,_,_,_,_,_,_,_,_,_,_,_,_,_]) [] [0, 1, 5, 6] [([6], []), ([17], [6]), ([0], []), ([19], []), ([20], []), ([18, 21], []), ([22], []), ([23], []), ([0, 24], []), ([6, 24], []), ([24, 26], [6]), ([24, 25, 27], []), ([24, 28], []), ([24, 29], []), ([6, 24], []), ([24, 31], [6]), ([24, 30, 32], []), ([24, 33], []), ([24, 34], []), ([35], []), ([5, 36], []), ([36, 37], []), ([36, 38], []), ([1, 39], []), ([5, 39], []), ([39, 41], []), ([39, 40, 42], []), ([39, 43], []), ([39, 44], []), ([6, 39], []), ([39, 46], [6]), ([39, 45, 47], []), ([36, 39, 48], []), ([36, 49], [])] [0, 1, 5, 50] [] mixed (by kernel_rfl) rfl (by decide) ?_
        refine dq 17 rfl (fun _ g u h => LWo.fieldPtr u_impl_Guard rfl s_int u.1 rfl (hn := .nil (zn g))) ?_
        refine dq 18 rfl (fun _ g u h => LWo.loadV1 (e_int y12.In)  g_int u.1 h.1 rfl (hn := .nil (zn g))) ?_
        refine dq 19 rfl (fun _ g u h => LWo.move (e_Limpl_Table t0) u.1 (hn := .nil (zn g))) ?_
        refine dq 20 rfl (fun _ g u h => LWo.lenM (f := e_impl_Table) (l := t0) u_Limpl_Table u.1 (hn := .nil (zn g))) ?_
        refine dq 21 rfl (fun _ g u h => LWo.int _ u.1 rfl (sub_ck e14) (hn := .nil (zn g))) ?_
        refine dq 22 rfl (fun _ g u h => LWo.vcall rfl (av3 u.1 rfl u.2.1) (c_spec_l1In _ _ _ _ e15) (.same (.same (.same (.nil)))) (hn := .nil (zn g))) ?_
        refine dq 23 rfl (fun _ g u h => LWo.not u.1 (hn := .nil (zn g))) ?_
        refine dq 24 rfl (fun _ g u h => LWo.move (e_bool (!x15)) u.1 (hn := .nil (zn g))) ?_
        refine dq 25 rfl (fun _ g u h => LWo.guardY (t := 24) u.2.1 h16 rfl rfl (LWo.move (e_Limpl_Table t0) u.1 (hn := .nil (zn g)))) ?_
        refine dq 26 rfl (fun _ g u h => LWo.guardY (t := 24) u.2.1 h16 rfl rfl (LWo.fieldPtr u_impl_Guard rfl s_int u.1 rfl (hn := .nil (zn g)))) ?_
        refine dq 27 rfl (fun _ g u h => LWo.guardY (t := 24) u.1 h16 rfl rfl (LWo.loadV1 (e_int y12.In)  g_int u.2.1 h.1 rfl (hn := .nil (zn g)))) ?_
        refine dq 28 rfl (fun _ g u h => LWo.guardY (t := 24) u.1 h16 rfl rfl (LWo.indexM (f := e_impl_Table) e17 u_Limpl_Table s_impl_Table u.2.1 u.2.2.1 (hn := .nil (zn g)))) ?_
        refine dq 29 rfl (fun _ g u h => LWo.guardY (t := 24) u.1 h16 rfl rfl (LWo.fieldAddr _ u_impl_Table rfl s_Limpl_Column u.2.1 rfl (hn := .nil (zn g)))) ?_
        refine dq 30 rfl (fun _ g u h => LWo.guardY (t := 24) u.1 h16 rfl rfl (LWo.load1 (c := (e_Limpl_Column x17.Columns)) g_Limpl_Column u.2.1 (hn := .nil (zn g)))) ?_
        refine dq 31 rfl (fun _ g u h => LWo.guardY (t := 24) u.2.1 h16 rfl rfl (LWo.fieldPtr u_impl_Guard rfl s_Limpl_Part u.1 rfl (hn := .nil (zn g)))) ?_
        refine dq 32 rfl (fun _ g u h => LWo.guardY (t := 24) u.1 h16 rfl rfl (LWo.loadV1 (e_Limpl_Part y12.E)  g_Limpl_Part u.2.1 h.1 rfl (hn := .nil (zn g)))) ?_
        refine dq 33 rfl (fun _ g u h => LWo.guardY (t := 24) u.1 h16 rfl rfl (LWo.vcall rfl (av2 u.2.1 u.2.2.1) (c_spec_ExprKind _ _ _ e18) (.same (.same (.nil))) (hn := .nil (zn g)))) ?_
        refine dq 34 rfl (fun _ g u h => LWo.guardY (t := 24) u.1 h16 rfl rfl (LWo.int _ u.2.1 rfl rfl (hn := .nil (zn g)))) ?_
        refine dq 35 rfl (fun _ g u h => LWo.pickFM (e_bool (x18 != (3 : Int))) u.1 h16 u.2.1 (hn := .nil (zn g))) ?_
        refine dq 36 rfl (fun _ g u h => LWo.move (e_bool (x18 != (3 : Int))) u.1 (hn := .nil (zn g))) ?_
        refine dq 37 rfl (fun _ g u h => LWo.guardY (t := 36) u.2.1 h19 rfl rfl (LWo.move (e_int t5) u.1 (hn := .nil (zn g)))) ?_
        refine dq 38 rfl (fun _ g u h => LWo.guardY (t := 36) u.1 h19 rfl rfl (LWo.int _ u.2.1 rfl rfl (hn := .nil (zn g)))) ?_
        refine dq 39 rfl (fun _ g u h => LWo.guardY (t := 36) u.1 h19 rfl rfl (LWo.move (e_bool (decide (t5 > (0 : Int)))) u.2.1 (hn := .nil (zn g)))) ?_
        refine dq 40 rfl (fun _ g u h => LWo.guardY (t := 39) u.2.1 h20 rfl rfl (LWo.move (e_Limpl_Guard t1) u.1 (hn := .nil (zn g)))) ?_
        refine dq 41 rfl (fun _ g u h => LWo.guardY (t := 39) u.2.1 h20 rfl rfl (LWo.move (e_int t5) u.1 (hn := .nil (zn g)))) ?_
        refine dq 42 rfl (fun _ g u h => LWo.guardY (t := 39) u.1 h20 rfl rfl (LWo.int _ u.2.1 rfl (sub_ck e21) (hn := .nil (zn g)))) ?_
        refine dq 43 rfl (fun _ g u h => LWo.guardY (t := 39) u.1 h20 rfl rfl (LWo.indexM (f := e_impl_Guard) e22 u_Limpl_Guard s_impl_Guard u.2.1 u.2.2.1 (hn := .nil (zn g)))) ?_
        refine dq 44 rfl (fun _ g u h => LWo.guardY (t := 39) u.1 h20 rfl rfl (LWo.fieldAddr _ u_impl_Guard rfl s_int u.2.1 rfl (hn := .nil (zn g)))) ?_
        refine dq 45 rfl (fun _ g u h => LWo.guardY (t := 39) u.1 h20 rfl rfl (LWo.load1 (c := (e_int x22.In)) g_int u.2.1 (hn := .nil (zn g)))) ?_
        refine dq 46 rfl (fun _ g u h => LWo.guardY (t := 39) u.2.1 h20 rfl rfl (LWo.fieldPtr u_impl_Guard rfl s_int u.1 rfl (hn := .nil (zn g)))) ?_
        refine dq 47 rfl (fun _ g u h => LWo.guardY (t := 39) u.1 h20 rfl rfl (LWo.loadV1 (e_int y12.In)  g_int u.2.1 h.1 rfl (hn := .nil (zn g)))) ?_
        refine dq 48 rfl (fun _ g u h => LWo.guardY (t := 39) u.1 h20 rfl rfl (LWo.int _ u.2.1 u.2.2.1 rfl (hn := .nil (zn g)))) ?_
        refine dq 49 rfl (fun _ g u h => LWo.guardY (t := 36) u.1 h19 rfl rfl (LWo.pickTM (e_bool (decide (x22.In ≥ y12.In))) u.2.1 h20 u.2.2.1 (hn := .nil (zn g)))) ?_
        refine dq 50 rfl (fun _ g u h => LWo.pickFM (e_bool (decide (x22.In ≥ y12.In))) u.1 h19 u.2.1 (hn := .nil (zn g))) ?_
        refine ⟨rfl, by kernel_rfl, hN13 (t0, t1, t5, decide (x22.In ≥ y12.In)) _ ⟨rfl, rfl, rfl, rfl, trivial⟩ trivial h⟩
       ·have h := bF h20 h
        refine LWP.drawF (l := [_,_,_,_,_,_,_,_,_,_,_,_,_,_,_,_,_,_,_,_,_,_,_,_,_,_,_,_,_,_,_,_,_,_]) [] [0, 1, 5, 6] [([6], []), ([17], [6]), ([0], []), ([19], []), ([20], []), ([18, 21], []), ([22], []), ([23], []), ([0, 24], []), ([6, 24], []), ([24, 26], [6]), ([24, 25, 27], []), ([24, 28], []), ([24, 29], []), ([6, 24], []), ([24, 31], [6]), ([24, 30, 32], []), ([24, 33], []), ([24, 34], []), ([35], []), ([5, 36], []), ([36, 37], []), ([36, 38], []), ([1, 39], []), ([5, 39], []), ([39, 41], []), ([39, 40, 42], []), ([39, 43], []), ([39, 44], []), ([6, 39], []), ([39, 46], []), ([39, 45, 47], []), ([36, 39, 48], []), ([36, 49], [])] [0, 1, 5, 50] [] mixed (by kernel_rfl) rfl (by decide) ?_
        refine dq 17 rfl (fun _ g u h => LWo.fieldPtr u_impl_Guard rfl s_int u.1 rfl (hn := .nil (zn g))) ?_
        refine dq 18 rfl (fun _ g u h => LWo.loadV1 (e_int y12.In)  g_int u.1 h.1 rfl (hn := .nil (zn g))) ?_
        refine dq 19 rfl (fun _ g u h => LWo.move (e_Limpl_Table t0) u.1 (hn := .nil (zn g))) ?_
        refine dq 20 rfl (fun _ g u h => LWo.lenM (f := e_impl_Table) (l := t0) u_Limpl_Table u.1 (hn := .nil (zn g))) ?_
        refine dq 21 rfl (fun _ g u h => LWo.int _ u.1 rfl (sub_ck e14) (hn := .nil (zn g))) ?_
        refine dq 22 rfl (fun _ g u h => LWo.vcall rfl (av3 u.1 rfl u.2.1) (c_spec_l1In _ _ _ _ e15) (.same (.same (.same (.nil)))) (hn := .nil (zn g))) ?_
        refine dq 23 rfl (fun _ g u h => LWo.not u.1 (hn := .nil (zn g))) ?_
        refine dq 24 rfl (fun _ g u h => LWo.move (e_bool (!x15)) u.1 (hn := .nil (zn g))) ?_
        refine dq 25 rfl (fun _ g u h => LWo.guardY (t := 24) u.2.1 h16 rfl rfl (LWo.move (e_Limpl_Table t0) u.1 (hn := .nil (zn g)))) ?_
        refine dq 26 rfl (fun _ g u h => LWo.guardY (t := 24) u.2.1 h16 rfl rfl (LWo.fieldPtr u_impl_Guard rfl s_int u.1 rfl (hn := .nil (zn g)))) ?_
        refine dq 27 rfl (fun _ g u h => LWo.guardY (t := 24) u.1 h16 rfl rfl (LWo.loadV1 (e_int y12.In)  g_int u.2.1 h.1 rfl (hn := .nil (zn g)))) ?_
        refine dq 28 rfl (fun _ g u h => LWo.guardY (t := 24) u.1 h16 rfl rfl (LWo.indexM (f := e_impl_Table) e17 u_Limpl_Table s_impl_Table u.2.1 u.2.2.1 (hn := .nil (zn g)))) ?_
        refine dq 29 rfl (fun _ g u h => LWo.guardY (t := 24) u.1 h16 rfl rfl (LWo.fieldAddr _ u_impl_Table rfl s_Limpl_Column u.2.1 rfl (hn := .nil (zn g)))) ?_
        refine dq 30 rfl (fun _ g u h => LWo.guardY (t := 24) u.1 h16 rfl rfl (LWo.load1 (c := (e_Limpl_Column x17.Columns)) g_Limpl_Column u.2.1 (hn := .nil (zn g)))) ?_
        refine dq 31 rfl (fun _ g u h => LWo.guardY (t := 24) u.2.1 h16 rfl rfl (LWo.fieldPtr u_impl_Guard rfl s_Limpl_Part u.1 rfl (hn := .nil (zn g)))) ?_
        refine dq 32 rfl (fun _ g u h => LWo.guardY (t := 24) u.1 h16 rfl rfl (LWo.loadV1 (e_Limpl_Part y12.E)  g_Limpl_Part u.2.1 h.1 rfl (hn := .nil (zn g)))) ?_
        refine dq 33 rfl (fun _ g u h => LWo.guardY (t := 24) u.1 h16 rfl rfl (LWo.vcall rfl (av2 u.2.1 u.2.2.1) (c_spec_ExprKind _ _ _ e18) (.same (.same (.nil))) (hn := .nil (zn g)))) ?_
        refine dq 34 rfl (fun _ g u h => LWo.guardY (t := 24) u.1 h16 rfl rfl (LWo.int _ u.2.1 rfl rfl (hn := .nil (zn g)))) ?_
        refine dq 35 rfl (fun _ g u h => LWo.pickFM (e_bool (x18 != (3 : Int))) u.1 h16 u.2.1 (hn := .nil (zn g))) ?_
        refine dq 36 rfl (fun _ g u h => LWo.move (e_bool (x18 != (3 : Int))) u.1 (hn := .nil (zn g))) ?_
        refine dq 37 rfl (fun _ g u h => LWo.guardY (t := 36) u.2.1 h19 rfl rfl (LWo.move (e_int t5) u.1 (hn := .nil (zn g)))) ?_
        refine dq 38 rfl (fun _ g u h => LWo.guardY (t := 36) u.1 h19 rfl rfl (LWo.int _ u.2.1 rfl rfl (hn := .nil (zn g)))) ?_
        refine dq 39 rfl (fun _ g u h => LWo.guardY (t := 36) u.1 h19 rfl rfl (LWo.move (e_bool (decide (t5 > (0 : Int)))) u.2.1 (hn := .nil (zn g)))) ?_
        refine dq 40 rfl (fun _ g u h => LWo.guardNU (t := 39) u.2.1 h20 rfl rfl rfl rfl rfl (.nil (zn g))) ?_
        refine dq 41 rfl (fun _ g u h => LWo.guardNU (t := 39) u.2.1 h20 rfl rfl rfl rfl rfl (.nil (zn g))) ?_
        refine dq 42 rfl (fun _ g u h => LWo.guardNU (t := 39) u.1 h20 rfl rfl rfl rfl rfl (.nil (zn g))) ?_
        refine dq 43 rfl (fun _ g u h => LWo.guardNU (t := 39) u.1 h20 rfl rfl rfl rfl rfl (.nil (zn g))) ?_
        refine dq 44 rfl (fun _ g u h => LWo.guardNU (t := 39) u.1 h20 rfl rfl rfl rfl rfl (.nil (zn g))) ?_
        refine dq 45 rfl (fun _ g u h => LWo.guardNU (t := 39) u.1 h20 rfl rfl rfl rfl rfl (.nil (zn g))) ?_
        refine dq 46 rfl (fun _ g u h => LWo.guardNU (t := 39) u.2.1 h20 rfl rfl rfl rfl rfl (.nil (zn g))) ?_
        refine dq 47 rfl (fun _ g u h => LWo.guardNU (t := 39) u.1 h20 rfl rfl rfl rfl rfl (.nil (zn g))) ?_
        refine dq 48 rfl (fun _ g u h => LWo.guardNU (t := 39) u.1 h20 rfl rfl rfl rfl rfl (.nil (zn g))) ?_
        refine dq 49 rfl (fun _ g u h => LWo.guardY (t := 36) u.1 h19 rfl rfl (LWo.pickFM (e_bool false) u.2.1 h20 rfl (hn := .nil (zn g)))) ?_
        refine dq 50 rfl (fun _ g u h => LWo.pickFM (e_bool false) u.1 h19 u.2.1 (hn := .nil (zn g))) ?_
        refine ⟨rfl, by kernel_rfl, hN13 (t0, t1, t5, false) _ ⟨rfl, rfl, rfl, rfl, trivial⟩ trivial h⟩
   ·have h := bF h8 h
    refine LWP.exit (hN2 t0 _ ⟨rfl, trivial⟩ trivial h)

def m_slices_IndexFunc_Limpl_Table_impl_Table_j1 (p1 : S_impl_Table → Option Bool)  : Option Int :=
  some (-1 : Int)
def m_slices_IndexFunc_Limpl_Table_impl_Table_l1 (p1 : S_impl_Table → Option Bool) : Nat → (List S_impl_Table) → Int → Int → Option Int
  | 0, _, _, _ => none
  | n1 + 1, t0, t7, t8 =>
    bif decide (t8 < t7) then ((at? t0 t8).bind fun x12 =>
    (p1 x12).bind fun x13 =>
    bif x13 then (some t8)
    else ((ckI (t8 + (1 : Int))).bind fun x16 =>
    (m_slices_IndexFunc_Limpl_Table_impl_Table_l1 p1 n1) t0 t7 x16))
    else (m_slices_IndexFunc_Limpl_Table_impl_Table_j1 p1 )
def m_slices_IndexFunc_Limpl_Table_impl_Table (a0 : (List S_impl_Table)) (p1 : S_impl_Table → Option Bool) : Option Int :=
  m_slices_IndexFunc_Limpl_Table_impl_Table_l1 p1 (((a0.length : Int) - (0 : Int)).toNat + 1) a0 (a0.length : Int) (0 : Int)
theorem c_slices_IndexFunc_Limpl_Table_impl_Table (a0 : (List S_impl_Table)) (p1 : S_impl_Table → Option Bool) (f1 : FuncId) (q1 : List LV) (hq1 : ∀ k, LV.at?.atL k q1 = false) (hf1 : ∀ a0 v, p1 a0 = some v → Ret Try.prog f1 (e_impl_Table a0 :: q1) (e_bool v)) (r : Int) (h : m_slices_IndexFunc_Limpl_Table_impl_Table a0 p1 = some r) : Ret Try.prog f_slices_IndexFunc_Limpl_Table_impl_Table [e_Limpl_Table a0, .clo f1 q1] (e_int r) := by
  refine Does.goG [] F_slices_IndexFunc_Limpl_Table_impl_Table rfl e_slices_IndexFunc_Limpl_Table_impl_Table n_slices_IndexFunc_Limpl_Table_impl_Table rfl (rvs := [.tmp 4]) rfl rfl ?_
  intro w0 ok0 lent ρ0
  refine LWP.seq_k fun N1 hN1 => ?_
  refine LWP.region (l := [_]) ?_
  refine LWo.assign (e_int (0 : Int)) rfl (hn := ?_)
  refine LWo.nil (hN1 _ ?_)
  refine LWP.join (α := Unit) (fun z : Unit => []) (fun z : Unit => []) (fun z : Unit => m_slices_IndexFunc_Limpl_Table_impl_Table_j1 p1 ) r (fun _ => by simp [hkeys]) ?_ ?_
  ·rintro _ h
   replace h : m_slices_IndexFunc_Limpl_Table_impl_Table_j1 p1  = some _ := h
   refine LWP.seq_k fun N17 hN17 => ?_
   refine LWP.region (l := [_]) ?_
   refine LWo.assign (e_int (-1 : Int)) rfl (hn := ?_)
   refine LWo.nil (hN17 _ ?_)
   obtain rfl := Option.some.inj h
   refine LWP.ret (QG.mk (.inr rfl) (.cons (.tmp (x := (e_int (-1 : Int))) rfl) (.nil)) (RetOK.one0 (.pure rfl) (by decide)) rfl rfl)
  ·intro N2 hN2
   refine LWP.seq_k fun N3 hN3 => ?_
   refine LWP.region (l := [_,_,_]) ?_
   refine LWo.move (e_Limpl_Table a0) rfl (hn := ?_)
   refine LWo.lenM (f := e_impl_Table) (l := a0) u_Limpl_Table rfl (hn := ?_)
   refine LWo.move (e_int (0 : Int)) rfl (hn := ?_)
   refine LWo.nil (hN3 _ ?_)
   refine LWP.block ?_
   refine LWP.loopM (α := (List S_impl_Table) × Int × Int) (fun z : (List S_impl_Table) × Int × Int => [(0, (e_Limpl_Table z.1)), (1, (.clo f1 q1)), (7, (e_int z.2.1)), (8, (e_int z.2.2))]) (fun z : (List S_impl_Table) × Int × Int => []) (fun n1 (z : (List S_impl_Table) × Int × Int) => m_slices_IndexFunc_Limpl_Table_impl_Table_l1 p1 n1 z.1 z.2.1 z.2.2) r _ (a0, (a0.length : Int), (0 : Int)) h (fun _ => rfl) (fun _ => by simp [hkeys]) ⟨rfl, rfl, rfl, rfl, trivial⟩ trivial ?_
   rintro n1 ⟨t0, t7, t8⟩ h N4 hN4
   replace h : m_slices_IndexFunc_Limpl_Table_impl_Table_l1 p1 (n1 + 1) t0 t7 t8 = some _ := h
   refine LWP.seq_k fun N6 hN6 => ?_
   refine LWP.region (l := [_]) ?_
   refine LWo.int _ rfl rfl rfl (hn := ?_)
   refine LWo.nil (hN6 _ ?_)
   refine LWP.seq_k fun N7 hN7 => ?_
   refine LWP.cond_split rfl (fun h8 => ?_) (fun h8 => ?_)
   ·have h := bT h8 h
    refine LWP.skip (hN7 _ ?_)
    refine LWP.seq_k fun N9 hN9 => ?_
    refine LWP.block ?_
    refine LWP.seq_k fun N10 hN10 => ?_
    refine LWP.region (l := [_,_]) ?_
    refine LWo.move (e_int t8) rfl (hn := ?_)
    refine LWo.assign (e_int t8) rfl (hn := ?_)
    refine LWo.nil (hN10 _ ?_)
    refine LWP.seq_k fun N11 hN11 => ?_
    refine LWP.region (l := [_,_,_,_,_,_]) ?_
    refine LWo.move (.clo f1 q1) rfl (hn := ?_)
    refine LWo.move (e_Limpl_Table t0) rfl (hn := ?_)
    refine LWo.move (e_int t8) rfl (hn := ?_)
    refine bk h fun x12 e12 h => ?_
    refine LWo.indexM (f := e_impl_Table) e12 u_Limpl_Table s_impl_Table rfl rfl (hn := ?_)
    refine LWo.loadN ((e_impl_Table x12)).cells g_impl_Table s_impl_Table rfl (Nat.le_of_ble_eq_true rfl) rfl (hn := ?_)
    refine bk h fun x13 e13 h => ?_
    refine LWo.vcall rfl rfl (hf1 _ _ e13) .refl (hn := ?_)
    refine LWo.nil (hN11 _ ?_)
    refine LWP.cond_split rfl (fun h14 => ?_) (fun h14 => ?_)
    ·have h := bT h14 h
     refine LWP.seq_k fun N15 hN15 => ?_
     refine LWP.region (l := [_,_]) ?_
     refine LWo.move (e_int t8) rfl (hn := ?_)
     refine LWo.assign (e_int t8) rfl (hn := ?_)
     refine LWo.nil (hN15 _ ?_)
     obtain rfl := Option.some.inj h
     refine LWP.ret (QG.mk (.inr rfl) (.cons (.tmp (x := (e_int t8)) rfl) (.nil)) (RetOK.one0 (.pure rfl) (by decide)) rfl rfl)
    ·have h := bF h14 h
     refine LWP.skip (hN9 _ ?_)
     refine LWP.region (l := [_,_]) ?_
     refine bk h fun x16 e16 h => ?_
     refine LWo.int _ rfl rfl (add_ck e16) (hn := ?_)
     refine LWo.move (e_int x16) rfl (hn := ?_)
     refine LWo.nil (hN4 (t0, t7, x16) _ ⟨rfl, rfl, rfl, rfl, trivial⟩ trivial h)
   ·have h := bF h8 h
    refine LWP.exit (hN2 () _ trivial trivial h)

def m_slices_ContainsFunc_Limpl_Table_impl_Table (a0 : (List S_impl_Table)) (p1 : S_impl_Table → Option Bool) : Option Bool :=
  (m_slices_IndexFunc_Limpl_Table_impl_Table a0 p1).bind fun x3 =>
  some (decide (x3 ≥ (0 : Int)))
theorem c_slices_ContainsFunc_Limpl_Table_impl_Table (a0 : (List S_impl_Table)) (p1 : S_impl_Table → Option Bool) (f1 : FuncId) (q1 : List LV) (hq1 : ∀ k, LV.at?.atL k q1 = false) (hf1 : ∀ a0 v, p1 a0 = some v → Ret Try.prog f1 (e_impl_Table a0 :: q1) (e_bool v)) (r : Bool) (h : m_slices_ContainsFunc_Limpl_Table_impl_Table a0 p1 = some r) : Ret Try.prog f_slices_ContainsFunc_Limpl_Table_impl_Table [e_Limpl_Table a0, .clo f1 q1] (e_bool r) := by
  refine Does.goG [] F_slices_ContainsFunc_Limpl_Table_impl_Table rfl e_slices_ContainsFunc_Limpl_Table_impl_Table n_slices_ContainsFunc_Limpl_Table_impl_Table rfl (rvs := [.tmp 4]) rfl rfl ?_
  intro w0 ok0 lent ρ0
  refine LWP.seq_k fun N1 hN1 => ?_
  refine LWP.region (l := [_]) ?_
  refine LWo.assign (e_bool false) rfl (hn := ?_)
  refine LWo.nil (hN1 _ ?_)
  refine LWP.seq_k fun N2 hN2 => ?_
  refine LWP.region (l := [_,_,_,_,_]) ?_
  refine LWo.move (e_Limpl_Table a0) rfl (hn := ?_)
  refine LWo.move (.clo f1 q1) rfl (hn := ?_)
  refine bk h fun x3 e3 h => ?_
  refine LWo.vcall rfl rfl (c_slices_IndexFunc_Limpl_Table_impl_Table _ _ f1 q1 hq1 hf1 _ e3) (.same (.same (.nil))) (hn := ?_)
  refine LWo.int _ rfl rfl rfl (hn := ?_)
  refine LWo.assign (e_bool (decide (x3 ≥ (0 : Int)))) rfl (hn := ?_)
  refine LWo.nil (hN2 _ ?_)
  obtain rfl := Option.some.inj h
  refine LWP.ret (QG.mk (.inr rfl) (.cons (.tmp (x := (e_bool (decide (x3 ≥ (0 : Int))))) rfl) (.nil)) (RetOK.one0 (.pure rfl) (by decide)) rfl rfl)

def m_slices_IndexFunc_Limpl_Column_impl_Column_j1 (p1 : S_impl_Column → Option Bool)  : Option Int :=
  some (-1 : Int)
def m_slices_IndexFunc_Limpl_Column_impl_Column_l1 (p1 : S_impl_Column → Option Bool) : Nat → (List S_impl_Column) → Int → Int → Option Int
  | 0, _, _, _ => none
  | n1 + 1, t0, t7, t8 =>
    bif decide (t8 < t7) then ((at? t0 t8).bind fun x12 =>
    (p1 x12).bind fun x13 =>
    bif x13 then (some t8)
    else ((ckI (t8 + (1 : Int))).bind fun x16 =>
    (m_slices_IndexFunc_Limpl_Column_impl_Column_l1 p1 n1) t0 t7 x16))
    else (m_slices_IndexFunc_Limpl_Column_impl_Column_j1 p1 )
def m_slices_IndexFunc_Limpl_Column_impl_Column (a0 : (List S_impl_Column)) (p1 : S_impl_Column → Option Bool) : Option Int :=
  m_slices_IndexFunc_Limpl_Column_impl_Column_l1 p1 (((a0.length : Int) - (0 : Int)).toNat + 1) a0 (a0.length : Int) (0 : Int)
theorem c_slices_IndexFunc_Limpl_Column_impl_Column (a0 : (List S_impl_Column)) (p1 : S_impl_Column → Option Bool) (f1 : FuncId) (q1 : List LV) (hq1 : ∀ k, LV.at?.atL k q1 = false) (hf1 : ∀ a0 v, p1 a0 = some v → Ret Try.prog f1 (e_impl_Column a0 :: q1) (e_bool v)) (r : Int) (h : m_slices_IndexFunc_Limpl_Column_impl_Column a0 p1 = some r) : Ret Try.prog f_slices_IndexFunc_Limpl_Column_impl_Column [e_Limpl_Column a0, .clo f1 q1] (e_int r) := by
  refine Does.goG [] F_slices_IndexFunc_Limpl_Column_impl_Column rfl e_slices_IndexFunc_Limpl_Column_impl_Column n_slices_IndexFunc_Limpl_Column_impl_Column rfl (rvs := [.tmp 4]) rfl rfl ?_
  intro w0 ok0 lent ρ0
  refine LWP.seq_k fun N1 hN1 => ?_
  refine LWP.region (l := [_]) ?_
  refine LWo.assign (e_int (0 : Int)) rfl (hn := ?_)
  refine LWo.nil (hN1 _ ?_)
  refine LWP.join (α := Unit) (fun z : Unit => []) (fun z : Unit => []) (fun z : Unit => m_slices_IndexFunc_Limpl_Column_impl_Column_j1 p1 ) r (fun _ => by simp [hkeys]) ?_ ?_
  ·rintro _ h
   replace h : m_slices_IndexFunc_Limpl_Column_impl_Column_j1 p1  = some _ := h
   refine LWP.seq_k fun N17 hN17 => ?_
   refine LWP.region (l := [_]) ?_
   refine LWo.assign (e_int (-1 : Int)) rfl (hn := ?_)
   refine LWo.nil (hN17 _ ?_)
   obtain rfl := Option.some.inj h
   refine LWP.ret (QG.mk (.inr rfl) (.cons (.tmp (x := (e_int (-1 : Int))) rfl) (.nil)) (RetOK.one0 (.pure rfl) (by decide)) rfl rfl)
  ·intro N2 hN2
   refine LWP.seq_k fun N3 hN3 => ?_
   refine LWP.region (l := [_,_,_]) ?_
   refine LWo.move (e_Limpl_Column a0) rfl (hn := ?_)
   refine LWo.lenM (f := e_impl_Column) (l := a0) u_Limpl_Column rfl (hn := ?_)
   refine LWo.move (e_int (0 : Int)) rfl (hn := ?_)
   refine LWo.nil (hN3 _ ?_)
   refine LWP.block ?_
   refine LWP.loopM (α := (List S_impl_Column) × Int × Int) (fun z : (List S_impl_Column) × Int × Int => [(0, (e_Limpl_Column z.1)), (1, (.clo f1 q1)), (7, (e_int z.2.1)), (8, (e_int z.2.2))]) (fun z : (List S_impl_Column) × Int × Int => []) (fun n1 (z : (List S_impl_Column) × Int × Int) => m_slices_IndexFunc_Limpl_Column_impl_Column_l1 p1 n1 z.1 z.2.1 z.2.2) r _ (a0, (a0.length : Int), (0 : Int)) h (fun _ => rfl) (fun _ => by simp [hkeys]) ⟨rfl, rfl, rfl, rfl, trivial⟩ trivial ?_
   rintro n1 ⟨t0, t7, t8⟩ h N4 hN4
   replace h : m_slices_IndexFunc_Limpl_Column_impl_Column_l1 p1 (n1 + 1) t0 t7 t8 = some _ := h
   refine LWP.seq_k fun N6 hN6 => ?_
   refine LWP.region (l := [_]) ?_
   refine LWo.int _ rfl rfl rfl (hn := ?_)
   refine LWo.nil (hN6 _ ?_)
   refine LWP.seq_k fun N7 hN7 => ?_
   refine LWP.cond_split rfl (fun h8 => ?_) (fun h8 => ?_)
   ·have h := bT h8 h
    refine LWP.skip (hN7 _ ?_)
    refine LWP.seq_k fun N9 hN9 => ?_
    refine LWP.block ?_
    refine LWP.seq_k fun N10 hN10 => ?_
    refine LWP.region (l := [_,_]) ?_
    refine LWo.move (e_int t8) rfl (hn := ?_)
    refine LWo.assign (e_int t8) rfl (hn := ?_)
    refine LWo.nil (hN10 _ ?_)
    refine LWP.seq_k fun N11 hN11 => ?_
    refine LWP.region (l := [_,_,_,_,_,_]) ?_
    refine LWo.move (.clo f1 q1) rfl (hn := ?_)
    refine LWo.move (e_Limpl_Column t0) rfl (hn := ?_)
    refine LWo.move (e_int t8) rfl (hn := ?_)
    refine bk h fun x12 e12 h => ?_
    refine LWo.indexM (f := e_impl_Column) e12 u_Limpl_Column s_impl_Column rfl rfl (hn := ?_)
    refine LWo.loadN ((e_impl_Column x12)).cells g_impl_Column s_impl_Column rfl (Nat.le_of_ble_eq_true rfl) rfl (hn := ?_)
    refine bk h fun x13 e13 h => ?_
    refine LWo.vcall rfl rfl (hf1 _ _ e13) .refl (hn := ?_)
    refine LWo.nil (hN11 _ ?_)
    refine LWP.cond_split rfl (fun h14 => ?_) (fun h14 => ?_)
    ·have h := bT h14 h
     refine LWP.seq_k fun N15 hN15 => ?_
     refine LWP.region (l := [_,_]) ?_
     refine LWo.move (e_int t8) rfl (hn := ?_)
     refine LWo.assign (e_int t8) rfl (hn := ?_)
     refine LWo.nil (hN15 _ ?_)
     obtain rfl := Option.some.inj h
     refine LWP.ret (QG.mk (.inr rfl) (.cons (.tmp (x := (e_int t8)) rfl) (.nil)) (RetOK.one0 (.pure rfl) (by decide)) rfl rfl)
    ·have h := bF h14 h
     refine LWP.skip (hN9 _ ?_)
     refine LWP.region (l := [_,_]) ?_
     refine bk h fun x16 e16 h => ?_
     refine LWo.int _ rfl rfl (add_ck e16) (hn := ?_)
     refine LWo.move (e_int x16) rfl (hn := ?_)
     refine LWo.nil (hN4 (t0, t7, x16) _ ⟨rfl, rfl, rfl, rfl, trivial⟩ trivial h)
   ·have h := bF h8 h
    refine LWP.exit (hN2 () _ trivial trivial h)

def m_slices_ContainsFunc_Limpl_Column_impl_Column (a0 : (List S_impl_Column)) (p1 : S_impl_Column → Option Bool) : Option Bool :=
  (m_slices_IndexFunc_Limpl_Column_impl_Column a0 p1).bind fun x3 =>
  some (decide (x3 ≥ (0 : Int)))
theorem c_slices_ContainsFunc_Limpl_Column_impl_Column (a0 : (List S_impl_Column)) (p1 : S_impl_Column → Option Bool) (f1 : FuncId) (q1 : List LV) (hq1 : ∀ k, LV.at?.atL k q1 = false) (hf1 : ∀ a0 v, p1 a0 = some v → Ret Try.prog f1 (e_impl_Column a0 :: q1) (e_bool v)) (r : Bool) (h : m_slices_ContainsFunc_Limpl_Column_impl_Column a0 p1 = some r) : Ret Try.prog f_slices_ContainsFunc_Limpl_Column_impl_Column [e_Limpl_Column a0, .clo f1 q1] (e_bool r) := by
  refine Does.goG [] F_slices_ContainsFunc_Limpl_Column_impl_Column rfl e_slices_ContainsFunc_Limpl_Column_impl_Column n_slices_ContainsFunc_Limpl_Column_impl_Column rfl (rvs := [.tmp 4]) rfl rfl ?_
  intro w0 ok0 lent ρ0
  refine LWP.seq_k fun N1 hN1 => ?_
  refine LWP.region (l := [_]) ?_
  refine LWo.assign (e_bool false) rfl (hn := ?_)
  refine LWo.nil (hN1 _ ?_)
  refine LWP.seq_k fun N2 hN2 => ?_
  refine LWP.region (l := [_,_,_,_,_]) ?_
  refine LWo.move (e_Limpl_Column a0) rfl (hn := ?_)
  refine LWo.move (.clo f1 q1) rfl (hn := ?_)
  refine bk h fun x3 e3 h => ?_
  refine LWo.vcall rfl rfl (c_slices_IndexFunc_Limpl_Column_impl_Column _ _ f1 q1 hq1 hf1 _ e3) (.same (.same (.nil))) (hn := ?_)
  refine LWo.int _ rfl rfl rfl (hn := ?_)
  refine LWo.assign (e_bool (decide (x3 ≥ (0 : Int)))) rfl (hn := ?_)
  refine LWo.nil (hN2 _ ?_)
  obtain rfl := Option.some.inj h
  refine LWP.ret (QG.mk (.inr rfl) (.cons (.tmp (x := (e_bool (decide (x3 ≥ (0 : Int))))) rfl) (.nil)) (RetOK.one0 (.pure rfl) (by decide)) rfl rfl)

def m_impl_between_j1 (t6 : Bool) : Option Bool :=
  some t6
def m_impl_between (a0 : Int) (a1 : Int) (a2 : Int) : Option Bool :=
  bif decide (a0 ≥ a1) then (m_impl_between_j1  (decide (a0 ≤ a2)))
  else (m_impl_between_j1  false)
theorem c_impl_between (a0 : Int) (a1 : Int) (a2 : Int) (r : Bool) (h : m_impl_between a0 a1 a2 = some r) : Ret Try.prog f_impl_between [e_int a0, e_int a1, e_int a2] (e_bool r) := by
  refine Does.goG [] F_impl_between rfl e_impl_between n_impl_between rfl (rvs := [.tmp 6]) rfl rfl ?_
  intro w0 ok0 lent ρ0
  refine LWP.seq_k fun N1 hN1 => ?_
  refine LWP.region (l := [_]) ?_
  refine LWo.assign (e_bool false) rfl (hn := ?_)
  refine LWo.nil (hN1 _ ?_)
  refine LWP.join (α := Bool) (fun z : Bool => [(6, (e_bool z))]) (fun z : Bool => []) (fun z : Bool => m_impl_between_j1  z) r (fun _ => by simp [hkeys]) ?_ ?_
  ·rintro t6 h
   replace h : m_impl_between_j1  t6 = some _ := h
   obtain rfl := Option.some.inj h
   refine LWP.ret (QG.mk (.inr rfl) (.cons (.tmp (x := (e_bool t6)) rfl) (.nil)) (RetOK.one0 (.pure rfl) (by decide)) rfl rfl)
  ·intro N2 hN2
   refine LWP.region (l := [_,_,_,_,_,_,_,_,_]) ?_
   refine LWo.move (e_int a0) rfl (hn := ?_)
   refine LWo.move (e_int a1) rfl (hn := ?_)
   refine LWo.int _ rfl rfl rfl (hn := ?_)
   refine LWo.move (e_bool (decide (a0 ≥ a1))) rfl (hn := ?_)
   refine LWo.byCases (t := 10) _ rfl (fun h3 => ?_) (fun h3 => ?_)
   ·have h := bT h3 h
    refine LWo.guardY (t := 10) rfl h3 rfl rfl ?_
    refine LWo.move (e_int a0) rfl (hn := ?_)
    refine LWo.guardY (t := 10) rfl h3 rfl rfl ?_
    refine LWo.move (e_int a2) rfl (hn := ?_)
    refine LWo.guardY (t := 10) rfl h3 rfl rfl ?_
    refine LWo.int _ rfl rfl rfl (hn := ?_)
    refine LWo.pickTM (e_bool (decide (a0 ≤ a2))) rfl h3 rfl (hn := ?_)
    refine LWo.assign (e_bool (decide (a0 ≤ a2))) rfl (hn := ?_)
    refine LWo.nil (hN2 (decide (a0 ≤ a2)) _ ⟨rfl, trivial⟩ trivial h)
   ·have h := bF h3 h
    refine LWo.guardNU (t := 10) rfl h3 rfl rfl rfl rfl rfl ?_
    refine LWo.guardNU (t := 10) rfl h3 rfl rfl rfl rfl rfl ?_
    refine LWo.guardNU (t := 10) rfl h3 rfl rfl rfl rfl rfl ?_
    refine LWo.pickFM (e_bool false) rfl h3 rfl (hn := ?_)
    refine LWo.assign (e_bool false) rfl (hn := ?_)
    refine LWo.nil (hN2 false _ ⟨rfl, trivial⟩ trivial h)

def m_impl_ColumnsOk_1 (a0 : S_impl_Column) : Option Bool :=
  (m_impl_between a0.Kind (1 : Int) (3 : Int)).bind fun x3 =>
  some (!x3)
theorem c_impl_ColumnsOk_1 (a0 : S_impl_Column) (r : Bool) (h : m_impl_ColumnsOk_1 a0 = some r) : Ret Try.prog f_impl_ColumnsOk_1 [e_impl_Column a0] (e_bool r) := by
  refine Does.goG [] F_impl_ColumnsOk_1 rfl e_impl_ColumnsOk_1 n_impl_ColumnsOk_1 rfl (rvs := [.tmp 2]) rfl rfl ?_
  intro w0 ok0 lent ρ0
  refine LWP.seq_k fun N1 hN1 => ?_
  refine LWP.region (l := [_,_]) ?_
  refine LWo.boxF (e_impl_Column a0) rfl rfl rfl (hn := ?_)
  refine LWo.assign (e_bool false) rfl (hn := ?_)
  refine LWo.nil (hN1 _ ?_)
  refine LWP.seq_k fun N2 hN2 => ?_
  refine LWP.region (l := [_,_,_,_,_]) ?_
  refine LWo.fieldAddr _ u_impl_Column rfl s_int rfl rfl (hn := ?_)
  refine LWo.load1 (c := (e_int a0.Kind)) g_int rfl (hn := ?_)
  refine bk h fun x3 e3 h => ?_
  refine LWo.vcall rfl rfl (c_impl_between _ _ _ _ e3) (.same (.same (.same (.nil)))) (hn := ?_)
  refine LWo.not rfl (hn := ?_)
  refine LWo.assign (e_bool (!x3)) rfl (hn := ?_)
  refine LWo.nil (hN2 _ ?_)
  obtain rfl := Option.some.inj h
  refine LWP.ret (QG.mk (.inr rfl) (.cons (.tmp (x := (e_bool (!x3))) rfl) (.nil)) (RetOK.one0 (.pure rfl) (by decide)) rfl rfl)

def m_impl_ColumnsOk_j1 (t2 : Bool) : Option Bool :=
  some t2
def m_impl_ColumnsOk (a0 : (List S_impl_Column)) : Option Bool :=
  bif decide ((a0.length : Int) ≤ (4 : Int)) then ((m_slices_ContainsFunc_Limpl_Column_impl_Column a0 (fun b0_ => m_impl_ColumnsOk_1 b0_ )).bind fun x4 =>
    m_impl_ColumnsOk_j1  (!x4))
  else (m_impl_ColumnsOk_j1  false)
theorem c_impl_ColumnsOk (a0 : (List S_impl_Column)) (r : Bool) (h : m_impl_ColumnsOk a0 = some r) : Ret Try.prog f_impl_ColumnsOk [e_Limpl_Column a0] (e_bool r) := by
  refine Does.goG [] F_impl_ColumnsOk rfl e_impl_ColumnsOk n_impl_ColumnsOk rfl (rvs := [.tmp 2]) rfl rfl ?_
  intro w0 ok0 lent ρ0
  refine LWP.seq_k fun N1 hN1 => ?_
  refine LWP.region (l := [_]) ?_
  refine LWo.assign (e_bool false) rfl (hn := ?_)
  refine LWo.nil (hN1 _ ?_)
  refine LWP.join (α := Bool) (fun z : Bool => [(2, (e_bool z))]) (fun z : Bool => []) (fun z : Bool => m_impl_ColumnsOk_j1  z) r (fun _ => by simp [hkeys]) ?_ ?_
  ·rintro t2 h
   replace h : m_impl_ColumnsOk_j1  t2 = some _ := h
   obtain rfl := Option.some.inj h
   refine LWP.ret (QG.mk (.inr rfl) (.cons (.tmp (x := (e_bool t2)) rfl) (.nil)) (RetOK.one0 (.pure rfl) (by decide)) rfl rfl)
  ·intro N2 hN2
   refine LWP.region (l := [_,_,_,_,_,_,_,_,_]) ?_
   refine LWo.move (e_Limpl_Column a0) rfl (hn := ?_)
   refine LWo.lenM (f := e_impl_Column) (l := a0) u_Limpl_Column rfl (hn := ?_)
   refine LWo.int _ rfl rfl rfl (hn := ?_)
   refine LWo.move (e_bool (decide ((a0.length : Int) ≤ (4 : Int)))) rfl (hn := ?_)
   refine LWo.byCases (t := 6) _ rfl (fun h3 => ?_) (fun h3 => ?_)
   ·have h := bT h3 h
    refine LWo.guardY (t := 6) rfl h3 rfl rfl ?_
    refine LWo.move (e_Limpl_Column a0) rfl (hn := ?_)
    refine bk h fun x4 e4 h => ?_
    refine LWo.guardY (t := 6) rfl h3 rfl rfl ?_
    refine LWo.vcall rfl rfl (c_slices_ContainsFunc_Limpl_Column_impl_Column _ _ f_impl_ColumnsOk_1 [] (fun _ => rfl) (fun b0_ v hv => c_impl_ColumnsOk_1 b0_  v hv) _ e4) (.same (.same (.nil))) (hn := ?_)
    refine LWo.guardY (t := 6) rfl h3 rfl rfl ?_
    refine LWo.not rfl (hn := ?_)
    refine LWo.pickTM (e_bool (!x4)) rfl h3 rfl (hn := ?_)
    refine LWo.assign (e_bool (!x4)) rfl (hn := ?_)
    refine LWo.nil (hN2 (!x4) _ ⟨rfl, trivial⟩ trivial h)
   ·have h := bF h3 h
    refine LWo.guardNU (t := 6) rfl h3 rfl rfl rfl rfl rfl ?_
    refine LWo.guardNU (t := 6) rfl h3 rfl rfl rfl rfl rfl ?_
    refine LWo.guardNU (t := 6) rfl h3 rfl rfl rfl rfl rfl ?_
    refine LWo.pickFM (e_bool false) rfl h3 rfl (hn := ?_)
    refine LWo.assign (e_bool false) rfl (hn := ?_)
    refine LWo.nil (hN2 false _ ⟨rfl, trivial⟩ trivial h)

def m_slices_IndexFunc_Limpl_Value_impl_Value_j1 (p1 : S_impl_Value → Option Bool)  : Option Int :=
  some (-1 : Int)
def m_slices_IndexFunc_Limpl_Value_impl_Value_l1 (p1 : S_impl_Value → Option Bool) : Nat → (List S_impl_Value) → Int → Int → Option Int
  | 0, _, _, _ => none
  | n1 + 1, t0, t7, t8 =>
    bif decide (t8 < t7) then ((at? t0 t8).bind fun x12 =>
    (p1 x12).bind fun x13 =>
    bif x13 then (some t8)
    else ((ckI (t8 + (1 : Int))).bind fun x16 =>
    (m_slices_IndexFunc_Limpl_Value_impl_Value_l1 p1 n1) t0 t7 x16))
    else (m_slices_IndexFunc_Limpl_Value_impl_Value_j1 p1 )
def m_slices_IndexFunc_Limpl_Value_impl_Value (a0 : (List S_impl_Value)) (p1 : S_impl_Value → Option Bool) : Option Int :=
  m_slices_IndexFunc_Limpl_Value_impl_Value_l1 p1 (((a0.length : Int) - (0 : Int)).toNat + 1) a0 (a0.length : Int) (0 : Int)
theorem c_slices_IndexFunc_Limpl_Value_impl_Value (a0 : (List S_impl_Value)) (p1 : S_impl_Value → Option Bool) (f1 : FuncId) (q1 : List LV) (hq1 : ∀ k, LV.at?.atL k q1 = false) (hf1 : ∀ a0 v, p1 a0 = some v → Ret Try.prog f1 (e_impl_Value a0 :: q1) (e_bool v)) (r : Int) (h : m_slices_IndexFunc_Limpl_Value_impl_Value a0 p1 = some r) : Ret Try.prog f_slices_IndexFunc_Limpl_Value_impl_Value [e_Limpl_Value a0, .clo f1 q1] (e_int r) := by
  refine Does.goG [] F_slices_IndexFunc_Limpl_Value_impl_Value rfl e_slices_IndexFunc_Limpl_Value_impl_Value n_slices_IndexFunc_Limpl_Value_impl_Value rfl (rvs := [.tmp 4]) rfl rfl ?_
  intro w0 ok0 lent ρ0
  refine LWP.seq_k fun N1 hN1 => ?_
  refine LWP.region (l := [_]) ?_
  refine LWo.assign (e_int (0 : Int)) rfl (hn := ?_)
  refine LWo.nil (hN1 _ ?_)
  refine LWP.join (α := Unit) (fun z : Unit => []) (fun z : Unit => []) (fun z : Unit => m_slices_IndexFunc_Limpl_Value_impl_Value_j1 p1 ) r (fun _ => by simp [hkeys]) ?_ ?_
  ·rintro _ h
   replace h : m_slices_IndexFunc_Limpl_Value_impl_Value_j1 p1  = some _ := h
   refine LWP.seq_k fun N17 hN17 => ?_
   refine LWP.region (l := [_]) ?_
   refine LWo.assign (e_int (-1 : Int)) rfl (hn := ?_)
   refine LWo.nil (hN17 _ ?_)
   obtain rfl := Option.some.inj h
   refine LWP.ret (QG.mk (.inr rfl) (.cons (.tmp (x := (e_int (-1 : Int))) rfl) (.nil)) (RetOK.one0 (.pure rfl) (by decide)) rfl rfl)
  ·intro N2 hN2
   refine LWP.seq_k fun N3 hN3 => ?_
   refine LWP.region (l := [_,_,_]) ?_
   refine LWo.move (e_Limpl_Value a0) rfl (hn := ?_)
   refine LWo.lenM (f := e_impl_Value) (l := a0) u_Limpl_Value rfl (hn := ?_)
   refine LWo.move (e_int (0 : Int)) rfl (hn := ?_)
   refine LWo.nil (hN3 _ ?_)
   refine LWP.block ?_
   refine LWP.loopM (α := (List S_impl_Value) × Int × Int) (fun z : (List S_impl_Value) × Int × Int => [(0, (e_Limpl_Value z.1)), (1, (.clo f1 q1)), (7, (e_int z.2.1)), (8, (e_int z.2.2))]) (fun z : (List S_impl_Value) × Int × Int => []) (fun n1 (z : (List S_impl_Value) × Int × Int) => m_slices_IndexFunc_Limpl_Value_impl_Value_l1 p1 n1 z.1 z.2.1 z.2.2) r _ (a0, (a0.length : Int), (0 : Int)) h (fun _ => rfl) (fun _ => by simp [hkeys]) ⟨rfl, rfl, rfl, rfl, trivial⟩ trivial ?_
   rintro n1 ⟨t0, t7, t8⟩ h N4 hN4
   replace h : m_slices_IndexFunc_Limpl_Value_impl_Value_l1 p1 (n1 + 1) t0 t7 t8 = some _ := h
   refine LWP.seq_k fun N6 hN6 => ?_
   refine LWP.region (l := [_]) ?_
   refine LWo.int _ rfl rfl rfl (hn := ?_)
   refine LWo.nil (hN6 _ ?_)
   refine LWP.seq_k fun N7 hN7 => ?_
   refine LWP.cond_split rfl (fun h8 => ?_) (fun h8 => ?_)
   ·have h := bT h8 h
    refine LWP.skip (hN7 _ ?_)
    refine LWP.seq_k fun N9 hN9 => ?_
    refine LWP.block ?_
    refine LWP.seq_k fun N10 hN10 => ?_
    refine LWP.region (l := [_,_]) ?_
    refine LWo.move (e_int t8) rfl (hn := ?_)
    refine LWo.assign (e_int t8) rfl (hn := ?_)
    refine LWo.nil (hN10 _ ?_)
    refine LWP.seq_k fun N11 hN11 => ?_
    refine LWP.region (l := [_,_,_,_,_,_]) ?_
    refine LWo.move (.clo f1 q1) rfl (hn := ?_)
    refine LWo.move (e_Limpl_Value t0) rfl (hn := ?_)
    refine LWo.move (e_int t8) rfl (hn := ?_)
    refine bk h fun x12 e12 h => ?_
    refine LWo.indexM (f := e_impl_Value) e12 u_Limpl_Value s_impl_Value rfl rfl (hn := ?_)
    refine LWo.loadN ((e_impl_Value x12)).cells g_impl_Value s_impl_Value rfl (Nat.le_of_ble_eq_true rfl) rfl (hn := ?_)
    refine bk h fun x13 e13 h => ?_
    refine LWo.vcall rfl rfl (hf1 _ _ e13) .refl (hn := ?_)
    refine LWo.nil (hN11 _ ?_)
    refine LWP.cond_split rfl (fun h14 => ?_) (fun h14 => ?_)
    ·have h := bT h14 h
     refine LWP.seq_k fun N15 hN15 => ?_
     refine LWP.region (l := [_,_]) ?_
     refine LWo.move (e_int t8) rfl (hn := ?_)
     refine LWo.assign (e_int t8) rfl (hn := ?_)
     refine LWo.nil (hN15 _ ?_)
     obtain rfl := Option.some.inj h
     refine LWP.ret (QG.mk (.inr rfl) (.cons (.tmp (x := (e_int t8)) rfl) (.nil)) (RetOK.one0 (.pure rfl) (by decide)) rfl rfl)
    ·have h := bF h14 h
     refine LWP.skip (hN9 _ ?_)
     refine LWP.region (l := [_,_]) ?_
     refine bk h fun x16 e16 h => ?_
     refine LWo.int _ rfl rfl (add_ck e16) (hn := ?_)
     refine LWo.move (e_int x16) rfl (hn := ?_)
     refine LWo.nil (hN4 (t0, t7, x16) _ ⟨rfl, rfl, rfl, rfl, trivial⟩ trivial h)
   ·have h := bF h8 h
    refine LWP.exit (hN2 () _ trivial trivial h)

def m_slices_ContainsFunc_Limpl_Value_impl_Value (a0 : (List S_impl_Value)) (p1 : S_impl_Value → Option Bool) : Option Bool :=
  (m_slices_IndexFunc_Limpl_Value_impl_Value a0 p1).bind fun x3 =>
  some (decide (x3 ≥ (0 : Int)))
theorem c_slices_ContainsFunc_Limpl_Value_impl_Value (a0 : (List S_impl_Value)) (p1 : S_impl_Value → Option Bool) (f1 : FuncId) (q1 : List LV) (hq1 : ∀ k, LV.at?.atL k q1 = false) (hf1 : ∀ a0 v, p1 a0 = some v → Ret Try.prog f1 (e_impl_Value a0 :: q1) (e_bool v)) (r : Bool) (h : m_slices_ContainsFunc_Limpl_Value_impl_Value a0 p1 = some r) : Ret Try.prog f_slices_ContainsFunc_Limpl_Value_impl_Value [e_Limpl_Value a0, .clo f1 q1] (e_bool r) := by
  refine Does.goG [] F_slices_ContainsFunc_Limpl_Value_impl_Value rfl e_slices_ContainsFunc_Limpl_Value_impl_Value n_slices_ContainsFunc_Limpl_Value_impl_Value rfl (rvs := [.tmp 4]) rfl rfl ?_
  intro w0 ok0 lent ρ0
  refine LWP.seq_k fun N1 hN1 => ?_
  refine LWP.region (l := [_]) ?_
  refine LWo.assign (e_bool false) rfl (hn := ?_)
  refine LWo.nil (hN1 _ ?_)
  refine LWP.seq_k fun N2 hN2 => ?_
  refine LWP.region (l := [_,_,_,_,_]) ?_
  refine LWo.move (e_Limpl_Value a0) rfl (hn := ?_)
  refine LWo.move (.clo f1 q1) rfl (hn := ?_)
  refine bk h fun x3 e3 h => ?_
  refine LWo.vcall rfl rfl (c_slices_IndexFunc_Limpl_Value_impl_Value _ _ f1 q1 hq1 hf1 _ e3) (.same (.same (.nil))) (hn := ?_)
  refine LWo.int _ rfl rfl rfl (hn := ?_)
  refine LWo.assign (e_bool (decide (x3 ≥ (0 : Int)))) rfl (hn := ?_)
  refine LWo.nil (hN2 _ ?_)
  obtain rfl := Option.some.inj h
  refine LWP.ret (QG.mk (.inr rfl) (.cons (.tmp (x := (e_bool (decide (x3 ≥ (0 : Int))))) rfl) (.nil)) (RetOK.one0 (.pure rfl) (by decide)) rfl rfl)

def m_impl_letters_j1  : Option Bool :=
  some true
def m_impl_letters_l1 : Nat → (List UInt8) → Int → Int → Option Bool
  | 0, _, _, _ => none
  | n1 + 1, t6, t7, t8 =>
    bif decide (t8 < t7) then ((at? t6 t8).bind fun x12 =>
    (m_impl_between (x12.toNat : Int) (97 : Int) (122 : Int)).bind fun x14 =>
    bif (!x14) then (some false)
    else ((ckI (t8 + (1 : Int))).bind fun x17 =>
    (m_impl_letters_l1  n1) t6 t7 x17))
    else (m_impl_letters_j1  )
def m_impl_letters (a0 : ByteArray) : Option Bool :=
  (sBytes? a0).bind fun x4 =>
  m_impl_letters_l1  (((x4.length : Int) - (0 : Int)).toNat + 1) x4 (x4.length : Int) (0 : Int)
theorem c_impl_letters (a0 : ByteArray) (r : Bool) (h : m_impl_letters a0 = some r) : Ret Try.prog f_impl_letters [e_string a0] (e_bool r) := by
  refine Does.goG [] F_impl_letters rfl e_impl_letters n_impl_letters rfl (rvs := [.tmp 2]) rfl rfl ?_
  intro w0 ok0 lent ρ0
  refine LWP.seq_k fun N1 hN1 => ?_
  refine LWP.region (l := [_]) ?_
  refine LWo.assign (e_bool false) rfl (hn := ?_)
  refine LWo.nil (hN1 _ ?_)
  refine LWP.join (α := Unit) (fun z : Unit => []) (fun z : Unit => []) (fun z : Unit => m_impl_letters_j1  ) r (fun _ => by simp [hkeys]) ?_ ?_
  ·rintro _ h
   replace h : m_impl_letters_j1   = some _ := h
   refine LWP.seq_k fun N18 hN18 => ?_
   refine LWP.region (l := [_]) ?_
   refine LWo.assign (e_bool true) rfl (hn := ?_)
   refine LWo.nil (hN18 _ ?_)
   obtain rfl := Option.some.inj h
   refine LWP.ret (QG.mk (.inr rfl) (.cons (.tmp (x := (e_bool true)) rfl) (.nil)) (RetOK.one0 (.pure rfl) (by decide)) rfl rfl)
  ·intro N2 hN2
   refine LWP.seq_k fun N3 hN3 => ?_
   refine LWP.region (l := [_,_,_,_]) ?_
   refine LWo.move (e_string a0) rfl (hn := ?_)
   refine bk h fun x4 e4 h => ?_
   refine LWo.bytesM e4 u_string u_Luint8 u_uint8 rfl (hn := ?_)
   refine LWo.lenM (f := e_uint8) (l := x4) u_Luint8 rfl (hn := ?_)
   refine LWo.move (e_int (0 : Int)) rfl (hn := ?_)
   refine LWo.nil (hN3 _ ?_)
   refine LWP.block ?_
   refine LWP.loopM (α := (List UInt8) × Int × Int) (fun z : (List UInt8) × Int × Int => [(6, (e_Luint8 z.1)), (7, (e_int z.2.1)), (8, (e_int z.2.2))]) (fun z : (List UInt8) × Int × Int => []) (fun n1 (z : (List UInt8) × Int × Int) => m_impl_letters_l1  n1 z.1 z.2.1 z.2.2) r _ (x4, (x4.length : Int), (0 : Int)) h (fun _ => rfl) (fun _ => by simp [hkeys]) ⟨rfl, rfl, rfl, trivial⟩ trivial ?_
   rintro n1 ⟨t6, t7, t8⟩ h N5 hN5
   replace h : m_impl_letters_l1  (n1 + 1) t6 t7 t8 = some _ := h
   refine LWP.seq_k fun N7 hN7 => ?_
   refine LWP.region (l := [_]) ?_
   refine LWo.int _ rfl rfl rfl (hn := ?_)
   refine LWo.nil (hN7 _ ?_)
   refine LWP.seq_k fun N8 hN8 => ?_
   refine LWP.cond_split rfl (fun h9 => ?_) (fun h9 => ?_)
   ·have h := bT h9 h
    refine LWP.skip (hN8 _ ?_)
    refine LWP.seq_k fun N10 hN10 => ?_
    refine LWP.block ?_
    refine LWP.seq_k fun N11 hN11 => ?_
    refine LWP.region (l := [_,_,_]) ?_
    refine bk h fun x12 e12 h => ?_
    refine LWo.indexM (f := e_uint8) e12 u_Luint8 s_uint8 rfl rfl (hn := ?_)
    refine LWo.load1 (c := (e_uint8 x12)) g_uint8 rfl (hn := ?_)
    refine LWo.assign (e_uint8 x12) rfl (hn := ?_)
    refine LWo.nil (hN11 _ ?_)
    refine LWP.seq_k fun N13 hN13 => ?_
    refine LWP.region (l := [_,_,_,_]) ?_
    refine LWo.move (e_uint8 x12) rfl (hn := ?_)
    refine LWo.convByte _ u_uint8 u_int rfl (hn := ?_)
    refine bk h fun x14 e14 h => ?_
    refine LWo.vcall rfl rfl (c_impl_between _ _ _ _ e14) (.same (.same (.same (.nil)))) (hn := ?_)
    refine LWo.not rfl (hn := ?_)
    refine LWo.nil (hN13 _ ?_)
    refine LWP.cond_split rfl (fun h15 => ?_) (fun h15 => ?_)
    ·have h := bT h15 h
     refine LWP.seq_k fun N16 hN16 => ?_
     refine LWP.region (l := [_]) ?_
     refine LWo.assign (e_bool false) rfl (hn := ?_)
     refine LWo.nil (hN16 _ ?_)
     obtain rfl := Option.some.inj h
     refine LWP.ret (QG.mk (.inr rfl) (.cons (.tmp (x := (e_bool false)) rfl) (.nil)) (RetOK.one0 (.pure rfl) (by decide)) rfl rfl)
    ·have h := bF h15 h
     refine LWP.skip (hN10 _ ?_)
     refine LWP.region (l := [_,_]) ?_
     refine bk h fun x17 e17 h => ?_
     refine LWo.int _ rfl rfl (add_ck e17) (hn := ?_)
     refine LWo.move (e_int x17) rfl (hn := ?_)
     refine LWo.nil (hN5 (t6, t7, x17) _ ⟨rfl, rfl, rfl, trivial⟩ trivial h)
   ·have h := bF h9 h
    refine LWP.exit (hN2 () _ trivial trivial h)

def m_impl_Value_ok_j1 (t2 : Bool) : Option Bool :=
  some t2
def m_impl_Value_ok_j2 (t2 : Bool) : Option Bool :=
  some t2
def m_impl_Value_ok_j3 (t2 : Bool) : Option Bool :=
  some t2
def m_impl_Value_ok (a0 : S_impl_Value) : Option Bool :=
  bif (a0.Kind == (0 : Int)) then (some (decide (a0 = (⟨(0 : Int), (0 : Int), (⟨#[]⟩ : ByteArray)⟩ : S_impl_Value))))
  else (bif (a0.Kind == (1 : Int)) then (bif (sEq a0.S (⟨#[]⟩ : ByteArray)) then ((m_impl_between a0.N (-9999 : Int) (9999 : Int)).bind fun x11 =>
        m_impl_Value_ok_j1  x11)
      else (m_impl_Value_ok_j1  false))
    else (bif (a0.Kind == (2 : Int)) then (bif (a0.N == (0 : Int)) then (bif decide ((a0.S.size : Int) ≤ (6 : Int)) then ((m_impl_letters a0.S).bind fun x17 =>
            m_impl_Value_ok_j2  x17)
          else (m_impl_Value_ok_j2  false))
        else (m_impl_Value_ok_j2  false))
      else (bif (a0.Kind == (3 : Int)) then (bif (sEq a0.S (⟨#[]⟩ : ByteArray)) then ((m_impl_between a0.N (0 : Int) (1 : Int)).bind fun x22 =>
            m_impl_Value_ok_j3  x22)
          else (m_impl_Value_ok_j3  false))
        else (some false))))
theorem c_impl_Value_ok (a0 : S_impl_Value) (r : Bool) (h : m_impl_Value_ok a0 = some r) : Ret Try.prog f_impl_Value_ok [e_impl_Value a0] (e_bool r) := by
  refine Does.goG [] F_impl_Value_ok rfl e_impl_Value_ok n_impl_Value_ok rfl (rvs := [.tmp 2]) rfl rfl ?_
  intro w0 ok0 lent ρ0
  refine LWP.seq_k fun N1 hN1 => ?_
  refine LWP.region (l := [_,_]) ?_
  refine LWo.boxF (e_impl_Value a0) rfl rfl rfl (hn := ?_)
  refine LWo.assign (e_bool false) rfl (hn := ?_)
  refine LWo.nil (hN1 _ ?_)
  refine LWP.seq_k fun N2 hN2 => ?_
  refine LWP.seq_k fun N3 hN3 => ?_
  refine LWP.region (l := [_,_]) ?_
  refine LWo.fieldAddr _ u_impl_Value rfl s_int rfl rfl (hn := ?_)
  refine LWo.load1 (c := (e_int a0.Kind)) g_int rfl (hn := ?_)
  refine LWo.nil (hN3 _ ?_)
  refine LWP.block ?_
  refine LWP.seq_k fun N4 hN4 => ?_
  refine LWP.region (l := [_,_]) ?_
  refine LWo.int _ rfl rfl rfl (hn := ?_)
  refine LWo.assign (e_bool (a0.Kind == (0 : Int))) rfl (hn := ?_)
  refine LWo.nil (hN4 _ ?_)
  refine LWP.cond_split rfl (fun h5 => ?_) (fun h5 => ?_)
  ·have h := bT h5 h
   refine LWP.seq_k fun N6 hN6 => ?_
   refine LWP.region (l := [_,_,_,_]) ?_
   refine LWo.loadN ((e_impl_Value a0)).cells g_impl_Value s_impl_Value rfl (Nat.le_of_ble_eq_true rfl) rfl (hn := ?_)
   refine LWo.build_impl_Value (parts := []) (⟨(0 : Int), (0 : Int), (⟨#[]⟩ : ByteArray)⟩ : S_impl_Value) rfl rfl rfl .refl (hn := ?_)
   refine LWo.eq_impl_Value _ _ rfl rfl (hn := ?_)
   refine LWo.assign (e_bool (decide (a0 = (⟨(0 : Int), (0 : Int), (⟨#[]⟩ : ByteArray)⟩ : S_impl_Value)))) rfl (hn := ?_)
   refine LWo.nil (hN6 _ ?_)
   obtain rfl := Option.some.inj h
   refine LWP.ret (QG.mk (.inr rfl) (.cons (.tmp (x := (e_bool (decide (a0 = (⟨(0 : Int), (0 : Int), (⟨#[]⟩ : ByteArray)⟩ : S_impl_Value))))) rfl) (.nil)) (RetOK.one0 (.pure rfl) (by decide)) rfl rfl)
  ·have h := bF h5 h
   refine LWP.seq_k fun N7 hN7 => ?_
   refine LWP.region (l := [_,_]) ?_
   refine LWo.int _ rfl rfl rfl (hn := ?_)
   refine LWo.assign (e_bool (a0.Kind == (1 : Int))) rfl (hn := ?_)
   refine LWo.nil (hN7 _ ?_)
   refine LWP.cond_split rfl (fun h8 => ?_) (fun h8 => ?_)
   ·have h := bT h8 h
    refine LWP.join (α := Bool) (fun z : Bool => [(2, (e_bool z))]) (fun z : Bool => []) (fun z : Bool => m_impl_Value_ok_j1  z) r (fun _ => by simp [hkeys]) ?_ ?_
    ·rintro t2 h
     replace h : m_impl_Value_ok_j1  t2 = some _ := h
     obtain rfl := Option.some.inj h
     refine LWP.ret (QG.mk (.inr rfl) (.cons (.tmp (x := (e_bool t2)) rfl) (.nil)) (RetOK.one0 (.pure rfl) (by decide)) rfl rfl)
    ·intro N9 hN9
     refine LWP.region (l := [_,_,_,_,_,_,_,_,_]) ?_
     refine LWo.fieldAddr _ u_impl_Value rfl s_string rfl rfl (hn := ?_)
     refine LWo.load1 (c := (e_string a0.S)) g_string rfl (hn := ?_)
     refine LWo.str _ rfl rfl rfl (hn := ?_)
     refine LWo.move (e_bool (sEq a0.S (⟨#[]⟩ : ByteArray))) rfl (hn := ?_)
     refine LWo.byCases (t := 15) _ rfl (fun h10 => ?_) (fun h10 => ?_)
     ·have h := bT h10 h
      refine LWo.guardY (t := 15) rfl h10 rfl rfl ?_
      refine LWo.fieldAddr _ u_impl_Value rfl s_int rfl rfl (hn := ?_)
      refine LWo.guardY (t := 15) rfl h10 rfl rfl ?_
      refine LWo.load1 (c := (e_int a0.N)) g_int rfl (hn := ?_)
      refine bk h fun x11 e11 h => ?_
      refine LWo.guardY (t := 15) rfl h10 rfl rfl ?_
      refine LWo.vcall rfl rfl (c_impl_between _ _ _ _ e11) (.same (.same (.same (.nil)))) (hn := ?_)
      refine LWo.pickTM (e_bool x11) rfl h10 rfl (hn := ?_)
      refine LWo.assign (e_bool x11) rfl (hn := ?_)
      refine LWo.nil (hN9 x11 _ ⟨rfl, trivial⟩ trivial h)
     ·have h := bF h10 h
      refine LWo.guardNU (t := 15) rfl h10 rfl rfl rfl rfl rfl ?_
      refine LWo.guardNU (t := 15) rfl h10 rfl rfl rfl rfl rfl ?_
      refine LWo.guardNU (t := 15) rfl h10 rfl rfl rfl rfl rfl ?_
      refine LWo.pickFM (e_bool false) rfl h10 rfl (hn := ?_)
      refine LWo.assign (e_bool false) rfl (hn := ?_)
      refine LWo.nil (hN9 false _ ⟨rfl, trivial⟩ trivial h)
   ·have h := bF h8 h
    refine LWP.seq_k fun N12 hN12 => ?_
    refine LWP.region (l := [_,_]) ?_
    refine LWo.int _ rfl rfl rfl (hn := ?_)
    refine LWo.assign (e_bool (a0.Kind == (2 : Int))) rfl (hn := ?_)
    refine LWo.nil (hN12 _ ?_)
    refine LWP.cond_split rfl (fun h13 => ?_) (fun h13 => ?_)
    ·have h := bT h13 h
     refine LWP.join (α := Bool) (fun z : Bool => [(2, (e_bool z))]) (fun z : Bool => []) (fun z : Bool => m_impl_Value_ok_j2  z) r (fun _ => by simp [hkeys]) ?_ ?_
     ·rintro t2 h
      replace h : m_impl_Value_ok_j2  t2 = some _ := h
      obtain rfl := Option.some.inj h
      refine LWP.ret (QG.mk (.inr rfl) (.cons (.tmp (x := (e_bool t2)) rfl) (.nil)) (RetOK.one0 (.pure rfl) (by decide)) rfl rfl)
     ·intro N14 hN14
      refine LWP.region (l := [_,_,_,_,_,_,_,_,_,_,_,_,_,_,_]) ?_
      refine LWo.fieldAddr _ u_impl_Value rfl s_int rfl rfl (hn := ?_)
      refine LWo.load1 (c := (e_int a0.N)) g_int rfl (hn := ?_)
      refine LWo.int _ rfl rfl rfl (hn := ?_)
      refine LWo.move (e_bool (a0.N == (0 : Int))) rfl (hn := ?_)
      refine LWo.byCases (t := 25) _ rfl (fun h15 => ?_) (fun h15 => ?_)
      ·have h := bT h15 h
       refine LWo.guardY (t := 25) rfl h15 rfl rfl ?_
       refine LWo.fieldAddr _ u_impl_Value rfl s_string rfl rfl (hn := ?_)
       refine LWo.guardY (t := 25) rfl h15 rfl rfl ?_
       refine LWo.load1 (c := (e_string a0.S)) g_string rfl (hn := ?_)
       refine LWo.guardY (t := 25) rfl h15 rfl rfl ?_
       refine LWo.lenS u_string rfl (hn := ?_)
       refine LWo.guardY (t := 25) rfl h15 rfl rfl ?_
       refine LWo.int _ rfl rfl rfl (hn := ?_)
       refine LWo.pickTM (e_bool (decide ((a0.S.size : Int) ≤ (6 : Int)))) rfl h15 rfl (hn := ?_)
       refine LWo.move (e_bool (decide ((a0.S.size : Int) ≤ (6 : Int)))) rfl (hn := ?_)
       refine LWo.byCases (t := 31) _ rfl (fun h16 => ?_) (fun h16 => ?_)
       ·have h := bT h16 h
        refine LWo.guardY (t := 31) rfl h16 rfl rfl ?_
        refine LWo.fieldAddr _ u_impl_Value rfl s_string rfl rfl (hn := ?_)
        refine LWo.guardY (t := 31) rfl h16 rfl rfl ?_
        refine LWo.load1 (c := (e_string a0.S)) g_string rfl (hn := ?_)
        refine bk h fun x17 e17 h => ?_
        refine LWo.guardY (t := 31) rfl h16 rfl rfl ?_
        refine LWo.vcall rfl rfl (c_impl_letters _ _ e17) (.same (.nil)) (hn := ?_)
        refine LWo.pickTM (e_bool x17) rfl h16 rfl (hn := ?_)
        refine LWo.assign (e_bool x17) rfl (hn := ?_)
        refine LWo.nil (hN14 x17 _ ⟨rfl, trivial⟩ trivial h)
       ·have h := bF h16 h
        refine LWo.guardNU (t := 31) rfl h16 rfl rfl rfl rfl rfl ?_
        refine LWo.guardNU (t := 31) rfl h16 rfl rfl rfl rfl rfl ?_
        refine LWo.guardNU (t := 31) rfl h16 rfl rfl rfl rfl rfl ?_
        refine LWo.pickFM (e_bool false) rfl h16 rfl (hn := ?_)
        refine LWo.assign (e_bool false) rfl (hn := ?_)
        refine LWo.nil (hN14 false _ ⟨rfl, trivial⟩ trivial h)
      ·have h := bF h15 h
       refine LWo.guardNU (t := 25) rfl h15 rfl rfl rfl rfl rfl ?_
       refine LWo.guardNU (t := 25) rfl h15 rfl rfl rfl rfl rfl ?_
       refine LWo.guardNU (t := 25) rfl h15 rfl rfl rfl rfl rfl ?_
       refine LWo.guardNU (t := 25) rfl h15 rfl rfl rfl rfl rfl ?_
       refine LWo.pickFM (e_bool false) rfl h15 rfl (hn := ?_)
       refine LWo.move (e_bool false) rfl (hn := ?_)
       refine LWo.guardNU (t := 31) rfl rfl rfl rfl rfl rfl rfl ?_
       refine LWo.guardNU (t := 31) rfl rfl rfl rfl rfl rfl rfl ?_
       refine LWo.guardNU (t := 31) rfl rfl rfl rfl rfl rfl rfl ?_
       refine LWo.pickFM (e_bool false) rfl rfl rfl (hn := ?_)
       refine LWo.assign (e_bool false) rfl (hn := ?_)
       refine LWo.nil (hN14 false _ ⟨rfl, trivial⟩ trivial h)
    ·have h := bF h13 h
     refine LWP.seq_k fun N18 hN18 => ?_
     refine LWP.region (l := [_,_]) ?_
     refine LWo.int _ rfl rfl rfl (hn := ?_)
     refine LWo.assign (e_bool (a0.Kind == (3 : Int))) rfl (hn := ?_)
     refine LWo.nil (hN18 _ ?_)
     refine LWP.cond_split rfl (fun h19 => ?_) (fun h19 => ?_)
     ·have h := bT h19 h
      refine LWP.join (α := Bool) (fun z : Bool => [(2, (e_bool z))]) (fun z : Bool => []) (fun z : Bool => m_impl_Value_ok_j3  z) r (fun _ => by simp [hkeys]) ?_ ?_
      ·rintro t2 h
       replace h : m_impl_Value_ok_j3  t2 = some _ := h
       obtain rfl := Option.some.inj h
       refine LWP.ret (QG.mk (.inr rfl) (.cons (.tmp (x := (e_bool t2)) rfl) (.nil)) (RetOK.one0 (.pure rfl) (by decide)) rfl rfl)
      ·intro N20 hN20
       refine LWP.region (l := [_,_,_,_,_,_,_,_,_]) ?_
       refine LWo.fieldAddr _ u_impl_Value rfl s_string rfl rfl (hn := ?_)
       refine LWo.load1 (c := (e_string a0.S)) g_string rfl (hn := ?_)
       refine LWo.str _ rfl rfl rfl (hn := ?_)
       refine LWo.move (e_bool (sEq a0.S (⟨#[]⟩ : ByteArray))) rfl (hn := ?_)
       refine LWo.byCases (t := 41) _ rfl (fun h21 => ?_) (fun h21 => ?_)
       ·have h := bT h21 h
        refine LWo.guardY (t := 41) rfl h21 rfl rfl ?_
        refine LWo.fieldAddr _ u_impl_Value rfl s_int rfl rfl (hn := ?_)
        refine LWo.guardY (t := 41) rfl h21 rfl rfl ?_
        refine LWo.load1 (c := (e_int a0.N)) g_int rfl (hn := ?_)
        refine bk h fun x22 e22 h => ?_
        refine LWo.guardY (t := 41) rfl h21 rfl rfl ?_
        refine LWo.vcall rfl rfl (c_impl_between _ _ _ _ e22) (.same (.same (.same (.nil)))) (hn := ?_)
        refine LWo.pickTM (e_bool x22) rfl h21 rfl (hn := ?_)
        refine LWo.assign (e_bool x22) rfl (hn := ?_)
        refine LWo.nil (hN20 x22 _ ⟨rfl, trivial⟩ trivial h)
       ·have h := bF h21 h
        refine LWo.guardNU (t := 41) rfl h21 rfl rfl rfl rfl rfl ?_
        refine LWo.guardNU (t := 41) rfl h21 rfl rfl rfl rfl rfl ?_
        refine LWo.guardNU (t := 41) rfl h21 rfl rfl rfl rfl rfl ?_
        refine LWo.pickFM (e_bool false) rfl h21 rfl (hn := ?_)
        refine LWo.assign (e_bool false) rfl (hn := ?_)
        refine LWo.nil (hN20 false _ ⟨rfl, trivial⟩ trivial h)
     ·have h := bF h19 h
      refine LWP.skip (hN2 _ ?_)
      refine LWP.seq_k fun N23 hN23 => ?_
      refine LWP.region (l := [_]) ?_
      refine LWo.assign (e_bool false) rfl (hn := ?_)
      refine LWo.nil (hN23 _ ?_)
      obtain rfl := Option.some.inj h
      refine LWP.ret (QG.mk (.inr rfl) (.cons (.tmp (x := (e_bool false)) rfl) (.nil)) (RetOK.one0 (.pure rfl) (by decide)) rfl rfl)
end Go.Proofs.Ytgepipglchpabaa
