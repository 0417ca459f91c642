/- Mirrors of functions, and that the functions return what the mirrors say. -/
import Derived.Test.YtijihchddhikhaaXW3
set_option linter.unusedVariables false
set_option linter.unusedSimpArgs false
set_option linter.unnecessarySimpa false
namespace Go.Proofs.Ytijihchddhikhaa
open Go.Proofs Go.Lift Go.RowKit
def m_impl_counted_j1 (t2 : Bool) : Option Bool :=
  some t2
def m_impl_counted (a0 : (List S_impl_Value)) : Option Bool :=
  bif ((a0.length : Int) == (2 : Int)) then ((m_impl_RowOk a0).bind fun x4 =>
    bif x4 then ((at? a0 (1 : Int)).bind fun x6 =>
      bif (x6.Kind == (1 : Int)) then (m_impl_counted_j1  true)
      else ((at? a0 (1 : Int)).bind fun x8 =>
        m_impl_counted_j1  (x8.Kind == (0 : Int))))
    else (m_impl_counted_j1  false))
  else (m_impl_counted_j1  false)
theorem c_impl_counted (a0 : (List S_impl_Value)) (r : Bool) (h : m_impl_counted a0 = some r) : Ret Try.prog f_impl_counted [e_Limpl_Value a0] (e_bool r) := by
  refine Does.goG [] F_impl_counted rfl e_impl_counted n_impl_counted rfl (rvs := [.tmp 2]) rfl rfl ?_
  intro w0 ok0 lent ρ0
  refine LWP.seq_k fun N1 hN1 => ?_
  refine LWP.region (l := [_]) ?_
  refine LWo.assign (e_bool false) rfl (hn := ?_)
  refine LWo.nil (hN1 _ ?_)
  refine LWP.join (α := Bool) (fun z : Bool => [(2, (e_bool z))]) (fun z : Bool => []) (fun z : Bool => m_impl_counted_j1  z) r (fun _ => by simp [hkeys]) ?_ ?_
  ·rintro t2 h
   replace h : m_impl_counted_j1  t2 = some _ := h
   obtain rfl := Option.some.inj h
   refine LWP.ret (QG.mk (.inr rfl) (.cons (.tmp (x := (e_bool t2)) rfl) (.nil)) (RetOK.one0 (.pure rfl) (by decide)) rfl rfl)
  ·intro N2 hN2
   refine LWP.region (l := [_,_,_,_,_,_,_,_,_,_,_,_,_,_,_,_,_,_,_,_,_,_]) ?_
   refine LWo.move (e_Limpl_Value a0) rfl (hn := ?_)
   refine LWo.lenM (f := e_impl_Value) (l := a0) u_Limpl_Value rfl (hn := ?_)
   refine LWo.int _ rfl rfl rfl (hn := ?_)
   refine LWo.move (e_bool ((a0.length : Int) == (2 : Int))) rfl (hn := ?_)
   refine LWo.byCases (t := 6) _ rfl (fun h3 => ?_) (fun h3 => ?_)
   ·have h := bT h3 h
    refine LWo.guardY (t := 6) rfl h3 rfl rfl ?_
    refine LWo.move (e_Limpl_Value a0) rfl (hn := ?_)
    refine bk h fun x4 e4 h => ?_
    refine LWo.guardY (t := 6) rfl h3 rfl rfl ?_
    refine LWo.vcall rfl rfl (c_impl_RowOk _ _ e4) (.same (.nil)) (hn := ?_)
    refine LWo.pickTM (e_bool x4) rfl h3 rfl (hn := ?_)
    refine LWo.move (e_bool x4) rfl (hn := ?_)
    refine LWo.byCases (t := 10) _ rfl (fun h5 => ?_) (fun h5 => ?_)
    ·have h := bT h5 h
     refine LWo.guardY (t := 10) rfl h5 rfl rfl ?_
     refine LWo.move (e_Limpl_Value a0) rfl (hn := ?_)
     refine bk h fun x6 e6 h => ?_
     refine LWo.guardY (t := 10) rfl h5 rfl rfl ?_
     refine LWo.indexM (f := e_impl_Value) e6 u_Limpl_Value s_impl_Value rfl rfl (hn := ?_)
     refine LWo.guardY (t := 10) rfl h5 rfl rfl ?_
     refine LWo.fieldAddr _ u_impl_Value rfl s_int rfl rfl (hn := ?_)
     refine LWo.guardY (t := 10) rfl h5 rfl rfl ?_
     refine LWo.load1 (c := (e_int x6.Kind)) g_int rfl (hn := ?_)
     refine LWo.guardY (t := 10) rfl h5 rfl rfl ?_
     refine LWo.int _ rfl rfl rfl (hn := ?_)
     refine LWo.guardY (t := 10) rfl h5 rfl rfl ?_
     refine LWo.move (e_bool (x6.Kind == (1 : Int))) rfl (hn := ?_)
     refine LWo.byCases (t := 16) _ rfl (fun h7 => ?_) (fun h7 => ?_)
     ·have h := bT h7 h
      refine LWo.guardNU (t := 16) rfl h7 rfl rfl rfl rfl rfl ?_
      refine LWo.guardNU (t := 16) rfl h7 rfl rfl rfl rfl rfl ?_
      refine LWo.guardNU (t := 16) rfl h7 rfl rfl rfl rfl rfl ?_
      refine LWo.guardNU (t := 16) rfl h7 rfl rfl rfl rfl rfl ?_
      refine LWo.guardNU (t := 16) rfl h7 rfl rfl rfl rfl rfl ?_
      refine LWo.guardY (t := 10) rfl h5 rfl rfl ?_
      refine LWo.pickTM (e_bool true) rfl h7 rfl (hn := ?_)
      refine LWo.pickTM (e_bool true) rfl h5 rfl (hn := ?_)
      refine LWo.assign (e_bool true) rfl (hn := ?_)
      refine LWo.nil (hN2 true _ ⟨rfl, trivial⟩ trivial h)
     ·have h := bF h7 h
      refine LWo.guardY (t := 16) rfl h7 rfl rfl ?_
      refine LWo.move (e_Limpl_Value a0) rfl (hn := ?_)
      refine bk h fun x8 e8 h => ?_
      refine LWo.guardY (t := 16) rfl h7 rfl rfl ?_
      refine LWo.indexM (f := e_impl_Value) e8 u_Limpl_Value s_impl_Value rfl rfl (hn := ?_)
      refine LWo.guardY (t := 16) rfl h7 rfl rfl ?_
      refine LWo.fieldAddr _ u_impl_Value rfl s_int rfl rfl (hn := ?_)
      refine LWo.guardY (t := 16) rfl h7 rfl rfl ?_
      refine LWo.load1 (c := (e_int x8.Kind)) g_int rfl (hn := ?_)
      refine LWo.guardY (t := 16) rfl h7 rfl rfl ?_
      refine LWo.int _ rfl rfl rfl (hn := ?_)
      refine LWo.guardY (t := 10) rfl h5 rfl rfl ?_
      refine LWo.pickFM (e_bool (x8.Kind == (0 : Int))) rfl h7 rfl (hn := ?_)
      refine LWo.pickTM (e_bool (x8.Kind == (0 : Int))) rfl h5 rfl (hn := ?_)
      refine LWo.assign (e_bool (x8.Kind == (0 : Int))) rfl (hn := ?_)
      refine LWo.nil (hN2 (x8.Kind == (0 : Int)) _ ⟨rfl, trivial⟩ trivial h)
    ·have h := bF h5 h
     refine LWo.guardNU (t := 10) rfl h5 rfl rfl rfl rfl rfl ?_
     refine LWo.guardNU (t := 10) rfl h5 rfl rfl rfl rfl rfl ?_
     refine LWo.guardNU (t := 10) rfl h5 rfl rfl rfl rfl rfl ?_
     refine LWo.guardNU (t := 10) rfl h5 rfl rfl rfl rfl rfl ?_
     refine LWo.guardNU (t := 10) rfl h5 rfl rfl rfl rfl rfl ?_
     refine LWo.guardNU (t := 10) rfl h5 rfl rfl rfl rfl rfl ?_
     refine LWo.guardU (t := 16) rfl rfl rfl rfl rfl ?_
     refine LWo.guardU (t := 16) rfl rfl rfl rfl rfl ?_
     refine LWo.guardU (t := 16) rfl rfl rfl rfl rfl ?_
     refine LWo.guardU (t := 16) rfl rfl rfl rfl rfl ?_
     refine LWo.guardU (t := 16) rfl rfl rfl rfl rfl ?_
     refine LWo.guardNU (t := 10) rfl h5 rfl rfl rfl rfl rfl ?_
     refine LWo.pickFM (e_bool false) rfl h5 rfl (hn := ?_)
     refine LWo.assign (e_bool false) rfl (hn := ?_)
     refine LWo.nil (hN2 false _ ⟨rfl, trivial⟩ trivial h)
   ·have h := bF h3 h
    refine LWo.guardNU (t := 6) rfl h3 rfl rfl rfl rfl rfl ?_
    refine LWo.guardNU (t := 6) rfl h3 rfl rfl rfl rfl rfl ?_
    refine LWo.pickFM (e_bool false) rfl h3 rfl (hn := ?_)
    refine LWo.move (e_bool false) rfl (hn := ?_)
    refine LWo.guardNU (t := 10) rfl rfl rfl rfl rfl rfl rfl ?_
    refine LWo.guardNU (t := 10) rfl rfl rfl rfl rfl rfl rfl ?_
    refine LWo.guardNU (t := 10) rfl rfl rfl rfl rfl rfl rfl ?_
    refine LWo.guardNU (t := 10) rfl rfl rfl rfl rfl rfl rfl ?_
    refine LWo.guardNU (t := 10) rfl rfl rfl rfl rfl rfl rfl ?_
    refine LWo.guardNU (t := 10) rfl rfl rfl rfl rfl rfl rfl ?_
    refine LWo.guardU (t := 16) rfl rfl rfl rfl rfl ?_
    refine LWo.guardU (t := 16) rfl rfl rfl rfl rfl ?_
    refine LWo.guardU (t := 16) rfl rfl rfl rfl rfl ?_
    refine LWo.guardU (t := 16) rfl rfl rfl rfl rfl ?_
    refine LWo.guardU (t := 16) rfl rfl rfl rfl rfl ?_
    refine LWo.guardNU (t := 10) rfl rfl rfl rfl rfl rfl rfl ?_
    refine LWo.pickFM (e_bool false) rfl rfl rfl (hn := ?_)
    refine LWo.assign (e_bool false) rfl (hn := ?_)
    refine LWo.nil (hN2 false _ ⟨rfl, trivial⟩ trivial h)

def m_slices_BinarySearchFunc_Limpl_Tally_impl_Tally_Limpl_Value_j2 (p2 : S_impl_Tally → (List S_impl_Value) → Option Int) (t6 : Int) (t7 : Bool) : Option (Int × Bool) :=
  some (t6, t7)
def m_slices_BinarySearchFunc_Limpl_Tally_impl_Tally_Limpl_Value_j1 (p2 : S_impl_Tally → (List S_impl_Value) → Option Int) (t0 : (List S_impl_Tally)) (t1 : (List S_impl_Value)) (t8 : Int) (t9 : Int) : Option (Int × Bool) :=
  bif decide (t9 < t8) then ((at? t0 t9).bind fun x22 =>
    (p2 x22 t1).bind fun x23 =>
    m_slices_BinarySearchFunc_Limpl_Tally_impl_Tally_Limpl_Value_j2 p2 t9 (x23 == (0 : Int)))
  else (m_slices_BinarySearchFunc_Limpl_Tally_impl_Tally_Limpl_Value_j2 p2 t9 false)
def m_slices_BinarySearchFunc_Limpl_Tally_impl_Tally_Limpl_Value_l1 (p2 : S_impl_Tally → (List S_impl_Value) → Option Int) : Nat → (List S_impl_Tally) → (List S_impl_Value) → Int → Int → Int → Option (Int × Bool)
  | 0, _, _, _, _, _ => none
  | n1 + 1, t0, t1, t8, t9, t10 =>
    bif decide (t9 < t10) then ((ckI (t9 + t10)).bind fun x11 =>
    (uI x11).bind fun x12 =>
    (shrI x12 (1 : Int)).bind fun x13 =>
    (uI x13).bind fun x14 =>
    (at? t0 x14).bind fun x16 =>
    (p2 x16 t1).bind fun x17 =>
    bif decide (x17 < (0 : Int)) then ((ckI (x14 + (1 : Int))).bind fun x19 =>
      (m_slices_BinarySearchFunc_Limpl_Tally_impl_Tally_Limpl_Value_l1 p2 n1) t0 t1 t8 x19 t10)
    else ((m_slices_BinarySearchFunc_Limpl_Tally_impl_Tally_Limpl_Value_l1 p2 n1) t0 t1 t8 t9 x14))
    else (m_slices_BinarySearchFunc_Limpl_Tally_impl_Tally_Limpl_Value_j1 p2 t0 t1 t8 t9)
def m_slices_BinarySearchFunc_Limpl_Tally_impl_Tally_Limpl_Value (a0 : (List S_impl_Tally)) (a1 : (List S_impl_Value)) (p2 : S_impl_Tally → (List S_impl_Value) → Option Int) : Option (Int × Bool) :=
  m_slices_BinarySearchFunc_Limpl_Tally_impl_Tally_Limpl_Value_l1 p2 (((a0.length : Int) - (0 : Int)).toNat + 1) a0 a1 (a0.length : Int) (0 : Int) (a0.length : Int)
theorem c_slices_BinarySearchFunc_Limpl_Tally_impl_Tally_Limpl_Value (a0 : (List S_impl_Tally)) (a1 : (List S_impl_Value)) (p2 : S_impl_Tally → (List S_impl_Value) → Option Int) (f2 : FuncId) (q2 : List LV) (hq2 : ∀ k, LV.at?.atL k q2 = false) (hf2 : ∀ a0 a1 v, p2 a0 a1 = some v → Ret Try.prog f2 (e_impl_Tally a0 :: e_Limpl_Value a1 :: q2) (e_int v)) (r : (Int × Bool)) (h : m_slices_BinarySearchFunc_Limpl_Tally_impl_Tally_Limpl_Value a0 a1 p2 = some r) : Ret Try.prog f_slices_BinarySearchFunc_Limpl_Tally_impl_Tally_Limpl_Value [e_Limpl_Tally a0, e_Limpl_Value a1, .clo f2 q2] (.tup [e_int r.1, e_bool r.2]) := by
  refine Does.goG [] F_slices_BinarySearchFunc_Limpl_Tally_impl_Tally_Limpl_Value rfl e_slices_BinarySearchFunc_Limpl_Tally_impl_Tally_Limpl_Value n_slices_BinarySearchFunc_Limpl_Tally_impl_Tally_Limpl_Value rfl (rvs := [.tmp 6, .tmp 7]) rfl rfl ?_
  intro w0 ok0 lent ρ0
  refine LWP.seq_k fun N1 hN1 => ?_
  refine LWP.region (l := [_,_]) ?_
  refine LWo.assign (e_int (0 : Int)) rfl (hn := ?_)
  refine LWo.assign (e_bool false) rfl (hn := ?_)
  refine LWo.nil (hN1 _ ?_)
  refine LWP.seq_k fun N2 hN2 => ?_
  refine LWP.region (l := [_,_,_]) ?_
  refine LWo.move (e_Limpl_Tally a0) rfl (hn := ?_)
  refine LWo.lenM (f := e_impl_Tally) (l := a0) u_Limpl_Tally rfl (hn := ?_)
  refine LWo.assign (e_int (a0.length : Int)) rfl (hn := ?_)
  refine LWo.nil (hN2 _ ?_)
  refine LWP.seq_k fun N3 hN3 => ?_
  refine LWP.region (l := [_,_,_]) ?_
  refine LWo.move (e_int (a0.length : Int)) rfl (hn := ?_)
  refine LWo.assign (e_int (0 : Int)) rfl (hn := ?_)
  refine LWo.assign (e_int (a0.length : Int)) rfl (hn := ?_)
  refine LWo.nil (hN3 _ ?_)
  refine LWP.join (α := (List S_impl_Tally) × (List S_impl_Value) × Int × Int) (fun z : (List S_impl_Tally) × (List S_impl_Value) × Int × Int => [(0, (e_Limpl_Tally z.1)), (1, (e_Limpl_Value z.2.1)), (2, (.clo f2 q2)), (8, (e_int z.2.2.1)), (9, (e_int z.2.2.2))]) (fun z : (List S_impl_Tally) × (List S_impl_Value) × Int × Int => []) (fun z : (List S_impl_Tally) × (List S_impl_Value) × Int × Int => m_slices_BinarySearchFunc_Limpl_Tally_impl_Tally_Limpl_Value_j1 p2 z.1 z.2.1 z.2.2.1 z.2.2.2) r (fun _ => by simp [hkeys]) ?_ ?_
  ·rintro ⟨t0, t1, t8, t9⟩ h
   replace h : m_slices_BinarySearchFunc_Limpl_Tally_impl_Tally_Limpl_Value_j1 p2 t0 t1 t8 t9 = some _ := h
   refine LWP.join (α := Int × Bool) (fun z : Int × Bool => [(6, (e_int z.1)), (7, (e_bool z.2))]) (fun z : Int × Bool => []) (fun z : Int × Bool => m_slices_BinarySearchFunc_Limpl_Tally_impl_Tally_Limpl_Value_j2 p2 z.1 z.2) r (fun _ => by simp [hkeys]) ?_ ?_
   ·rintro ⟨t6, t7⟩ h
    replace h : m_slices_BinarySearchFunc_Limpl_Tally_impl_Tally_Limpl_Value_j2 p2 t6 t7 = some _ := h
    obtain rfl := Option.some.inj h
    refine LWP.ret (QG.mk (.inr rfl) (.cons (.tmp (x := (e_int t6)) rfl) (.cons (.tmp (x := (e_bool t7)) rfl) (.nil))) (RetOK.many0 (.cons (.pure rfl) (.cons (.pure rfl) (.nil))) (by simp) (by decide)) rfl rfl)
   ·intro N20 hN20
    refine LWP.region (l := [_,_,_,_,_,_,_,_,_,_,_,_,_,_,_,_]) ?_
    refine LWo.move (e_int t9) rfl (hn := ?_)
    refine LWo.move (e_int t9) rfl (hn := ?_)
    refine LWo.move (e_int t8) rfl (hn := ?_)
    refine LWo.int _ rfl rfl rfl (hn := ?_)
    refine LWo.move (e_bool (decide (t9 < t8))) rfl (hn := ?_)
    refine LWo.byCases (t := 39) _ rfl (fun h21 => ?_) (fun h21 => ?_)
    ·have h := bT h21 h
     refine LWo.guardY (t := 39) rfl h21 rfl rfl ?_
     refine LWo.move (.clo f2 q2) rfl (hn := ?_)
     refine LWo.guardY (t := 39) rfl h21 rfl rfl ?_
     refine LWo.move (e_Limpl_Tally t0) rfl (hn := ?_)
     refine LWo.guardY (t := 39) rfl h21 rfl rfl ?_
     refine LWo.move (e_int t9) rfl (hn := ?_)
     refine bk h fun x22 e22 h => ?_
     refine LWo.guardY (t := 39) rfl h21 rfl rfl ?_
     refine LWo.indexM (f := e_impl_Tally) e22 u_Limpl_Tally s_impl_Tally rfl rfl (hn := ?_)
     refine LWo.guardY (t := 39) rfl h21 rfl rfl ?_
     refine LWo.loadN ((e_impl_Tally x22)).cells g_impl_Tally s_impl_Tally rfl (Nat.le_of_ble_eq_true rfl) rfl (hn := ?_)
     refine LWo.guardY (t := 39) rfl h21 rfl rfl ?_
     refine LWo.move (e_Limpl_Value t1) rfl (hn := ?_)
     refine bk h fun x23 e23 h => ?_
     refine LWo.guardY (t := 39) rfl h21 rfl rfl ?_
     refine LWo.vcall rfl rfl (hf2 _ _ _ e23) .refl (hn := ?_)
     refine LWo.guardY (t := 39) rfl h21 rfl rfl ?_
     refine LWo.int _ rfl rfl rfl (hn := ?_)
     refine LWo.pickTM (e_bool (x23 == (0 : Int))) rfl h21 rfl (hn := ?_)
     refine LWo.assign (e_int t9) rfl (hn := ?_)
     refine LWo.assign (e_bool (x23 == (0 : Int))) rfl (hn := ?_)
     refine LWo.nil (hN20 (t9, (x23 == (0 : Int))) _ ⟨rfl, rfl, trivial⟩ trivial h)
    ·have h := bF h21 h
     refine LWo.guardNU (t := 39) rfl h21 rfl rfl rfl rfl rfl ?_
     refine LWo.guardNU (t := 39) rfl h21 rfl rfl rfl rfl rfl ?_
     refine LWo.guardNU (t := 39) rfl h21 rfl rfl rfl rfl rfl ?_
     refine LWo.guardNU (t := 39) rfl h21 rfl rfl rfl rfl rfl ?_
     refine LWo.guardNU (t := 39) rfl h21 rfl rfl rfl rfl rfl ?_
     refine LWo.guardNU (t := 39) rfl h21 rfl rfl rfl rfl rfl ?_
     refine LWo.guardNU (t := 39) rfl h21 rfl rfl rfl rfl rfl ?_
     refine LWo.guardNU (t := 39) rfl h21 rfl rfl rfl rfl rfl ?_
     refine LWo.pickFM (e_bool false) rfl h21 rfl (hn := ?_)
     refine LWo.assign (e_int t9) rfl (hn := ?_)
     refine LWo.assign (e_bool false) rfl (hn := ?_)
     refine LWo.nil (hN20 (t9, false) _ ⟨rfl, rfl, trivial⟩ trivial h)
  ·intro N4 hN4
   refine LWP.block ?_
   refine LWP.loopM (α := (List S_impl_Tally) × (List S_impl_Value) × Int × Int × Int) (fun z : (List S_impl_Tally) × (List S_impl_Value) × Int × Int × Int => [(0, (e_Limpl_Tally z.1)), (1, (e_Limpl_Value z.2.1)), (2, (.clo f2 q2)), (8, (e_int z.2.2.1)), (9, (e_int z.2.2.2.1)), (10, (e_int z.2.2.2.2))]) (fun z : (List S_impl_Tally) × (List S_impl_Value) × Int × Int × Int => []) (fun n1 (z : (List S_impl_Tally) × (List S_impl_Value) × Int × Int × Int) => m_slices_BinarySearchFunc_Limpl_Tally_impl_Tally_Limpl_Value_l1 p2 n1 z.1 z.2.1 z.2.2.1 z.2.2.2.1 z.2.2.2.2) r _ (a0, a1, (a0.length : Int), (0 : Int), (a0.length : Int)) h (fun _ => rfl) (fun _ => by simp [hkeys]) ⟨rfl, rfl, rfl, rfl, rfl, rfl, trivial⟩ trivial ?_
   rintro n1 ⟨t0, t1, t8, t9, t10⟩ h N5 hN5
   replace h : m_slices_BinarySearchFunc_Limpl_Tally_impl_Tally_Limpl_Value_l1 p2 (n1 + 1) t0 t1 t8 t9 t10 = some _ := h
   refine LWP.seq_k fun N7 hN7 => ?_
   refine LWP.seq_k fun N8 hN8 => ?_
   refine LWP.region (l := [_,_,_]) ?_
   refine LWo.move (e_int t9) rfl (hn := ?_)
   refine LWo.move (e_int t10) rfl (hn := ?_)
   refine LWo.int _ rfl rfl rfl (hn := ?_)
   refine LWo.nil (hN8 _ ?_)
   refine LWP.cond_split rfl (fun h9 => ?_) (fun h9 => ?_)
   ·have h := bT h9 h
    refine LWP.skip (hN7 _ ?_)
    refine LWP.block ?_
    refine LWP.seq_k fun N10 hN10 => ?_
    refine LWP.region (l := [_,_,_,_,_,_,_]) ?_
    refine LWo.move (e_int t9) rfl (hn := ?_)
    refine LWo.move (e_int t10) rfl (hn := ?_)
    refine bk h fun x11 e11 h => ?_
    refine LWo.int _ rfl rfl (add_ck e11) (hn := ?_)
    refine bk h fun x12 e12 h => ?_
    refine LWo.convIU e12 u_int u_uint rfl (hn := ?_)
    refine bk h fun x13 e13 h => ?_
    refine LWo.shrU e13 rfl rfl (hn := ?_)
    refine bk h fun x14 e14 h => ?_
    refine LWo.convUI e14 u_uint u_int rfl (hn := ?_)
    refine LWo.assign (e_int x14) rfl (hn := ?_)
    refine LWo.nil (hN10 _ ?_)
    refine LWP.seq_k fun N15 hN15 => ?_
    refine LWP.region (l := [_,_,_,_,_,_,_,_]) ?_
    refine LWo.move (.clo f2 q2) rfl (hn := ?_)
    refine LWo.move (e_Limpl_Tally t0) rfl (hn := ?_)
    refine LWo.move (e_int x14) rfl (hn := ?_)
    refine bk h fun x16 e16 h => ?_
    refine LWo.indexM (f := e_impl_Tally) e16 u_Limpl_Tally s_impl_Tally rfl rfl (hn := ?_)
    refine LWo.loadN ((e_impl_Tally x16)).cells g_impl_Tally s_impl_Tally rfl (Nat.le_of_ble_eq_true rfl) rfl (hn := ?_)
    refine LWo.move (e_Limpl_Value t1) rfl (hn := ?_)
    refine bk h fun x17 e17 h => ?_
    refine LWo.vcall rfl rfl (hf2 _ _ _ e17) .refl (hn := ?_)
    refine LWo.int _ rfl rfl rfl (hn := ?_)
    refine LWo.nil (hN15 _ ?_)
    refine LWP.cond_split rfl (fun h18 => ?_) (fun h18 => ?_)
    ·have h := bT h18 h
     refine LWP.region (l := [_,_,_]) ?_
     refine LWo.move (e_int x14) rfl (hn := ?_)
     refine bk h fun x19 e19 h => ?_
     refine LWo.int _ rfl rfl (add_ck e19) (hn := ?_)
     refine LWo.assign (e_int x19) rfl (hn := ?_)
     refine LWo.nil (hN5 (t0, t1, t8, x19, t10) _ ⟨rfl, rfl, rfl, rfl, rfl, rfl, trivial⟩ trivial h)
    ·have h := bF h18 h
     refine LWP.region (l := [_,_]) ?_
     refine LWo.move (e_int x14) rfl (hn := ?_)
     refine LWo.assign (e_int x14) rfl (hn := ?_)
     refine LWo.nil (hN5 (t0, t1, t8, t9, x14) _ ⟨rfl, rfl, rfl, rfl, rfl, rfl, trivial⟩ trivial h)
   ·have h := bF h9 h
    refine LWP.exit (hN4 (t0, t1, t8, t9) _ ⟨rfl, rfl, rfl, rfl, rfl, trivial⟩ trivial h)

def m_impl_tell_1 (a0 : S_impl_Tally) (a1 : (List S_impl_Value)) : Option Int :=
  (m_impl_rowOrder a0.Key a1).bind fun x3 =>
  some x3
theorem c_impl_tell_1 (a0 : S_impl_Tally) (a1 : (List S_impl_Value)) (r : Int) (h : m_impl_tell_1 a0 a1 = some r) : Ret Try.prog f_impl_tell_1 [e_impl_Tally a0, e_Limpl_Value a1] (e_int r) := by
  refine Does.goG [] F_impl_tell_1 rfl e_impl_tell_1 n_impl_tell_1 rfl (rvs := [.tmp 4]) rfl rfl ?_
  intro w0 ok0 lent ρ0
  refine LWP.seq_k fun N1 hN1 => ?_
  refine LWP.region (l := [_,_]) ?_
  refine LWo.boxF (e_impl_Tally a0) rfl rfl rfl (hn := ?_)
  refine LWo.assign (e_int (0 : Int)) rfl (hn := ?_)
  refine LWo.nil (hN1 _ ?_)
  refine LWP.seq_k fun N2 hN2 => ?_
  refine LWP.region (l := [_,_,_,_,_]) ?_
  refine LWo.fieldAddr _ u_impl_Tally rfl s_Limpl_Value rfl rfl (hn := ?_)
  refine LWo.load1 (c := (e_Limpl_Value a0.Key)) g_Limpl_Value rfl (hn := ?_)
  refine LWo.move (e_Limpl_Value a1) rfl (hn := ?_)
  refine bk h fun x3 e3 h => ?_
  refine LWo.vcall rfl rfl (c_impl_rowOrder _ _ _ e3) (.same (.same (.nil))) (hn := ?_)
  refine LWo.assign (e_int x3) rfl (hn := ?_)
  refine LWo.nil (hN2 _ ?_)
  obtain rfl := Option.some.inj h
  refine LWP.ret (QG.mk (.inr rfl) (.cons (.tmp (x := (e_int x3)) rfl) (.nil)) (RetOK.one0 (.pure rfl) (by decide)) rfl rfl)

def m_slices_Reverse_Limpl_Tally_impl_Tally_l1 : Nat → Int → Int → (List S_impl_Tally) → Option (List S_impl_Tally)
  | 0, _, _, _ => none
  | n1 + 1, t2, t3, o0 =>
    bif decide (t2 < t3) then ((at? o0 t3).bind fun x9 =>
    (at? o0 t3).bind fun x10 =>
    (at? o0 t2).bind fun x11 =>
    (at? o0 t2).bind fun x12 =>
    (at? o0 t2).bind fun x13 =>
    (at? o0 t2).bind fun x14 =>
    lt (x10) fun y15 =>
    (at? (o0.set (t2).toNat y15) t3).bind fun x16 =>
    (at? (o0.set (t2).toNat y15) t3).bind fun x17 =>
    lt (x12) fun y18 =>
    (ckI (t2 + (1 : Int))).bind fun x19 =>
    (ckI (t3 - (1 : Int))).bind fun x20 =>
    (m_slices_Reverse_Limpl_Tally_impl_Tally_l1  n1) x19 x20 ((o0.set (t2).toNat y15).set (t3).toNat y18))
    else (some o0)
def m_slices_Reverse_Limpl_Tally_impl_Tally (o0 : (List S_impl_Tally)) : Option (List S_impl_Tally) :=
  (ckI ((o0.length : Int) - (1 : Int))).bind fun x2 =>
  m_slices_Reverse_Limpl_Tally_impl_Tally_l1  ((x2 - (0 : Int)).toNat + 1) (0 : Int) x2 o0
theorem c_slices_Reverse_Limpl_Tally_impl_Tally (o0 : (List S_impl_Tally)) (r : (List S_impl_Tally)) (h : m_slices_Reverse_Limpl_Tally_impl_Tally o0 = some r) : Does Try.prog f_slices_Reverse_Limpl_Tally_impl_Tally [.own 0 0 o0.length] [(0, (lob 4 e_impl_Tally o0))] (fun x hh => x = .tup [] ∧ hh = [(0, (lob 4 e_impl_Tally r))]) := by
  refine Does.goG [0] F_slices_Reverse_Limpl_Tally_impl_Tally rfl e_slices_Reverse_Limpl_Tally_impl_Tally n_slices_Reverse_Limpl_Tally_impl_Tally rfl (rvs := []) rfl rfl ?_
  intro w0 ok0 lent ρ0
  refine LWP.seq_k fun N1 hN1 => ?_
  refine LWP.region (l := [_,_,_,_,_]) ?_
  refine LWo.move (.own 0 0 (o0).length) rfl (hn := ?_)
  refine LWo.lenO u_Limpl_Tally rfl (hn := ?_)
  refine bk h fun x2 e2 h => ?_
  refine LWo.int _ rfl rfl (sub_ck e2) (hn := ?_)
  refine LWo.assign (e_int (0 : Int)) rfl (hn := ?_)
  refine LWo.assign (e_int x2) rfl (hn := ?_)
  refine LWo.nil (hN1 _ ?_)
  refine LWP.block ?_
  refine LWP.loopM (α := Int × Int × (List S_impl_Tally)) (fun z : Int × Int × (List S_impl_Tally) => [(0, (.own 0 0 (z.2.2).length)), (2, (e_int z.1)), (3, (e_int z.2.1))]) (fun z : Int × Int × (List S_impl_Tally) => [(0, (lob 4 e_impl_Tally z.2.2))]) (fun n1 (z : Int × Int × (List S_impl_Tally)) => m_slices_Reverse_Limpl_Tally_impl_Tally_l1  n1 z.1 z.2.1 z.2.2) r _ ((0 : Int), x2, o0) h (fun _ => rfl) (fun _ => by simp [hkeys]) ⟨rfl, rfl, rfl, trivial⟩ ⟨rfl, trivial⟩ ?_
  rintro n1 ⟨t2, t3, o0⟩ h N3 hN3
  replace h : m_slices_Reverse_Limpl_Tally_impl_Tally_l1  (n1 + 1) t2 t3 o0 = some _ := h
  refine LWP.seq_k fun N5 hN5 => ?_
  refine LWP.seq_k fun N6 hN6 => ?_
  refine LWP.region (l := [_,_,_]) ?_
  refine LWo.move (e_int t2) rfl (hn := ?_)
  refine LWo.move (e_int t3) rfl (hn := ?_)
  refine LWo.int _ rfl rfl rfl (hn := ?_)
  refine LWo.nil (hN6 _ ?_)
  refine LWP.cond_split rfl (fun h7 => ?_) (fun h7 => ?_)
  ·have h := bT h7 h
   refine LWP.skip (hN5 _ ?_)
   refine LWP.seq_k fun N8 hN8 => ?_
   refine LWP.block ?_
   refine bk h fun x9 e9 h => ?_
   refine bk h fun x10 e10 h => ?_
   refine bk h fun x11 e11 h => ?_
   refine bk h fun x12 e12 h => ?_
   refine bk h fun x13 e13 h => ?_
   refine bk h fun x14 e14 h => ?_
   refine lk h fun y15 e15 h => ?_
   refine bk h fun x16 e16 h => ?_
   refine bk h fun x17 e17 h => ?_
   refine lk h fun y18 e18 h => ?_
   refine LWP.drawF (l := [_,_,_,_,_,_,_,_,_,_,_,_,_,_,_,_]) [] [0, 2, 3] [([0], []), ([2], []), ([0], []), ([3], []), ([0], []), ([3], []), ([18, 19], [0]), ([20], [0]), ([0], []), ([2], []), ([22, 23], [0]), ([24], [0]), ([14, 15], [0]), ([21, 26], [0]), ([16, 17], [0]), ([25, 27], [0])] [0, 2, 3] [0] mixed (by kernel_rfl) rfl (by decide) ?_
   refine dq 14 rfl (fun _ g u h => LWo.move (.own 0 0 (o0).length) u.1 (hn := .nil (zn g))) ?_
   refine dq 15 rfl (fun _ g u h => LWo.move (e_int t2) u.1 (hn := .nil (zn g))) ?_
   refine dq 16 rfl (fun _ g u h => LWo.move (.own 0 0 (o0).length) u.1 (hn := .nil (zn g))) ?_
   refine dq 17 rfl (fun _ g u h => LWo.move (e_int t3) u.1 (hn := .nil (zn g))) ?_
   refine dq 18 rfl (fun _ g u h => LWo.move (.own 0 0 (o0).length) u.1 (hn := .nil (zn g))) ?_
   refine dq 19 rfl (fun _ g u h => LWo.move (e_int t3) u.1 (hn := .nil (zn g))) ?_
   refine dq 20 rfl (fun _ g u h => LWo.indexO e9 rfl u_Limpl_Tally s_impl_Tally u.1 u.2.1 h.1 (hn := .nil (zn g))) ?_
   refine dq 21 rfl (fun _ g u h => LWo.loadON ((e_impl_Tally x10)).cells e10 g_impl_Tally s_impl_Tally u.1 h.1 rfl rfl (hn := .nil (zn g))) ?_
   refine dq 22 rfl (fun _ g u h => LWo.move (.own 0 0 (o0).length) u.1 (hn := .nil (zn g))) ?_
   refine dq 23 rfl (fun _ g u h => LWo.move (e_int t2) u.1 (hn := .nil (zn g))) ?_
   refine dq 24 rfl (fun _ g u h => LWo.indexO e11 rfl u_Limpl_Tally s_impl_Tally u.1 u.2.1 h.1 (hn := .nil (zn g))) ?_
   refine dq 25 rfl (fun _ g u h => LWo.loadON ((e_impl_Tally x12)).cells e12 g_impl_Tally s_impl_Tally u.1 h.1 rfl rfl (hn := .nil (zn g))) ?_
   refine dq 26 rfl (fun _ g u h => LWo.indexO e13 rfl u_Limpl_Tally s_impl_Tally u.1 u.2.1 h.1 (hn := .nil (zn g))) ?_
   refine ⟨rfl, .upd none .junk 0 _, (fun _ h => by cases h), fun _ g u h => LWo.storeO y15 e14 s_impl_Tally u.2.1 u.1 rfl rfl rfl h.1 rfl (by rw [e15]; rfl) (hn := LWo.nil ⟨rfl, .inl rfl, Ef.good_ok (e := .upd none .junk 0 _) (fun _ h => by cases h) g⟩), ?_⟩
   refine dq 27 rfl (fun _ g u h => LWo.indexO e16 List.length_set.symm u_Limpl_Tally s_impl_Tally u.1 u.2.1 h.1 (hn := .nil (zn g))) ?_
   refine ⟨rfl, .upd none .junk 0 _, (fun _ h => by cases h), fun _ g u h => LWo.storeO y18 e17 s_impl_Tally u.2.1 u.1 rfl rfl rfl h.1 rfl (by rw [e18]; rfl) (hn := LWo.nil ⟨rfl, .inl rfl, Ef.good_ok (e := .upd none .junk 0 _) (fun _ h => by cases h) g⟩), ?_⟩
   refine ⟨rfl, by kernel_rfl, hN8 _ ?_⟩
   refine LWP.region (l := [_,_,_,_,_,_]) ?_
   refine LWo.move (e_int t2) rfl (hn := ?_)
   refine bk h fun x19 e19 h => ?_
   refine LWo.int _ rfl rfl (add_ck e19) (hn := ?_)
   refine LWo.move (e_int t3) rfl (hn := ?_)
   refine bk h fun x20 e20 h => ?_
   refine LWo.int _ rfl rfl (sub_ck e20) (hn := ?_)
   refine LWo.assign (e_int x19) rfl (hn := ?_)
   refine LWo.assign (e_int x20) rfl (hn := ?_)
   refine LWo.nil (hN3 (x19, x20, ((o0.set (t2).toNat y15).set (t3).toNat y18)) _ ⟨(congrArg (LV.own 0 0) (List.length_set.symm.trans List.length_set.symm)), rfl, rfl, trivial⟩ ⟨rfl, trivial⟩ h)
  ·have h := bF h7 h
   obtain rfl := Option.some.inj h
   refine LWP.exit (QG.mk (.inl rfl) (.nil) (RetOK.many1 (.nil) (by simp) (by decide) rfl rfl rfl rfl rfl) rfl rfl)
theorem k_slices_Reverse_Limpl_Tally_impl_Tally (o0 : (List S_impl_Tally)) (r : (List S_impl_Tally)) (h : m_slices_Reverse_Limpl_Tally_impl_Tally o0 = some r) (k : Nat) : Does Try.prog f_slices_Reverse_Limpl_Tally_impl_Tally [.own k 0 o0.length] [(k, (lob 4 e_impl_Tally o0))] (fun x hh => x = .tup [] ∧ hh = [(k, (lob 4 e_impl_Tally r))]) :=
  Does.nameO (c_slices_Reverse_Limpl_Tally_impl_Tally o0 r h) (fun _ => rfl) k

def m_slices_rotateLeft_impl_Tally (o0 : (List S_impl_Tally)) (a1 : Int) : Option (List S_impl_Tally) :=
  (cut? o0 (0 : Int) a1).bind fun x2 =>
  none
theorem c_slices_rotateLeft_impl_Tally (o0 : (List S_impl_Tally)) (a1 : Int) (r : (List S_impl_Tally)) (h : m_slices_rotateLeft_impl_Tally o0 a1 = some r) : Does Try.prog f_slices_rotateLeft_impl_Tally [.own 0 0 o0.length, e_int a1] [(0, (lob 4 e_impl_Tally o0))] (fun x hh => x = .tup [] ∧ hh = [(0, (lob 4 e_impl_Tally r))]) := by
  refine Does.goG [0] F_slices_rotateLeft_impl_Tally rfl e_slices_rotateLeft_impl_Tally n_slices_rotateLeft_impl_Tally rfl (rvs := []) rfl rfl ?_
  intro w0 ok0 lent ρ0
  refine LWP.seq_k fun N1 hN1 => ?_
  refine LWP.region (l := [_,_,_,_]) ?_
  refine LWo.move (.own 0 0 (o0).length) rfl (hn := ?_)
  refine LWo.move (e_int a1) rfl (hn := ?_)
  refine bk h fun x2 e2 h => ?_
  refine LWo.frzL (f := e_impl_Tally) (l := o0) [0, 4] 0 rfl rfl ⟨rfl, rfl, trivial⟩ ?_
  refine LWo.cutM (f := e_impl_Tally) e2 u_Limpl_Tally s_impl_Tally rfl rfl ⟨_, rfl⟩ (hn := ?_)
  exact no h
theorem k_slices_rotateLeft_impl_Tally (o0 : (List S_impl_Tally)) (a1 : Int) (r : (List S_impl_Tally)) (h : m_slices_rotateLeft_impl_Tally o0 a1 = some r) (k : Nat) : Does Try.prog f_slices_rotateLeft_impl_Tally [.own k 0 o0.length, e_int a1] [(k, (lob 4 e_impl_Tally o0))] (fun x hh => x = .tup [] ∧ hh = [(k, (lob 4 e_impl_Tally r))]) :=
  Does.nameO (c_slices_rotateLeft_impl_Tally o0 a1 r h) (fun _ => rfl) k

def m_slices_rotateRight_impl_Tally (o0 : (List S_impl_Tally)) (a1 : Int) : Option (List S_impl_Tally) :=
  (ckI ((o0.length : Int) - a1)).bind fun x1 =>
  (m_slices_rotateLeft_impl_Tally o0 x1).bind fun x2 =>
  (lenQ x2.length o0.length ()).bind fun u3 =>
  some x2
theorem c_slices_rotateRight_impl_Tally (o0 : (List S_impl_Tally)) (a1 : Int) (r : (List S_impl_Tally)) (h : m_slices_rotateRight_impl_Tally o0 a1 = some r) : Does Try.prog f_slices_rotateRight_impl_Tally [.own 0 0 o0.length, e_int a1] [(0, (lob 4 e_impl_Tally o0))] (fun x hh => x = .tup [] ∧ hh = [(0, (lob 4 e_impl_Tally r))]) := by
  refine Does.goG [0] F_slices_rotateRight_impl_Tally rfl e_slices_rotateRight_impl_Tally n_slices_rotateRight_impl_Tally rfl (rvs := []) rfl rfl ?_
  intro w0 ok0 lent ρ0
  refine LWP.region (l := [_,_,_,_,_,_]) ?_
  refine LWo.move (.own 0 0 (o0).length) rfl (hn := ?_)
  refine LWo.move (.own 0 0 (o0).length) rfl (hn := ?_)
  refine LWo.lenO u_Limpl_Tally rfl (hn := ?_)
  refine LWo.move (e_int a1) rfl (hn := ?_)
  refine bk h fun x1 e1 h => ?_
  refine LWo.int _ rfl rfl (sub_ck e1) (hn := ?_)
  refine bk h fun x2 e2 h => ?_
  refine bk h fun u3 e3 h => ?_
  refine LWo.ucallM (e := e_impl_Tally) rfl rfl (k_slices_rotateLeft_impl_Tally _ _ _ e2 0) rfl rfl (some 9) rfl (hn := ?_)
  obtain rfl := Option.some.inj h
  refine LWo.nil (QG.mk (.inl rfl) (.nil) (RetOK.many1 (.nil) (by simp) (by decide) rfl rfl rfl rfl rfl) rfl rfl)
theorem k_slices_rotateRight_impl_Tally (o0 : (List S_impl_Tally)) (a1 : Int) (r : (List S_impl_Tally)) (h : m_slices_rotateRight_impl_Tally o0 a1 = some r) (k : Nat) : Does Try.prog f_slices_rotateRight_impl_Tally [.own k 0 o0.length, e_int a1] [(k, (lob 4 e_impl_Tally o0))] (fun x hh => x = .tup [] ∧ hh = [(k, (lob 4 e_impl_Tally r))]) :=
  Does.nameO (c_slices_rotateRight_impl_Tally o0 a1 r h) (fun _ => rfl) k

theorem ins_fresh {xs : List LV} {v z : LV} {i m : Nat} (hi : i ≤ xs.length) (h : xs.length + 1 ≤ i + m) :
    ((((xs.take i ++ List.replicate m z).take i ++ [v] ++ (xs.take i ++ List.replicate m z).drop (i + [v].length)).take (i + 1) ++ xs.drop i ++
      ((xs.take i ++ List.replicate m z).take i ++ [v] ++ (xs.take i ++ List.replicate m z).drop (i + [v].length)).drop (i + 1 + (xs.drop i).length)).take (xs.length + 1)) = xs.take i ++ v :: xs.drop i := by
  have h0 : (xs.take i ++ List.replicate m z).take i = xs.take i := by
    rw [List.take_append_of_le_length (by simp; omega), List.take_take, Nat.min_self]
  have h1 : (xs.take i ++ [v]).length = i + 1 := by simp; omega
  rw [h0]
  rw [List.take_append_of_le_length (l₁ := xs.take i ++ [v]) (by omega), List.take_of_length_le (l := xs.take i ++ [v]) (by omega)]
  rw [List.take_append_of_le_length (by simp; omega), List.take_of_length_le (by simp; omega)]
  simp
theorem ins_place {xs : List LV} {v : LV} {i : Nat} (hi : i ≤ xs.length) (hi' : i < xs.length) :
    (((xs.take (i + 1) ++ xs.drop i ++ xs.drop (i + 1 + (xs.drop i).length)).take i ++ [v] ++ (xs.take (i + 1) ++ xs.drop i ++ xs.drop (i + 1 + (xs.drop i).length)).drop (i + [v].length)).take (xs.length + 1)) = xs.take i ++ v :: xs.drop i := by
  have e : xs.drop (i + 1 + (xs.drop i).length) = [] := List.drop_eq_nil_of_le (by simp; omega)
  rw [e, List.append_nil]
  have h1 : (xs.take (i + 1)).length = i + 1 := by simp; omega
  have e1 : (xs.take (i + 1) ++ xs.drop i).take i = xs.take i := by rw [List.take_append_of_le_length (by omega), List.take_take, Nat.min_eq_left (by omega)]
  have e2 : (xs.take (i + 1) ++ xs.drop i).drop (i + [v].length) = xs.drop i := by
    rw [List.drop_append_of_le_length (by simp; omega), List.drop_of_length_le (l := xs.take (i + 1)) (by simp; omega)]; simp
  rw [e1, e2, List.take_of_length_le (by simp; omega)]
  simp



theorem ov_Limpl_Tally (vs : Array Value) (w : World) : (callFunc f_slices_overlaps_impl_Tally vs).run Try.prog w = ((Extern.SlicesOverlaps.overlaps #[t_Limpl_Tally, t_Limpl_Tally] #[t_bool] vs).run Try.prog w).andThen fun v w => .ok (.value v) w := by
  rw [run_callFunc_extern F_slices_overlaps_impl_Tally (by kernel_rfl) (by kernel_rfl) (by kernel_rfl) (e := Extern.SlicesOverlaps.overlaps #[t_Limpl_Tally, t_Limpl_Tally] #[t_bool]) (by kernel_rfl)]

theorem cc_slices_Insert_Limpl_Tally_impl_Tally (xs : List LV) (v : LV) (i : Nat) (hi : i ≤ xs.length) (hv : v.cells.length = 4) (hu : ∀ x ∈ xs, x.cells.length = 4) (hlen : xs.length ≤ 1000000000) :
    Does Try.prog f_slices_Insert_Limpl_Tally_impl_Tally [.own 0 0 xs.length, e_int i, .sl 4 [v]] [(0, { kind := .fro, sz := 4, elems := xs })] (fun r h => r = .nw 4 (xs.take i ++ v :: xs.drop i) false ∧ h = []) := by
  refine Does.go [0] F_slices_Insert_Limpl_Tally_impl_Tally rfl e_slices_Insert_Limpl_Tally_impl_Tally n_slices_Insert_Limpl_Tally_impl_Tally rfl (ts := [6]) rfl rfl rfl ?_
  intro w0 ok0 lent ρ0
  refine LWP.rekey 0 0 1 rfl rfl rfl rfl rfl rfl ?_
  refine LWP.seq_k fun N1 hN1 => ?_
  refine LWP.region (l := [_]) ?_
  refine LWo.assign _ rfl (hn := ?_)
  refine LWo.nil (hN1 _ ?_)
  refine LWP.seq_k fun N2 hN2 => ?_
  refine LWP.region (l := [_,_,_]) ?_
  refine LWo.move _ rfl (hn := ?_)
  refine LWo.move _ rfl (hn := ?_)
  refine LWo.cutOwn (l := i) (h := xs.length) u_Limpl_Tally s_impl_Tally rfl rfl rfl ⟨_, rfl⟩ rfl trivial (.inl rfl) (by omega) (by omega) rfl rfl (hn := ?_)
  refine LWo.nil (hN2 _ ?_)
  refine LWP.seq_k fun N3 hN3 => ?_
  refine LWP.region (l := [_,_,_]) ?_
  refine LWo.move _ rfl (hn := ?_)
  refine LWo.len u_Limpl_Tally rfl (hn := ?_)
  refine LWo.assign _ rfl (hn := ?_)
  refine LWo.nil (hN3 _ ?_)
  refine LWP.seq_k fun N4 hN4 => ?_
  refine LWP.seq_k fun N5 hN5 => ?_
  refine LWP.region (l := [_,_]) ?_
  refine LWo.move _ rfl (hn := ?_)
  refine LWo.int _ rfl rfl rfl (hn := ?_)
  refine LWo.nil (hN5 _ ?_)
  refine LWP.cond_split rfl (fun h6 => ?_) (fun h6 => ?_)
  · -- t16 = True
    try simp only [List.length_map, decide_eq_true_eq, decide_eq_false_iff_not, Int.ofNat_lt, Int.ofNat_le, Int.not_lt, Int.not_le, ge_iff_le, gt_iff_lt, Nat.not_le, Nat.not_lt] at h6
    refine LWP.seq_k fun N7 hN7 => ?_
    refine LWP.region (l := [_,_]) ?_
    refine LWo.move _ rfl (hn := ?_)
    refine LWo.assign _ rfl (hn := ?_)
    refine LWo.nil (hN7 _ ?_)
    exact absurd h6 (by simp)
  · -- t16 = False
    try simp only [List.length_map, decide_eq_true_eq, decide_eq_false_iff_not, Int.ofNat_lt, Int.ofNat_le, Int.not_lt, Int.not_le, ge_iff_le, gt_iff_lt, Nat.not_le, Nat.not_lt] at h6
    refine LWP.skip (hN4 _ ?_)
    refine LWP.seq_k fun N8 hN8 => ?_
    refine LWP.region (l := [_,_,_]) ?_
    refine LWo.move _ rfl (hn := ?_)
    refine LWo.len u_Limpl_Tally rfl (hn := ?_)
    refine LWo.assign _ rfl (hn := ?_)
    refine LWo.nil (hN8 _ ?_)
    refine LWP.seq_k fun N9 hN9 => ?_
    refine LWP.seq_k fun N10 hN10 => ?_
    refine LWP.region (l := [_,_,_]) ?_
    refine LWo.move _ rfl (hn := ?_)
    refine LWo.move _ rfl (hn := ?_)
    refine LWo.int _ rfl rfl rfl (hn := ?_)
    refine LWo.nil (hN10 _ ?_)
    refine LWP.cond_split rfl (fun h11 => ?_) (fun h11 => ?_)
    · -- t22 = True
      try simp only [List.length_map, decide_eq_true_eq, decide_eq_false_iff_not, Int.ofNat_lt, Int.ofNat_le, Int.not_lt, Int.not_le, ge_iff_le, gt_iff_lt, Nat.not_le, Nat.not_lt] at h11
      refine LWP.seq_k fun N12 hN12 => ?_
      refine LWP.region (l := [_,_,_,_]) ?_
      refine LWo.move _ rfl (hn := ?_)
      refine LWo.move _ rfl (hn := ?_)
      refine LWo.append [v] u_Limpl_Tally u_Limpl_Tally (fun _ h => by cases h) s_impl_Tally i_impl_Tally rfl rfl rfl rfl rfl rfl (Nat.le_refl _) (.inl rfl) rfl rfl (by simp; omega) (by simp; omega) (hn := ?_)
      refine LWo.assign _ rfl (hn := ?_)
      refine LWo.nil (hN12 _ ?_)
      refine LWP.ret (QRet.own1 (.inr rfl) rfl rfl rfl rfl (by simp) ⟨(by have e : i = xs.length := (by simp at h11; omega); subst e; simp [List.take_of_length_le]), rfl⟩)
    · -- t22 = False
      try simp only [List.length_map, decide_eq_true_eq, decide_eq_false_iff_not, Int.ofNat_lt, Int.ofNat_le, Int.not_lt, Int.not_le, ge_iff_le, gt_iff_lt, Nat.not_le, Nat.not_lt] at h11
      refine LWP.skip (hN9 _ ?_)
      refine LWP.seq_k fun N13 hN13 => ?_
      refine LWP.seq_k fun N14 hN14 => ?_
      refine LWP.region (l := [_,_,_,_,_,_]) ?_
      have hin : i < xs.length := by simp at h11; omega
      refine LWo.ownCap 0 rfl (by omega) (ho := rfl) (fun c hc1 hc2 => ?_)
      refine LWo.move _ rfl (hn := ?_)
      refine LWo.move _ rfl (hn := ?_)
      refine LWo.int _ rfl rfl (add_in (by simp only [List.length_cons, List.length_nil]; omega) (by simp only [List.length_cons, List.length_nil]; omega)) (hn := ?_)
      refine LWo.move _ rfl (hn := ?_)
      refine LWo.capC u_Limpl_Tally rfl (hn := ?_)
      refine LWo.int _ rfl rfl rfl (hn := ?_)
      refine LWo.nil (hN14 _ ?_)
      refine LWP.cond_split rfl (fun h15 => ?_) (fun h15 => ?_)
      · -- t31 = True
        try simp only [List.length_map, decide_eq_true_eq, decide_eq_false_iff_not, Int.ofNat_lt, Int.ofNat_le, Int.not_lt, Int.not_le, ge_iff_le, gt_iff_lt, Nat.not_le, Nat.not_lt] at h15
        refine LWP.seq_k fun N16 hN16 => ?_
        have hcc : c < i + (xs.length + 1 - i) := by simp at h15; omega
        refine LWP.region (l := [_,_,_,_,_,_,_,_,_,_]) ?_
        refine LWo.move _ rfl (hn := ?_)
        refine LWo.move _ rfl (hn := ?_)
        refine LWo.cutCC u_Limpl_Tally s_impl_Tally rfl rfl rfl (h := i) ⟨_, rfl⟩ (by omega) (by omega) (hn := ?_)
        refine LWo.move _ rfl (hn := ?_)
        refine LWo.move _ rfl (hn := ?_)
        refine LWo.int _ rfl rfl (add_in (by simp only [List.length_cons, List.length_nil]; omega) (by simp only [List.length_cons, List.length_nil]; omega)) (hn := ?_)
        refine LWo.move _ rfl (hn := ?_)
        refine LWo.int _ rfl rfl (sub_in (by simp only [List.length_cons, List.length_nil]; omega) (by simp only [List.length_cons, List.length_nil]; omega)) (hn := ?_)
        refine LWo.appendMake (m := xs.length + 1 - i) 40 (.agg ([Go.Value.slice none 0 0, Go.Value.int Go.IntKind.i64 0, Go.Value.int Go.IntKind.i64 0, Go.Value.int Go.IntKind.i64 0].map LV.imm)) u_Limpl_Tally u_int i_impl_Tally (zs := [Go.Value.slice none 0 0, Go.Value.int Go.IntKind.i64 0, Go.Value.int Go.IntKind.i64 0, Go.Value.int Go.IntKind.i64 0]) rfl rfl (by simp [Value.oneCell']) rfl (.own rfl rfl rfl rfl (by show i ≤ xs.length; omega) rfl hcc (fun x hx => hu x (List.mem_of_mem_take hx))) (congrArg (fun z => LV.imm (Value.int .i64 z)) (show ((xs.length : Int) + (([v] : List LV).length : Nat)) - (i : Int) = ((xs.length + 1 - i : Nat) : Int) by simp; omega)) rfl rfl (by simp; omega) (by simp; omega) (by omega) (by decide) (hn := ?_)
        refine LWo.assign _ rfl (hn := ?_)
        refine LWo.nil (hN16 _ ?_)
        refine LWP.seq_k fun N17 hN17 => ?_
        refine LWP.region (l := [_,_,_,_,_]) ?_
        refine LWo.move _ rfl (hn := ?_)
        refine LWo.move _ rfl (hn := ?_)
        refine LWo.cutOwn (l := i) (h := xs.length + 1) u_Limpl_Tally s_impl_Tally rfl rfl rfl ⟨_, rfl⟩ (show xs.length + 1 = (xs.take i).length + (xs.length + 1 - i) by rw [List.length_take]; omega) trivial (.inl rfl) (by omega) (show xs.length + 1 ≤ (xs.take i).length + (xs.length + 1 - i) by rw [List.length_take]; omega) rfl rfl (hn := ?_)
        refine LWo.move _ rfl (hn := ?_)
        refine LWo.copy [v] u_Limpl_Tally s_impl_Tally rfl (by omega) rfl rfl rfl rfl (by simp; omega) (.sl rfl rfl rfl) (by simp; omega) (hn := ?_)
        refine LWo.nil (hN17 _ ?_)
        refine LWP.seq_k fun N18 hN18 => ?_
        refine LWP.drawPU (l := [_,_,_,_,_,_,_,_]) (o := _) [0, 1, 7, 9] [(46, [9]), (47, [1]), (48, [7]), (49, [47, 48]), (50, [46, 49]), (51, [0]), (52, [1]), (53, [51, 52])] [9] 54 [50, 53] 40 mixed (by kernel_rfl) ?_
        refine ⟨rfl, _, fun u hu hh => LWo.move _ hu.1 (hn := LWo.nil ⟨rfl, .inl rfl, good0⟩), ?_⟩
        refine ⟨rfl, _, fun u hu hh => LWo.move (.imm (.int _ _)) hu.1 (hn := LWo.nil ⟨rfl, .inl rfl, good0⟩), ?_⟩
        refine ⟨rfl, _, fun u hu hh => LWo.move (.imm (.int _ _)) hu.1 (hn := LWo.nil ⟨rfl, .inl rfl, good0⟩), ?_⟩
        refine ⟨rfl, _, fun u hu hh => LWo.int _ hu.1 hu.2.1 (add_in (by simp only [List.length_cons, List.length_nil]; omega) (by simp only [List.length_cons, List.length_nil]; omega)) (hn := LWo.nil ⟨rfl, .inl rfl, good0⟩), ?_⟩
        refine ⟨rfl, _, fun u hu hh => LWo.cutOwn (l := i + 1) (h := xs.length + 1) u_Limpl_Tally s_impl_Tally hu.1 (hh _ _ rfl) rfl ⟨_, hu.2.1.trans (congrArg (fun z => LV.imm (Value.int .i64 z)) (show ((i : Int) + (([v] : List LV).length : Nat)) = ((i + 1 : Nat) : Int) by simp))⟩ (show xs.length + 1 = (xs.take i).length + (xs.length + 1 - i) by rw [List.length_take]; omega) trivial (.inl rfl) (by omega) (show xs.length + 1 ≤ (xs.take i).length + (xs.length + 1 - i) by rw [List.length_take]; omega) rfl rfl (hn := LWo.nil ⟨rfl, .inl rfl, good0⟩), ?_⟩
        refine ⟨rfl, _, fun u hu hh => LWo.move _ hu.1 (hn := LWo.nil ⟨rfl, .inl rfl, good0⟩), ?_⟩
        refine ⟨rfl, _, fun u hu hh => LWo.move (.imm (.int _ _)) hu.1 (hn := LWo.nil ⟨rfl, .inl rfl, good0⟩), ?_⟩
        refine ⟨rfl, _, fun u hu hh => LWo.cutC (l := i) (h := xs.length) u_Limpl_Tally s_impl_Tally hu.1 (hh _ _ rfl) rfl ⟨_, hu.2.1⟩ rfl (by omega) (by omega) rfl rfl (hn := LWo.nil ⟨rfl, .inl rfl, good0⟩), ?_⟩
        refine ⟨rfl, _, _, fun u hu hh => LWo.copy (xs.drop i) u_Limpl_Tally s_impl_Tally hu.1 (by omega) (hh _ _ rfl) rfl rfl rfl (by simp; omega) (.own hu.2.1 (hh _ _ rfl) rfl rfl (by simp; omega) (by simp [List.take_of_length_le]) (by simp only [List.length_drop]; omega)) (by simp only [List.length_drop]; omega) (hn := LWo.nil ⟨rfl, .inl rfl, good0⟩), rfl, by kernel_rfl, hN18 _ ?_⟩
        refine LWP.seq_k fun N19 hN19 => ?_
        refine LWP.region (l := [_,_]) ?_
        refine LWo.move _ rfl (hn := ?_)
        refine LWo.assign _ rfl (hn := ?_)
        refine LWo.nil (hN19 _ ?_)
        refine LWP.ret (QRet.own1 (.inr rfl) rfl rfl rfl rfl (by simp; omega) ⟨by refine congrArg (fun l => LV.nw 4 l false) ?_; simp only [Nat.zero_add, Nat.sub_zero]; rw [← (show xs.length + 1 = (xs.take i).length + (xs.length + 1 - i) by rw [List.length_take]; omega)]; exact ins_fresh (m := xs.length + 1 - i) hi (by omega), rfl⟩)
      · -- t31 = False
        try simp only [List.length_map, decide_eq_true_eq, decide_eq_false_iff_not, Int.ofNat_lt, Int.ofNat_le, Int.not_lt, Int.not_le, ge_iff_le, gt_iff_lt, Nat.not_le, Nat.not_lt] at h15
        refine LWP.skip (hN13 _ ?_)
        refine LWP.seq_k fun N20 hN20 => ?_
        have hcc : xs.length + 1 ≤ c := by simp at h15; omega
        refine LWP.region (l := [_,_,_,_,_,_]) ?_
        refine LWo.move _ rfl (hn := ?_)
        refine LWo.move _ rfl (hn := ?_)
        refine LWo.move _ rfl (hn := ?_)
        refine LWo.int _ rfl rfl (add_in (by simp only [List.length_cons, List.length_nil]; omega) (by simp only [List.length_cons, List.length_nil]; omega)) (hn := ?_)
        refine LWo.cutC (l := 0) (h := xs.length + 1) u_Limpl_Tally s_impl_Tally rfl rfl rfl rfl ⟨_, congrArg (fun z => LV.imm (Value.int .i64 z)) (show ((xs.length : Int) + (([v] : List LV).length : Nat)) = ((xs.length + 1 : Nat) : Int) by simp)⟩ (by omega) (by omega) rfl rfl (hn := ?_)
        refine LWo.assign _ rfl (hn := ?_)
        refine LWo.nil (hN20 _ ?_)
        refine LWP.seq_k fun N21 hN21 => ?_
        refine LWP.seq_k fun N22 hN22 => ?_
        refine LWP.region (l := [_,_,_,_,_,_,_,_]) ?_
        refine LWo.move _ rfl (hn := ?_)
        refine LWo.move _ rfl (hn := ?_)
        refine LWo.move _ rfl (hn := ?_)
        refine LWo.move _ rfl (hn := ?_)
        refine LWo.int _ rfl rfl (add_in (by simp only [List.length_cons, List.length_nil]; omega) (by simp only [List.length_cons, List.length_nil]; omega)) (hn := ?_)
        refine LWo.cutOwn (l := i + 1) (h := xs.length + 1) u_Limpl_Tally s_impl_Tally rfl rfl rfl ⟨_, congrArg (fun z => LV.imm (Value.int .i64 z)) (show ((i : Int) + (([v] : List LV).length : Nat)) = ((i + 1 : Nat) : Int) by simp)⟩ rfl trivial (.inl rfl) (by omega) (by omega) rfl rfl (hn := ?_)
        refine LWo.overlaps ov_Limpl_Tally u_Limpl_Tally s_impl_Tally (by decide) rfl rfl (by simp) rfl rfl (by omega) (hn := ?_)
        refine LWo.not rfl (hn := ?_)
        refine LWo.nil (hN22 _ ?_)
        refine LWP.condT rfl rfl ?_
        refine LWP.seq_k fun N23 hN23 => ?_
        refine LWP.drawPU (l := [_,_,_,_,_,_,_,_]) (o := _) [0, 1, 2, 7] [(69, [0]), (70, [1]), (71, [7]), (72, [70, 71]), (73, [69, 72]), (74, [0]), (75, [1]), (76, [74, 75])] [0, 1, 2] 77 [73, 76] 1 mixed (by kernel_rfl) ?_
        refine ⟨rfl, _, fun u hu hh => LWo.move _ hu.1 (hn := LWo.nil ⟨rfl, .inl rfl, good0⟩), ?_⟩
        refine ⟨rfl, _, fun u hu hh => LWo.move (.imm (.int _ _)) hu.1 (hn := LWo.nil ⟨rfl, .inl rfl, good0⟩), ?_⟩
        refine ⟨rfl, _, fun u hu hh => LWo.move (.imm (.int _ _)) hu.1 (hn := LWo.nil ⟨rfl, .inl rfl, good0⟩), ?_⟩
        refine ⟨rfl, _, fun u hu hh => LWo.int _ hu.1 hu.2.1 (add_in (by simp only [List.length_cons, List.length_nil]; omega) (by simp only [List.length_cons, List.length_nil]; omega)) (hn := LWo.nil ⟨rfl, .inl rfl, good0⟩), ?_⟩
        refine ⟨rfl, _, fun u hu hh => LWo.cutOwn (l := i + 1) (h := xs.length + 1) u_Limpl_Tally s_impl_Tally hu.1 (hh _ _ rfl) rfl ⟨_, hu.2.1.trans (congrArg (fun z => LV.imm (Value.int .i64 z)) (show ((i : Int) + (([v] : List LV).length : Nat)) = ((i + 1 : Nat) : Int) by simp))⟩ rfl trivial (.inl rfl) (by omega) (by omega) rfl rfl (hn := LWo.nil ⟨rfl, .inl rfl, good0⟩), ?_⟩
        refine ⟨rfl, _, fun u hu hh => LWo.move _ hu.1 (hn := LWo.nil ⟨rfl, .inl rfl, good0⟩), ?_⟩
        refine ⟨rfl, _, fun u hu hh => LWo.move (.imm (.int _ _)) hu.1 (hn := LWo.nil ⟨rfl, .inl rfl, good0⟩), ?_⟩
        refine ⟨rfl, _, fun u hu hh => LWo.cutOwn (l := i) (h := xs.length + 1) u_Limpl_Tally s_impl_Tally hu.1 (hh _ _ rfl) rfl ⟨_, hu.2.1⟩ rfl trivial (.inl rfl) (by omega) (by omega) rfl rfl (hn := LWo.nil ⟨rfl, .inl rfl, good0⟩), ?_⟩
        refine ⟨rfl, _, _, fun u hu hh => LWo.copy (xs.drop i) u_Limpl_Tally s_impl_Tally hu.1 (by omega) (hh _ _ rfl) rfl rfl rfl (by simp; omega) (.own hu.2.1 (hh _ _ rfl) rfl rfl (by simp; omega) (by simp [List.take_of_length_le]) (by simp only [List.length_drop]; omega)) (by simp only [List.length_drop]; omega) (hn := LWo.nil ⟨rfl, .inl rfl, good0⟩), rfl, by kernel_rfl, hN23 _ ?_⟩
        refine LWP.seq_k fun N24 hN24 => ?_
        refine LWP.region (l := [_,_,_,_,_]) ?_
        refine LWo.move _ rfl (hn := ?_)
        refine LWo.move _ rfl (hn := ?_)
        refine LWo.cutOwn (l := i) (h := xs.length + 1) u_Limpl_Tally s_impl_Tally rfl rfl rfl ⟨_, rfl⟩ rfl trivial (.inl rfl) (by omega) (by omega) rfl rfl (hn := ?_)
        refine LWo.move _ rfl (hn := ?_)
        refine LWo.copy [v] u_Limpl_Tally s_impl_Tally rfl (by omega) rfl rfl rfl rfl (by simp; omega) (.sl rfl rfl rfl) (by simp; omega) (hn := ?_)
        refine LWo.nil (hN24 _ ?_)
        refine LWP.seq_k fun N25 hN25 => ?_
        refine LWP.region (l := [_,_]) ?_
        refine LWo.move _ rfl (hn := ?_)
        refine LWo.assign _ rfl (hn := ?_)
        refine LWo.nil (hN25 _ ?_)
        refine LWP.ret (QRet.own1 (.inr rfl) rfl rfl rfl rfl (by simp; omega) ⟨by refine congrArg (fun l => LV.nw 4 l false) ?_; simp only [Nat.zero_add, Nat.sub_zero]; exact ins_place hi hin, rfl⟩)

def m_slices_Insert_Limpl_Tally_impl_Tally (o0 : List S_impl_Tally) (a1 : Int) (a2 : List S_impl_Tally) : Option (List S_impl_Tally) :=
  match a2 with
  | [v] => if 0 ≤ a1 ∧ a1 ≤ o0.length ∧ o0.length ≤ 1000000000 then some (o0.take a1.toNat ++ v :: o0.drop a1.toNat) else none
  | _ => none
theorem c_slices_Insert_Limpl_Tally_impl_Tally (o0 : List S_impl_Tally) (a1 : Int) (a2 : List S_impl_Tally) (r : List S_impl_Tally) (h : m_slices_Insert_Limpl_Tally_impl_Tally o0 a1 a2 = some r) : Does Try.prog f_slices_Insert_Limpl_Tally_impl_Tally [.own 0 0 o0.length, e_int a1, .sl 4 (a2.map e_impl_Tally)] [(0, lob 4 e_impl_Tally o0)] (fun x hh => x = .nw 4 (r.map e_impl_Tally) false ∧ hh = []) := by
  unfold m_slices_Insert_Limpl_Tally_impl_Tally at h
  split at h
  · rename_i v
    split at h
    · rename_i h1
      cases h
      have := cc_slices_Insert_Limpl_Tally_impl_Tally (o0.map e_impl_Tally) (e_impl_Tally v) a1.toNat (by rw [List.length_map]; omega) rfl (by intro x hx; obtain ⟨y, _, rfl⟩ := List.mem_map.1 hx; rfl) (by rw [List.length_map]; omega)
      rw [List.length_map, Int.toNat_of_nonneg h1.1] at this
      have em : (o0.take a1.toNat ++ v :: o0.drop a1.toNat).map e_impl_Tally = (o0.map e_impl_Tally).take a1.toNat ++ e_impl_Tally v :: (o0.map e_impl_Tally).drop a1.toNat := by simp
      rw [em]
      exact this
    · cases h
  · cases h



def m_slices_Delete_Limpl_Tally_impl_Tally (o0 : List S_impl_Tally) (a1 a2 : Int) : Option (List S_impl_Tally) := if 0 ≤ a1 ∧ a1 ≤ a2 ∧ a2 ≤ o0.length ∧ o0.length ≤ 1000000000 then some (o0.take a1.toNat ++ o0.drop a2.toNat) else none
theorem c_slices_Delete_Limpl_Tally_impl_Tally (o0 : List S_impl_Tally) (a1 a2 : Int) (r : List S_impl_Tally) (h : m_slices_Delete_Limpl_Tally_impl_Tally o0 a1 a2 = some r) : Does Try.prog f_slices_Delete_Limpl_Tally_impl_Tally [.own 0 0 o0.length, e_int a1, e_int a2] [(0, lob 4 e_impl_Tally o0)] (fun x hh => x = .nw 4 (r.map e_impl_Tally) false ∧ hh = []) := by
  unfold m_slices_Delete_Limpl_Tally_impl_Tally at h
  split at h
  · rename_i h1
    cases h
    obtain ⟨i, rfl⟩ : ∃ i : Nat, a1 = i := ⟨a1.toNat, by omega⟩
    obtain ⟨j, rfl⟩ : ∃ j : Nat, a2 = j := ⟨a2.toNat, by omega⟩
    simp only [Int.toNat_natCast]
    refine Does.goG [0] F_slices_Delete_Limpl_Tally_impl_Tally rfl e_slices_Delete_Limpl_Tally_impl_Tally n_slices_Delete_Limpl_Tally_impl_Tally rfl (rvs := [.tmp 6]) rfl rfl ?_
    intro w0 ok0 lent ρ0
    refine LWP.rekey 0 0 1000 rfl rfl rfl rfl rfl rfl ?_
    refine LWP.tell [(0, .own 1000 0 o0.length), (1, e_int i), (2, e_int j)] [(1000, lob 4 e_impl_Tally o0)] ⟨rfl, rfl, rfl, trivial⟩ ⟨rfl, trivial⟩ (by simp [hkeys]) ?_
    refine LWP.seq_k fun N1 hN1 => ?_
    refine LWP.region (l := [_]) ?_
    refine LWo.assign _ rfl (hn := ?_)
    refine LWo.nil (hN1 _ ?_)
    refine LWP.seq_k fun N2 hN2 => ?_
    refine LWP.region (l := [_,_,_,_,_,_]) ?_
    refine LWo.move (.own 1000 0 o0.length) rfl (hn := ?_)
    refine LWo.move (e_int i) rfl (hn := ?_)
    refine LWo.move (e_int j) rfl (hn := ?_)
    refine LWo.move (.own 1000 0 o0.length) rfl (hn := ?_)
    refine LWo.lenO u_Limpl_Tally rfl (hn := ?_)
    refine LWo.cutOM3 (f := e_impl_Tally) (l := o0) (lo := (i : Int)) (hi := (j : Int)) (rng_of (by omega)) u_Limpl_Tally s_impl_Tally rfl rfl ⟨_, rfl⟩ rfl rfl (hn := ?_)
    refine LWo.nil (hN2 _ ?_)
    refine LWP.seq_k fun N4 hN4 => ?_
    refine LWP.seq_k fun N5 hN5 => ?_
    refine LWP.region (l := [_,_,_]) ?_
    refine LWo.move (e_int i) rfl (hn := ?_)
    refine LWo.move (e_int j) rfl (hn := ?_)
    refine LWo.int (.bool ((i : Int) == (j : Int))) rfl rfl rfl (hn := ?_)
    refine LWo.nil (hN5 _ ?_)
    refine LWP.cond_split rfl (fun h6 => ?_) (fun h6 => ?_)
    · refine LWP.seq_k fun N7 hN7 => ?_
      refine LWP.region (l := [_,_]) ?_
      refine LWo.move (.own 1000 0 o0.length) rfl (hn := ?_)
      refine LWo.assign (.own 1000 0 o0.length) rfl (hn := ?_)
      refine LWo.nil (hN7 _ ?_)
      have hij : i = j := by simp at h6; omega
      subst hij
      refine LWP.ret (QG.mk (.inr rfl) (.cons (.tmp (x := .own 1000 0 o0.length) rfl) .nil) (RetOK.one0 (.nwM rfl rfl) (by decide)) (congrArg (fun l => LV.nw 4 (List.map e_impl_Tally l) false) (by simp)) rfl)
    · refine LWP.skip (hN4 _ ?_)
      have hij : i < j := by
        have : ¬ i = j := by simp at h6; omega
        omega
      refine LWP.seq_k fun N8 hN8 => ?_
      refine LWP.region (l := [_,_,_]) ?_
      refine LWo.move (.own 1000 0 o0.length) rfl (hn := ?_)
      refine LWo.lenO u_Limpl_Tally rfl (hn := ?_)
      refine LWo.assign (e_int (o0.length : Int)) rfl (hn := ?_)
      refine LWo.ownCap 0 rfl (by omega) (ho := rfl) (fun c hc1 hc2 => ?_)
      refine LWo.nil (hN8 _ ?_)
      refine LWP.seq_k fun N9 hN9 => ?_
      refine LWP.drawE (l := [_,_,_,_,_,_,_,_]) [] [0, 1, 2, 7] [([0], []), ([1], []), ([20, 21], [1000]), ([0], []), ([2], []), ([23, 24], [1000]), ([22, 25], [1000]), ([26], [])] [0, 7] [1000] mixed (by kernel_rfl) rfl (by decide) ?_
      refine ⟨rfl, .put 20 _, trivial, fun u hg hu hh => LWo.move (.ownc 1000 0 o0.length c) hu.1 (hn := LWo.nil ⟨rfl, .inl rfl, hg⟩), ?_⟩
      refine ⟨rfl, .put 21 _, trivial, fun u hg hu hh => LWo.move (e_int i) hu.1 (hn := LWo.nil ⟨rfl, .inl rfl, hg⟩), ?_⟩
      refine ⟨rfl, .put 22 _, trivial, fun u hg hu hh => LWo.cutCC (h := i) u_Limpl_Tally s_impl_Tally hu.1 hh.1 rfl ⟨_, hu.2.1⟩ (by omega) (by omega) (hn := LWo.nil ⟨rfl, .inl rfl, hg⟩), ?_⟩
      refine ⟨rfl, .put 23 _, trivial, fun u hg hu hh => LWo.move (.ownc 1000 0 o0.length c) hu.1 (hn := LWo.nil ⟨rfl, .inl rfl, hg⟩), ?_⟩
      refine ⟨rfl, .put 24 _, trivial, fun u hg hu hh => LWo.move (e_int j) hu.1 (hn := LWo.nil ⟨rfl, .inl rfl, hg⟩), ?_⟩
      refine ⟨rfl, .put 25 _, trivial, fun u hg hu hh => LWo.cutC (l := j) (h := o0.length) u_Limpl_Tally s_impl_Tally hu.1 hh.1 rfl ⟨_, hu.2.1⟩ rfl (by omega) (by omega) rfl rfl (hn := LWo.nil ⟨rfl, .inl rfl, hg⟩), ?_⟩
      refine ⟨rfl, .upd (some 26) _ 1000 _, (fun _ h => by cases h), fun u hg hu hh => LWo.appendIn (f := e_impl_Tally) (l := o0) (m := (o0.drop (0 + j)).take (o0.length - j)) (by simp; omega) (by omega) u_Limpl_Tally u_Limpl_Tally (fun _ h => by cases h) s_impl_Tally hu.1 hh.1 (.cut hu.2.1 (by omega) hh.1 rfl) (hn := LWo.nil ⟨rfl, .inl rfl, Ef.good_ok (e := .upd (some 26) _ 1000 _) (fun _ h => by cases h) hg⟩), ?_⟩
      refine ⟨rfl, .put 0 _, trivial, fun u hg hu hh => LWo.assign _ hu.1 (hn := LWo.nil ⟨rfl, .inl rfl, hg⟩), ?_⟩
      refine ⟨rfl, by kernel_rfl, hN9 _ ?_⟩
      have hml : ((o0.drop (0 + j)).take (o0.length - j)).length = o0.length - j := by simp
      refine LWP.seq_k fun N10 hN10 => ?_
      refine LWP.region (l := [_,_,_,_,_,_]) ?_
      refine LWo.move (.ownc 1000 0 (i + ((o0.drop (0 + j)).take (o0.length - j)).length) c) rfl (hn := ?_)
      refine LWo.move (.ownc 1000 0 (i + ((o0.drop (0 + j)).take (o0.length - j)).length) c) rfl (hn := ?_)
      refine LWo.forgetC 28 rfl ?_
      refine LWo.lenO u_Limpl_Tally rfl (hn := ?_)
      refine LWo.move (e_int (o0.length : Int)) rfl (hn := ?_)
      refine LWo.cutC (l := i + ((o0.drop (0 + j)).take (o0.length - j)).length) (h := o0.length) u_Limpl_Tally s_impl_Tally rfl rfl rfl ⟨_, rfl⟩ ⟨_, rfl⟩ (by omega) (by omega) rfl rfl (hn := ?_)
      refine LWo.clearO (f := e_impl_Tally) (l := o0.take i ++ (o0.drop (0 + j)).take (o0.length - j)) none u_Limpl_Tally z_impl_Tally rfl rfl rfl rfl rfl (hn := ?_)
      refine LWo.nil (hN10 _ ?_)
      refine LWP.seq_k fun N11 hN11 => ?_
      refine LWP.region (l := [_,_]) ?_
      refine LWo.move (.ownc 1000 0 (i + ((o0.drop (0 + j)).take (o0.length - j)).length) c) rfl (hn := ?_)
      refine LWo.assign (.ownc 1000 0 (i + ((o0.drop (0 + j)).take (o0.length - j)).length) c) rfl (hn := ?_)
      refine LWo.forgetC 6 rfl ?_
      refine LWo.nil (hN11 _ ?_)
      refine LWP.ret (QG.mk (.inr rfl) (.cons (.tmp (x := .own 1000 0 (i + ((o0.drop (0 + j)).take (o0.length - j)).length)) rfl) .nil) (RetOK.one0 (.nwT (by simp; omega) rfl) (by decide)) (congrArg (fun l => LV.nw 4 (List.map e_impl_Tally l) false) ?_) rfl)
      have e1 : (o0.drop (0 + j)).take (o0.length - j) = o0.drop j := by
        rw [Nat.zero_add]; exact List.take_of_length_le (by simp)
      rw [e1, Nat.zero_add, List.take_take, Nat.min_self]
      exact List.take_of_length_le (by simp; omega)
  · cases h



def m_impl_tell_j4 (o1087 : (List S_impl_Tally)) : Option (List S_impl_Tally) :=
  some o1087
def m_impl_tell_j3 (t7 : Int) (t82 : Bool) (o1026 : (List S_impl_Tally)) : Option (List S_impl_Tally) :=
  bif t82 then ((ckI (t7 + (1 : Int))).bind fun x41 =>
    (m_slices_Delete_Limpl_Tally_impl_Tally o1026 t7 x41).bind fun x42 =>
    m_impl_tell_j4  x42)
  else (m_impl_tell_j4  o1026)
def m_impl_tell_j2 (t7 : Int) (t9 : Int) (o1026 : (List S_impl_Tally)) : Option (List S_impl_Tally) :=
  (at? o1026 t9).bind fun x35 =>
  bif (x35.Rows == (0 : Int)) then ((at? o1026 t9).bind fun x37 =>
    bif (x37.Many == (0 : Int)) then ((at? o1026 t9).bind fun x39 =>
      m_impl_tell_j3  t7 (x39.Sum == (0 : Int)) o1026)
    else (m_impl_tell_j3  t7 false o1026))
  else (m_impl_tell_j3  t7 false o1026)
def m_impl_tell_j1 (t1 : (List S_impl_Value)) (t2 : Int) (t7 : Int) (o1026 : (List S_impl_Tally)) : Option (List S_impl_Tally) :=
  (at? o1026 t7).bind fun x12 =>
  (at? o1026 t7).bind fun x14 =>
  (ckI (x14.Rows + t2)).bind fun x15 =>
  (at? o1026 t7).bind fun x16 =>
  lt ({ x16 with Rows := x15 }) fun y17 =>
  (at? t1 (1 : Int)).bind fun x20 =>
  bif (x20.Kind == (1 : Int)) then ((at? (o1026.set (t7).toNat y17) t7).bind fun x23 =>
    (ckI (x23.Many + t2)).bind fun x24 =>
    (at? (o1026.set (t7).toNat y17) t7).bind fun x25 =>
    lt ({ x25 with Many := x24 }) fun y26 =>
    (at? ((o1026.set (t7).toNat y17).set (t7).toNat y26) t7).bind fun x27 =>
    (at? t1 (1 : Int)).bind fun x28 =>
    (ckI (t2 * x28.N)).bind fun x29 =>
    (ckI (x27.Sum + x29)).bind fun x30 =>
    (at? ((o1026.set (t7).toNat y17).set (t7).toNat y26) t7).bind fun x31 =>
    lt ({ x31 with Sum := x30 }) fun y32 =>
    m_impl_tell_j2  t7 t7 (((o1026.set (t7).toNat y17).set (t7).toNat y26).set (t7).toNat y32))
  else (m_impl_tell_j2  t7 t7 (o1026.set (t7).toNat y17))
def m_impl_tell (o0 : (List S_impl_Tally)) (a1 : (List S_impl_Value)) (a2 : Int) : Option (List S_impl_Tally) :=
  (cut? a1 (0 : Int) (1 : Int)).bind fun x3 =>
  (m_slices_BinarySearchFunc_Limpl_Tally_impl_Tally_Limpl_Value o0 x3 (fun b0_ b1_ => m_impl_tell_1 b0_ b1_ )).bind fun x4 =>
  bif (!x4.2) then ((cut? a1 (0 : Int) (1 : Int)).bind fun x8 =>
    (m_impl_clone_impl_Value x8).bind fun x9 =>
    (m_slices_Insert_Limpl_Tally_impl_Tally o0 x4.1 ([(⟨x9, (0 : Int), (0 : Int), (0 : Int)⟩ : S_impl_Tally)] : (List S_impl_Tally))).bind fun x10 =>
    m_impl_tell_j1  a1 a2 x4.1 x10)
  else (m_impl_tell_j1  a1 a2 x4.1 o0)
theorem c_impl_tell (o0 : (List S_impl_Tally)) (a1 : (List S_impl_Value)) (a2 : Int) (r : (List S_impl_Tally)) (h : m_impl_tell o0 a1 a2 = some r) : Does Try.prog f_impl_tell [.own 0 0 o0.length, e_Limpl_Value a1, e_int a2] [(0, (lob 4 e_impl_Tally o0))] (fun x hh => x = .nw 4 (r.map e_impl_Tally) false ∧ hh = []) := by
  refine Does.goG [0] F_impl_tell rfl e_impl_tell n_impl_tell rfl (rvs := [.tmp 6]) rfl rfl ?_
  intro w0 ok0 lent ρ0
  refine LWP.rekey 0 0 1000 rfl rfl rfl rfl rfl rfl ?_
  refine LWP.tell [(0, (.own 1000 0 (o0).length)), (1, (e_Limpl_Value a1)), (2, (e_int a2))] [(1000, (lob 4 e_impl_Tally o0))] ⟨rfl, rfl, rfl, trivial⟩ ⟨rfl, trivial⟩ (by simp [hkeys]) ?_
  refine LWP.seq_k fun N1 hN1 => ?_
  refine LWP.region (l := [_]) ?_
  refine LWo.assign _ rfl (hn := ?_)
  refine LWo.ownNil 6 1006 4 rfl rfl rfl ?_
  refine LWo.known 6 (.own 1006 0 ([] : (List S_impl_Tally)).length) rfl ?_
  refine LWo.nil (hN1 _ ?_)
  refine LWP.seq_k fun N2 hN2 => ?_
  refine LWP.region (l := [_,_,_,_,_,_,_,_,_]) ?_
  refine LWo.move (.own 1000 0 (o0).length) rfl (hn := ?_)
  refine LWo.move (e_Limpl_Value a1) rfl (hn := ?_)
  refine bk h fun x3 e3 h => ?_
  refine LWo.cutM (f := e_impl_Value) e3 u_Limpl_Value s_impl_Value rfl rfl ⟨_, rfl⟩ (hn := ?_)
  refine bk h fun x4 e4 h => ?_
  refine LWo.wcall rfl rfl (c_slices_BinarySearchFunc_Limpl_Tally_impl_Tally_Limpl_Value _ _ _ f_impl_tell_1 [] (fun _ => rfl) (fun b0_ b1_ v hv => c_impl_tell_1 b0_ b1_  v hv) _ e4) (.viewM rfl rfl rfl (.same (.same (.nil)))) rfl (hn := ?_)
  refine LWo.move (.tup [(e_int x4.1), (e_bool x4.2)]) rfl (hn := ?_)
  refine LWo.extract (e_int x4.1) rfl rfl (hn := ?_)
  refine LWo.extract (e_bool x4.2) rfl rfl (hn := ?_)
  refine LWo.assign (e_int x4.1) rfl (hn := ?_)
  refine LWo.assign (e_bool x4.2) rfl (hn := ?_)
  refine LWo.nil (hN2 _ ?_)
  refine LWP.join (α := (List S_impl_Value) × Int × Int × (List S_impl_Tally)) (fun z : (List S_impl_Value) × Int × Int × (List S_impl_Tally) => [(0, (.own 1026 0 (z.2.2.2).length)), (1, (e_Limpl_Value z.1)), (2, (e_int z.2.1)), (7, (e_int z.2.2.1))]) (fun z : (List S_impl_Value) × Int × Int × (List S_impl_Tally) => [(1026, (lob 4 e_impl_Tally z.2.2.2))]) (fun z : (List S_impl_Value) × Int × Int × (List S_impl_Tally) => m_impl_tell_j1  z.1 z.2.1 z.2.2.1 z.2.2.2) r (fun _ => by simp [hkeys]) ?_ ?_
  ·rintro ⟨t1, t2, t7, o1026⟩ h
   replace h : m_impl_tell_j1  t1 t2 t7 o1026 = some _ := h
   refine LWP.seq_k fun N11 hN11 => ?_
   refine LWP.region (l := [_,_,_,_]) ?_
   refine LWo.move (.own 1026 0 (o1026).length) rfl (hn := ?_)
   refine LWo.move (e_int t7) rfl (hn := ?_)
   refine bk h fun x12 e12 h => ?_
   refine LWo.indexO e12 rfl u_Limpl_Tally s_impl_Tally rfl rfl rfl (hn := ?_)
   refine LWo.assign (.ptr 1026 (t7).toNat 0) rfl (hn := ?_)
   refine LWo.nil (hN11 _ ?_)
   refine LWP.seq_k fun N13 hN13 => ?_
   refine LWP.region (l := [_,_,_,_,_,_,_,_,_]) ?_
   refine LWo.move (.ptr 1026 (t7).toNat 0) rfl (hn := ?_)
   refine LWo.nilCheckPtr rfl (hn := ?_)
   refine LWo.fieldPtr u_impl_Tally rfl s_int rfl rfl (hn := ?_)
   refine bk h fun x14 e14 h => ?_
   refine LWo.loadO1 (e_int x14.Rows) e14 g_int rfl rfl rfl (hn := ?_)
   refine LWo.move (e_int t2) rfl (hn := ?_)
   refine bk h fun x15 e15 h => ?_
   refine LWo.int _ rfl rfl (add_ck e15) (hn := ?_)
   refine LWo.nilCheckPtr rfl (hn := ?_)
   refine LWo.fieldPtr u_impl_Tally rfl s_int rfl rfl (hn := ?_)
   refine bk h fun x16 e16 h => ?_
   refine lk h fun y17 e17 h => ?_
   refine LWo.storeO y17 e16 s_int rfl rfl rfl rfl rfl rfl rfl (by rw [e17]; rfl) (hn := ?_)
   refine LWo.nil (hN13 _ ?_)
   refine LWP.join (α := Int × Int × (List S_impl_Tally)) (fun z : Int × Int × (List S_impl_Tally) => [(0, (.own 1026 0 (z.2.2).length)), (7, (e_int z.1)), (9, (.ptr 1026 (z.2.1).toNat 0))]) (fun z : Int × Int × (List S_impl_Tally) => [(1026, (lob 4 e_impl_Tally z.2.2))]) (fun z : Int × Int × (List S_impl_Tally) => m_impl_tell_j2  z.1 z.2.1 z.2.2) r (fun _ => by simp [hkeys]) ?_ ?_
   ·rintro ⟨t7, t9, o1026⟩ h
    replace h : m_impl_tell_j2  t7 t9 o1026 = some _ := h
    refine LWP.join (α := (List S_impl_Tally)) (fun z : (List S_impl_Tally) => [(0, (.own 1087 0 (z).length))]) (fun z : (List S_impl_Tally) => [(1087, (lob 4 e_impl_Tally z))]) (fun z : (List S_impl_Tally) => m_impl_tell_j4  z) r (fun _ => by simp [hkeys]) ?_ ?_
    ·rintro o1087 h
     replace h : m_impl_tell_j4  o1087 = some _ := h
     refine LWP.seq_k fun N43 hN43 => ?_
     refine LWP.region (l := [_,_]) ?_
     refine LWo.move (.own 1087 0 (o1087).length) rfl (hn := ?_)
     refine LWo.assign (.own 1087 0 (o1087).length) rfl (hn := ?_)
     refine LWo.nil (hN43 _ ?_)
     obtain rfl := Option.some.inj h
     refine LWP.ret (QG.mk (.inr rfl) (.cons (.tmp (x := (.own 1087 0 (o1087).length)) rfl) (.nil)) (RetOK.one0 (.nwM rfl rfl) (by decide)) rfl rfl)
    ·intro N33 hN33
     refine LWP.join (α := Int × Bool × (List S_impl_Tally)) (fun z : Int × Bool × (List S_impl_Tally) => [(0, (.own 1026 0 (z.2.2).length)), (7, (e_int z.1)), (82, (e_bool z.2.1))]) (fun z : Int × Bool × (List S_impl_Tally) => [(1026, (lob 4 e_impl_Tally z.2.2))]) (fun z : Int × Bool × (List S_impl_Tally) => m_impl_tell_j3  z.1 z.2.1 z.2.2) r (fun _ => by simp [hkeys]) ?_ ?_
     ·rintro ⟨t7, t82, o1026⟩ h
      replace h : m_impl_tell_j3  t7 t82 o1026 = some _ := h
      refine LWP.cond_split rfl (fun h40 => ?_) (fun h40 => ?_)
      ·have h := bT h40 h
       refine LWP.region (l := [_,_,_,_,_,_]) ?_
       refine LWo.move (.own 1026 0 (o1026).length) rfl (hn := ?_)
       refine LWo.move (e_int t7) rfl (hn := ?_)
       refine LWo.move (e_int t7) rfl (hn := ?_)
       refine bk h fun x41 e41 h => ?_
       refine LWo.int _ rfl rfl (add_ck e41) (hn := ?_)
       refine bk h fun x42 e42 h => ?_
       refine LWo.tcallN (e := e_impl_Tally) (e' := e_impl_Tally) 1087 rfl rfl (c_slices_Delete_Limpl_Tally_impl_Tally _ _ _ _ e42) (fun _ => rfl) rfl rfl rfl rfl (hn := ?_)
       refine LWo.assign (.own 1087 0 (x42).length) rfl (hn := ?_)
       refine LWo.nil (hN33 x42 _ ⟨rfl, trivial⟩ ⟨rfl, trivial⟩ h)
      ·have h := bF h40 h
       refine LWP.rekey 0 1026 1087 rfl rfl rfl rfl rfl rfl ?_
       refine LWP.skip (hN33 o1026 _ ⟨rfl, trivial⟩ ⟨rfl, trivial⟩ h)
     ·intro N34 hN34
      refine LWP.region (l := [_,_,_,_,_,_,_,_,_,_,_,_,_,_,_,_,_,_,_]) ?_
      refine LWo.move (.ptr 1026 (t9).toNat 0) rfl (hn := ?_)
      refine LWo.nilCheckPtr rfl (hn := ?_)
      refine LWo.fieldPtr u_impl_Tally rfl s_int rfl rfl (hn := ?_)
      refine bk h fun x35 e35 h => ?_
      refine LWo.loadO1 (e_int x35.Rows) e35 g_int rfl rfl rfl (hn := ?_)
      refine LWo.int _ rfl rfl rfl (hn := ?_)
      refine LWo.move (e_bool (x35.Rows == (0 : Int))) rfl (hn := ?_)
      refine LWo.byCases (t := 69) _ rfl (fun h36 => ?_) (fun h36 => ?_)
      ·have h := bT h36 h
       refine LWo.guardY (t := 69) rfl h36 rfl rfl ?_
       refine LWo.move (.ptr 1026 (t9).toNat 0) rfl (hn := ?_)
       refine LWo.guardY (t := 69) rfl h36 rfl rfl ?_
       refine LWo.nilCheckPtr rfl (hn := ?_)
       refine LWo.guardY (t := 69) rfl h36 rfl rfl ?_
       refine LWo.fieldPtr u_impl_Tally rfl s_int rfl rfl (hn := ?_)
       refine bk h fun x37 e37 h => ?_
       refine LWo.guardY (t := 69) rfl h36 rfl rfl ?_
       refine LWo.loadO1 (e_int x37.Many) e37 g_int rfl rfl rfl (hn := ?_)
       refine LWo.guardY (t := 69) rfl h36 rfl rfl ?_
       refine LWo.int _ rfl rfl rfl (hn := ?_)
       refine LWo.pickTM (e_bool (x37.Many == (0 : Int))) rfl h36 rfl (hn := ?_)
       refine LWo.move (e_bool (x37.Many == (0 : Int))) rfl (hn := ?_)
       refine LWo.byCases (t := 76) _ rfl (fun h38 => ?_) (fun h38 => ?_)
       ·have h := bT h38 h
        refine LWo.guardY (t := 76) rfl h38 rfl rfl ?_
        refine LWo.move (.ptr 1026 (t9).toNat 0) rfl (hn := ?_)
        refine LWo.guardY (t := 76) rfl h38 rfl rfl ?_
        refine LWo.nilCheckPtr rfl (hn := ?_)
        refine LWo.guardY (t := 76) rfl h38 rfl rfl ?_
        refine LWo.fieldPtr u_impl_Tally rfl s_int rfl rfl (hn := ?_)
        refine bk h fun x39 e39 h => ?_
        refine LWo.guardY (t := 76) rfl h38 rfl rfl ?_
        refine LWo.loadO1 (e_int x39.Sum) e39 g_int rfl rfl rfl (hn := ?_)
        refine LWo.guardY (t := 76) rfl h38 rfl rfl ?_
        refine LWo.int _ rfl rfl rfl (hn := ?_)
        refine LWo.pickTM (e_bool (x39.Sum == (0 : Int))) rfl h38 rfl (hn := ?_)
        refine LWo.nil (hN34 (t7, (x39.Sum == (0 : Int)), o1026) _ ⟨rfl, rfl, rfl, trivial⟩ ⟨rfl, trivial⟩ h)
       ·have h := bF h38 h
        refine LWo.guardNU (t := 76) rfl h38 rfl rfl rfl rfl rfl ?_
        refine LWo.guardNU (t := 76) rfl h38 rfl rfl rfl rfl rfl ?_
        refine LWo.guardNU (t := 76) rfl h38 rfl rfl rfl rfl rfl ?_
        refine LWo.guardNU (t := 76) rfl h38 rfl rfl rfl rfl rfl ?_
        refine LWo.guardNU (t := 76) rfl h38 rfl rfl rfl rfl rfl ?_
        refine LWo.pickFM (e_bool false) rfl h38 rfl (hn := ?_)
        refine LWo.nil (hN34 (t7, false, o1026) _ ⟨rfl, rfl, rfl, trivial⟩ ⟨rfl, trivial⟩ h)
      ·have h := bF h36 h
       refine LWo.guardNU (t := 69) rfl h36 rfl rfl rfl rfl rfl ?_
       refine LWo.guardNU (t := 69) rfl h36 rfl rfl rfl rfl rfl ?_
       refine LWo.guardNU (t := 69) rfl h36 rfl rfl rfl rfl rfl ?_
       refine LWo.guardNU (t := 69) rfl h36 rfl rfl rfl rfl rfl ?_
       refine LWo.guardNU (t := 69) rfl h36 rfl rfl rfl rfl rfl ?_
       refine LWo.pickFM (e_bool false) rfl h36 rfl (hn := ?_)
       refine LWo.move (e_bool false) rfl (hn := ?_)
       refine LWo.guardNU (t := 76) rfl rfl rfl rfl rfl rfl rfl ?_
       refine LWo.guardNU (t := 76) rfl rfl rfl rfl rfl rfl rfl ?_
       refine LWo.guardNU (t := 76) rfl rfl rfl rfl rfl rfl rfl ?_
       refine LWo.guardNU (t := 76) rfl rfl rfl rfl rfl rfl rfl ?_
       refine LWo.guardNU (t := 76) rfl rfl rfl rfl rfl rfl rfl ?_
       refine LWo.pickFM (e_bool false) rfl rfl rfl (hn := ?_)
       refine LWo.nil (hN34 (t7, false, o1026) _ ⟨rfl, rfl, rfl, trivial⟩ ⟨rfl, trivial⟩ h)
   ·intro N18 hN18
    refine LWP.seq_k fun N19 hN19 => ?_
    refine LWP.region (l := [_,_,_,_,_]) ?_
    refine LWo.move (e_Limpl_Value t1) rfl (hn := ?_)
    refine bk h fun x20 e20 h => ?_
    refine LWo.indexM (f := e_impl_Value) e20 u_Limpl_Value s_impl_Value rfl rfl (hn := ?_)
    refine LWo.fieldAddr _ u_impl_Value rfl s_int rfl rfl (hn := ?_)
    refine LWo.load1 (c := (e_int x20.Kind)) g_int rfl (hn := ?_)
    refine LWo.int _ rfl rfl rfl (hn := ?_)
    refine LWo.nil (hN19 _ ?_)
    refine LWP.cond_split rfl (fun h21 => ?_) (fun h21 => ?_)
    ·have h := bT h21 h
     refine LWP.seq_k fun N22 hN22 => ?_
     refine LWP.region (l := [_,_,_,_,_,_,_,_,_]) ?_
     refine LWo.move (.ptr 1026 (t7).toNat 0) rfl (hn := ?_)
     refine LWo.nilCheckPtr rfl (hn := ?_)
     refine LWo.fieldPtr u_impl_Tally rfl s_int rfl rfl (hn := ?_)
     refine bk h fun x23 e23 h => ?_
     refine LWo.loadO1 (e_int x23.Many) e23 g_int rfl rfl rfl (hn := ?_)
     refine LWo.move (e_int t2) rfl (hn := ?_)
     refine bk h fun x24 e24 h => ?_
     refine LWo.int _ rfl rfl (add_ck e24) (hn := ?_)
     refine LWo.nilCheckPtr rfl (hn := ?_)
     refine LWo.fieldPtr u_impl_Tally rfl s_int rfl rfl (hn := ?_)
     refine bk h fun x25 e25 h => ?_
     refine lk h fun y26 e26 h => ?_
     refine LWo.storeO y26 e25 s_int rfl rfl rfl rfl rfl rfl rfl (by rw [e26]; rfl) (hn := ?_)
     refine LWo.nil (hN22 _ ?_)
     refine bk h fun x27 e27 h => ?_
     refine bk h fun x28 e28 h => ?_
     refine bk h fun x29 e29 h => ?_
     refine bk h fun x30 e30 h => ?_
     refine bk h fun x31 e31 h => ?_
     refine lk h fun y32 e32 h => ?_
     refine LWP.drawF (l := [_,_,_,_,_,_,_,_,_,_,_,_,_,_]) [] [0, 1, 2, 7, 9] [([9], []), ([51], []), ([52], []), ([53], [1026]), ([2], []), ([1], []), ([56], []), ([57], []), ([58], []), ([55, 59], []), ([54, 60], []), ([51], []), ([62], []), ([61, 63], [1026])] [0, 7, 9] [1026] mixed (by kernel_rfl) rfl (by decide) ?_
     refine dq 51 rfl (fun _ g u h => LWo.move (.ptr 1026 (t7).toNat 0) u.1 (hn := .nil (zn g))) ?_
     refine dq 52 rfl (fun _ g u h => LWo.nilCheckPtr u.1 (hn := .nil (zn g))) ?_
     refine dq 53 rfl (fun _ g u h => LWo.fieldPtr u_impl_Tally rfl s_int u.1 rfl (hn := .nil (zn g))) ?_
     refine dq 54 rfl (fun _ g u h => LWo.loadO1 (e_int x27.Sum) e27 g_int u.1 h.1 rfl (hn := .nil (zn g))) ?_
     refine dq 55 rfl (fun _ g u h => LWo.move (e_int t2) u.1 (hn := .nil (zn g))) ?_
     refine dq 56 rfl (fun _ g u h => LWo.move (e_Limpl_Value t1) u.1 (hn := .nil (zn g))) ?_
     refine dq 57 rfl (fun _ g u h => LWo.indexM (f := e_impl_Value) e28 u_Limpl_Value s_impl_Value u.1 rfl (hn := .nil (zn g))) ?_
     refine dq 58 rfl (fun _ g u h => LWo.fieldAddr _ u_impl_Value rfl s_int u.1 rfl (hn := .nil (zn g))) ?_
     refine dq 59 rfl (fun _ g u h => LWo.load1 (c := (e_int x28.N)) g_int u.1 (hn := .nil (zn g))) ?_
     refine dq 60 rfl (fun _ g u h => LWo.int _ u.1 u.2.1 (mul_ck e29) (hn := .nil (zn g))) ?_
     refine dq 61 rfl (fun _ g u h => LWo.int _ u.1 u.2.1 (add_ck e30) (hn := .nil (zn g))) ?_
     refine dq 62 rfl (fun _ g u h => LWo.nilCheckPtr u.1 (hn := .nil (zn g))) ?_
     refine dq 63 rfl (fun _ g u h => LWo.fieldPtr u_impl_Tally rfl s_int u.1 rfl (hn := .nil (zn g))) ?_
     refine ⟨rfl, .upd none .junk 1026 _, (fun _ h => by cases h), fun _ g u h => LWo.storeO y32 e31 s_int u.2.1 u.1 rfl rfl rfl h.1 rfl (by rw [e32]; rfl) (hn := LWo.nil ⟨rfl, .inl rfl, Ef.good_ok (e := .upd none .junk 1026 _) (fun _ h => by cases h) g⟩), ?_⟩
     refine ⟨rfl, by kernel_rfl, hN18 (t7, t7, (((o1026.set (t7).toNat y17).set (t7).toNat y26).set (t7).toNat y32)) _ ⟨(congrArg (LV.own 1026 0) ((List.length_set.symm.trans List.length_set.symm).trans List.length_set.symm)), rfl, rfl, trivial⟩ ⟨rfl, trivial⟩ h⟩
    ·have h := bF h21 h
     refine LWP.skip (hN18 (t7, t7, (o1026.set (t7).toNat y17)) _ ⟨(congrArg (LV.own 1026 0) List.length_set.symm), rfl, rfl, trivial⟩ ⟨rfl, trivial⟩ h)
  ·intro N5 hN5
   refine LWP.seq_k fun N6 hN6 => ?_
   refine LWP.region (l := [_,_]) ?_
   refine LWo.move (e_bool x4.2) rfl (hn := ?_)
   refine LWo.not rfl (hn := ?_)
   refine LWo.nil (hN6 _ ?_)
   refine LWP.cond_split rfl (fun h7 => ?_) (fun h7 => ?_)
   ·have h := bT h7 h
    refine LWP.region (l := [_,_,_,_,_,_,_,_,_]) ?_
    refine LWo.move (.own 1000 0 (o0).length) rfl (hn := ?_)
    refine LWo.move (e_int x4.1) rfl (hn := ?_)
    refine LWo.move (e_Limpl_Value a1) rfl (hn := ?_)
    refine bk h fun x8 e8 h => ?_
    refine LWo.cutM (f := e_impl_Value) e8 u_Limpl_Value s_impl_Value rfl rfl ⟨_, rfl⟩ (hn := ?_)
    refine bk h fun x9 e9 h => ?_
    refine LWo.vcall rfl rfl (c_impl_clone_impl_Value _ _ e9) (.same (.nil)) (hn := ?_)
    refine LWo.build_impl_Tally (parts := [_]) (⟨x9, (0 : Int), (0 : Int), (0 : Int)⟩ : S_impl_Tally) rfl rfl rfl .refl (hn := ?_)
    refine LWo.lit (ops := [_]) [(e_impl_Tally (⟨x9, (0 : Int), (0 : Int), (0 : Int)⟩ : S_impl_Tally))] u_Limpl_Tally s_impl_Tally z_impl_Tally rfl rfl rfl rfl rfl rfl (hn := ?_)
    refine bk h fun x10 e10 h => ?_
    refine LWo.tcallN (e := e_impl_Tally) (e' := e_impl_Tally) 1026 rfl rfl (c_slices_Insert_Limpl_Tally_impl_Tally _ _ _ _ e10) (fun _ => rfl) rfl rfl rfl rfl (hn := ?_)
    refine LWo.assign (.own 1026 0 (x10).length) rfl (hn := ?_)
    refine LWo.nil (hN5 (a1, a2, x4.1, x10) _ ⟨rfl, rfl, rfl, rfl, trivial⟩ ⟨rfl, trivial⟩ h)
   ·have h := bF h7 h
    refine LWP.rekey 0 1000 1026 rfl rfl rfl rfl rfl rfl ?_
    refine LWP.skip (hN5 (a1, a2, x4.1, o0) _ ⟨rfl, rfl, rfl, rfl, trivial⟩ ⟨rfl, trivial⟩ h)

def m_impl_TalliesTurned_j2 (o1013 : (List S_impl_Tally)) : Option ((List S_impl_Tally) × Bool) :=
  (m_impl_tallies o1013).bind fun x36 =>
  some (x36, true)
def m_impl_TalliesTurned_j1 (k1 : (List S_impl_Delta) → Int → Int → (List S_impl_Tally) → Option ((List S_impl_Tally) × Bool)) (t14 : (List S_impl_Delta)) (t15 : Int) (t16 : Int) (t34 : Bool) (o8 : S_impl_Delta) (o1013 : (List S_impl_Tally)) : Option ((List S_impl_Tally) × Bool) :=
  bif t34 then (some (([] : (List S_impl_Tally)), false))
  else ((m_impl_tell o1013 o8.Row o8.Many).bind fun x29 =>
  (m_impl_TalliesOk x29).bind fun x31 =>
  bif (!x31) then (some (([] : (List S_impl_Tally)), false))
  else ((ckI (t16 + (1 : Int))).bind fun x34 =>
  k1 t14 t15 x34 x29))
def m_impl_TalliesTurned_l1 : Nat → (List S_impl_Delta) → Int → Int → (List S_impl_Tally) → Option ((List S_impl_Tally) × Bool)
  | 0, _, _, _, _ => none
  | n1 + 1, t14, t15, t16, o1013 =>
    bif decide (t16 < t15) then ((at? t14 t16).bind fun x18 =>
    lt (x18) fun y19 =>
    (m_impl_counted y19.Row).bind fun x22 =>
    bif (!x22) then (m_impl_TalliesTurned_j1  (m_impl_TalliesTurned_l1  n1) t14 t15 t16 true y19 o1013)
    else (bif (y19.Many == (0 : Int)) then (m_impl_TalliesTurned_j1  (m_impl_TalliesTurned_l1  n1) t14 t15 t16 true y19 o1013)
      else ((m_impl_between y19.Many (-100 : Int) (100 : Int)).bind fun x25 =>
        m_impl_TalliesTurned_j1  (m_impl_TalliesTurned_l1  n1) t14 t15 t16 (!x25) y19 o1013)))
    else (m_impl_TalliesTurned_j2  o1013)
def m_impl_TalliesTurned (a0 : (List S_impl_Tally)) (a1 : (List S_impl_Delta)) : Option ((List S_impl_Tally) × Bool) :=
  (m_impl_TalliesOk a0).bind fun x4 =>
  bif (!x4) then (some (([] : (List S_impl_Tally)), false))
  else ((m_impl_tallies a0).bind fun x8 =>
  m_impl_TalliesTurned_l1  (((a1.length : Int) - (0 : Int)).toNat + 1) a1 (a1.length : Int) (0 : Int) x8)
theorem c_impl_TalliesTurned (a0 : (List S_impl_Tally)) (a1 : (List S_impl_Delta)) (r : ((List S_impl_Tally) × Bool)) (h : m_impl_TalliesTurned a0 a1 = some r) : Ret Try.prog f_impl_TalliesTurned [e_Limpl_Tally a0, e_Limpl_Delta a1] (.tup [.nw 4 (r.1.map e_impl_Tally) false, e_bool r.2]) := by
  refine Does.goG [] F_impl_TalliesTurned rfl e_impl_TalliesTurned n_impl_TalliesTurned rfl (rvs := [.tmp 4, .tmp 5]) rfl rfl ?_
  intro w0 ok0 lent ρ0
  refine LWP.seq_k fun N1 hN1 => ?_
  refine LWP.region (l := [_,_]) ?_
  refine LWo.assign _ rfl (hn := ?_)
  refine LWo.ownNil 4 1004 4 rfl rfl rfl ?_
  refine LWo.known 4 (.own 1004 0 ([] : (List S_impl_Tally)).length) rfl ?_
  refine LWo.assign (e_bool false) rfl (hn := ?_)
  refine LWo.nil (hN1 _ ?_)
  refine LWP.seq_k fun N2 hN2 => ?_
  refine LWP.seq_k fun N3 hN3 => ?_
  refine LWP.region (l := [_,_,_]) ?_
  refine LWo.move (e_Limpl_Tally a0) rfl (hn := ?_)
  refine bk h fun x4 e4 h => ?_
  refine LWo.vcall rfl rfl (c_impl_TalliesOk _ _ e4) (.same (.nil)) (hn := ?_)
  refine LWo.not rfl (hn := ?_)
  refine LWo.nil (hN3 _ ?_)
  refine LWP.cond_split rfl (fun h5 => ?_) (fun h5 => ?_)
  ·have h := bT h5 h
   refine LWP.seq_k fun N6 hN6 => ?_
   refine LWP.region (l := [_,_]) ?_
   refine LWo.assign _ rfl (hn := ?_)
   refine LWo.ownNil 4 1004 4 rfl rfl rfl ?_
   refine LWo.known 4 (.own 1004 0 ([] : (List S_impl_Tally)).length) rfl ?_
   refine LWo.assign (e_bool false) rfl (hn := ?_)
   refine LWo.nil (hN6 _ ?_)
   obtain rfl := Option.some.inj h
   refine LWP.ret (QG.mk (.inr rfl) (.cons (.tmp (x := (.own 1004 0 (([] : (List S_impl_Tally))).length)) rfl) (.cons (.tmp (x := (e_bool false)) rfl) (.nil))) (RetOK.many0 (.cons (.nwM rfl rfl) (.cons (.pure rfl) (.nil))) (by simp) (by decide)) rfl rfl)
  ·have h := bF h5 h
   refine LWP.skip (hN2 _ ?_)
   refine LWP.seq_k fun N7 hN7 => ?_
   refine LWP.region (l := [_,_,_]) ?_
   refine LWo.move (e_Limpl_Tally a0) rfl (hn := ?_)
   refine bk h fun x8 e8 h => ?_
   refine LWo.ncall (e := e_impl_Tally) 1013 rfl rfl (c_impl_tallies _ _ e8) (.same (.nil)) rfl (hn := ?_)
   refine LWo.assign (.own 1013 0 (x8).length) rfl (hn := ?_)
   refine LWo.nil (hN7 _ ?_)
   refine LWP.join (α := (List S_impl_Tally)) (fun z : (List S_impl_Tally) => [(6, (.own 1013 0 (z).length))]) (fun z : (List S_impl_Tally) => [(1013, (lob 4 e_impl_Tally z))]) (fun z : (List S_impl_Tally) => m_impl_TalliesTurned_j2  z) r (fun _ => by simp [hkeys]) ?_ ?_
   ·rintro o1013 h
    replace h : m_impl_TalliesTurned_j2  o1013 = some _ := h
    refine LWP.seq_k fun N35 hN35 => ?_
    refine LWP.region (l := [_,_,_,_]) ?_
    refine LWo.move (.own 1013 0 (o1013).length) rfl (hn := ?_)
    refine bk h fun x36 e36 h => ?_
    refine LWo.frzL (f := e_impl_Tally) (l := o1013) [6, 45] 1013 rfl rfl ⟨rfl, rfl, trivial⟩ ?_
    refine LWo.ncall (e := e_impl_Tally) 1046 rfl rfl (c_impl_tallies _ _ e36) (.same (.nil)) rfl (hn := ?_)
    refine LWo.assign (.own 1046 0 (x36).length) rfl (hn := ?_)
    refine LWo.assign (e_bool true) rfl (hn := ?_)
    refine LWo.nil (hN35 _ ?_)
    obtain rfl := Option.some.inj h
    refine LWP.ret (QG.mk (.inr rfl) (.cons (.tmp (x := (.own 1046 0 (x36).length)) rfl) (.cons (.tmp (x := (e_bool true)) rfl) (.nil))) (RetOK.many0 (.cons (.nwM rfl rfl) (.cons (.pure rfl) (.nil))) (by simp) (by decide)) rfl rfl)
   ·intro N9 hN9
    refine LWP.seq_k fun N10 hN10 => ?_
    refine LWP.region (l := [_,_,_]) ?_
    refine LWo.move (e_Limpl_Delta a1) rfl (hn := ?_)
    refine LWo.lenM (f := e_impl_Delta) (l := a1) u_Limpl_Delta rfl (hn := ?_)
    refine LWo.move (e_int (0 : Int)) rfl (hn := ?_)
    refine LWo.nil (hN10 _ ?_)
    refine LWP.block ?_
    refine LWP.loopM (α := (List S_impl_Delta) × Int × Int × (List S_impl_Tally)) (fun z : (List S_impl_Delta) × Int × Int × (List S_impl_Tally) => [(6, (.own 1013 0 (z.2.2.2).length)), (14, (e_Limpl_Delta z.1)), (15, (e_int z.2.1)), (16, (e_int z.2.2.1))]) (fun z : (List S_impl_Delta) × Int × Int × (List S_impl_Tally) => [(1013, (lob 4 e_impl_Tally z.2.2.2))]) (fun n1 (z : (List S_impl_Delta) × Int × Int × (List S_impl_Tally)) => m_impl_TalliesTurned_l1  n1 z.1 z.2.1 z.2.2.1 z.2.2.2) r _ (a1, (a1.length : Int), (0 : Int), x8) h (fun _ => rfl) (fun _ => by simp [hkeys]) ⟨rfl, rfl, rfl, rfl, trivial⟩ ⟨rfl, trivial⟩ ?_
    rintro n1 ⟨t14, t15, t16, o1013⟩ h N11 hN11
    replace h : m_impl_TalliesTurned_l1  (n1 + 1) t14 t15 t16 o1013 = some _ := h
    refine LWP.seq_k fun N13 hN13 => ?_
    refine LWP.region (l := [_]) ?_
    refine LWo.int _ rfl rfl rfl (hn := ?_)
    refine LWo.nil (hN13 _ ?_)
    refine LWP.seq_k fun N14 hN14 => ?_
    refine LWP.cond_split rfl (fun h15 => ?_) (fun h15 => ?_)
    ·have h := bT h15 h
     refine LWP.skip (hN14 _ ?_)
     refine LWP.seq_k fun N16 hN16 => ?_
     refine LWP.block ?_
     refine LWP.seq_k fun N17 hN17 => ?_
     refine LWP.region (l := [_,_,_,_]) ?_
     refine bk h fun x18 e18 h => ?_
     refine LWo.indexM (f := e_impl_Delta) e18 u_Limpl_Delta s_impl_Delta rfl rfl (hn := ?_)
     refine LWo.loadN ((e_impl_Delta x18)).cells g_impl_Delta s_impl_Delta rfl (Nat.le_of_ble_eq_true rfl) rfl (hn := ?_)
     refine LWo.alloc_impl_Delta 8 rfl (hn := ?_)
     refine lk h fun y19 e19 h => ?_
     refine LWo.storeW (y := (⟨[], (0 : Int)⟩ : S_impl_Delta)) y19 s_impl_Delta rfl rfl rfl rfl rfl rfl (by rw [e19]; exact .refl) rfl (hn := ?_)
     refine LWo.nil (hN17 _ ?_)
     refine LWP.seq_k fun N20 hN20 => ?_
     refine LWP.join (α := (List S_impl_Delta) × Int × Int × Bool × S_impl_Delta × (List S_impl_Tally)) (fun z : (List S_impl_Delta) × Int × Int × Bool × S_impl_Delta × (List S_impl_Tally) => [(6, (.own 1013 0 (z.2.2.2.2.2).length)), (8, (.ptr 8 0 0)), (14, (e_Limpl_Delta z.1)), (15, (e_int z.2.1)), (16, (e_int z.2.2.1)), (34, (e_bool z.2.2.2.1))]) (fun z : (List S_impl_Delta) × Int × Int × Bool × S_impl_Delta × (List S_impl_Tally) => [(8, (vob 2 e_impl_Delta z.2.2.2.2.1)), (1013, (lob 4 e_impl_Tally z.2.2.2.2.2))]) (fun z : (List S_impl_Delta) × Int × Int × Bool × S_impl_Delta × (List S_impl_Tally) => m_impl_TalliesTurned_j1  (m_impl_TalliesTurned_l1  n1) z.1 z.2.1 z.2.2.1 z.2.2.2.1 z.2.2.2.2.1 z.2.2.2.2.2) r (fun _ => by simp [hkeys]) ?_ ?_
     ·rintro ⟨t14, t15, t16, t34, o8, o1013⟩ h
      replace h : m_impl_TalliesTurned_j1  (m_impl_TalliesTurned_l1  n1) t14 t15 t16 t34 o8 o1013 = some _ := h
      refine LWP.cond_split rfl (fun h26 => ?_) (fun h26 => ?_)
      ·have h := bT h26 h
       refine LWP.seq_k fun N27 hN27 => ?_
       refine LWP.region (l := [_,_]) ?_
       refine LWo.assign _ rfl (hn := ?_)
       refine LWo.ownNil 4 1004 4 rfl rfl rfl ?_
       refine LWo.known 4 (.own 1004 0 ([] : (List S_impl_Tally)).length) rfl ?_
       refine LWo.assign (e_bool false) rfl (hn := ?_)
       refine LWo.nil (hN27 _ ?_)
       obtain rfl := Option.some.inj h
       refine LWP.ret (QG.mk (.inr rfl) (.cons (.tmp (x := (.own 1004 0 (([] : (List S_impl_Tally))).length)) rfl) (.cons (.tmp (x := (e_bool false)) rfl) (.nil))) (RetOK.many0 (.cons (.nwM rfl rfl) (.cons (.pure rfl) (.nil))) (by simp) (by decide)) rfl rfl)
      ·have h := bF h26 h
       refine LWP.skip (hN20 _ ?_)
       refine LWP.seq_k fun N28 hN28 => ?_
       refine LWP.region (l := [_,_,_,_,_,_,_]) ?_
       refine LWo.move (.own 1013 0 (o1013).length) rfl (hn := ?_)
       refine LWo.fieldPtr u_impl_Delta rfl s_Limpl_Value rfl rfl (hn := ?_)
       refine LWo.loadV1 (e_Limpl_Value o8.Row)  g_Limpl_Value rfl rfl rfl (hn := ?_)
       refine LWo.fieldPtr u_impl_Delta rfl s_int rfl rfl (hn := ?_)
       refine LWo.loadV1 (e_int o8.Many)  g_int rfl rfl rfl (hn := ?_)
       refine bk h fun x29 e29 h => ?_
       refine LWo.tcallN (e := e_impl_Tally) (e' := e_impl_Tally) 1040 rfl rfl (c_impl_tell _ _ _ _ e29) (fun _ => rfl) rfl rfl rfl rfl (hn := ?_)
       refine LWo.assign (.own 1040 0 (x29).length) rfl (hn := ?_)
       refine LWo.nil (hN28 _ ?_)
       refine LWP.seq_k fun N30 hN30 => ?_
       refine LWP.region (l := [_,_,_]) ?_
       refine LWo.move (.own 1040 0 (x29).length) rfl (hn := ?_)
       refine bk h fun x31 e31 h => ?_
       refine LWo.wcall rfl rfl (c_impl_TalliesOk _ _ e31) (.viewM rfl rfl rfl (.nil)) rfl (hn := ?_)
       refine LWo.not rfl (hn := ?_)
       refine LWo.nil (hN30 _ ?_)
       refine LWP.cond_split rfl (fun h32 => ?_) (fun h32 => ?_)
       ·have h := bT h32 h
        refine LWP.seq_k fun N33 hN33 => ?_
        refine LWP.region (l := [_,_]) ?_
        refine LWo.assign _ rfl (hn := ?_)
        refine LWo.ownNil 4 1004 4 rfl rfl rfl ?_
        refine LWo.known 4 (.own 1004 0 ([] : (List S_impl_Tally)).length) rfl ?_
        refine LWo.assign (e_bool false) rfl (hn := ?_)
        refine LWo.nil (hN33 _ ?_)
        obtain rfl := Option.some.inj h
        refine LWP.ret (QG.mk (.inr rfl) (.cons (.tmp (x := (.own 1004 0 (([] : (List S_impl_Tally))).length)) rfl) (.cons (.tmp (x := (e_bool false)) rfl) (.nil))) (RetOK.many0 (.cons (.nwM rfl rfl) (.cons (.pure rfl) (.nil))) (by simp) (by decide)) rfl rfl)
       ·have h := bF h32 h
        refine LWP.skip (hN16 _ ?_)
        refine LWP.region (l := [_,_]) ?_
        refine bk h fun x34 e34 h => ?_
        refine LWo.int _ rfl rfl (add_ck e34) (hn := ?_)
        refine LWo.move (e_int x34) rfl (hn := ?_)
        refine LWo.rekey 6 1040 1013 rfl rfl rfl rfl rfl rfl ?_
        refine LWo.nil (hN11 (t14, t15, x34, x29) _ ⟨rfl, rfl, rfl, rfl, trivial⟩ ⟨rfl, trivial⟩ h)
     ·intro N21 hN21
      refine LWP.region (l := [_,_,_,_,_,_,_,_,_,_,_,_,_,_,_]) ?_
      refine LWo.fieldPtr u_impl_Delta rfl s_Limpl_Value rfl rfl (hn := ?_)
      refine LWo.loadV1 (e_Limpl_Value y19.Row)  g_Limpl_Value rfl rfl rfl (hn := ?_)
      refine bk h fun x22 e22 h => ?_
      refine LWo.vcall rfl rfl (c_impl_counted _ _ e22) (.same (.nil)) (hn := ?_)
      refine LWo.not rfl (hn := ?_)
      refine LWo.move (e_bool (!x22)) rfl (hn := ?_)
      refine LWo.byCases (t := 24) _ rfl (fun h23 => ?_) (fun h23 => ?_)
      ·have h := bT h23 h
       refine LWo.guardNU (t := 24) rfl h23 rfl rfl rfl rfl rfl ?_
       refine LWo.guardNU (t := 24) rfl h23 rfl rfl rfl rfl rfl ?_
       refine LWo.guardNU (t := 24) rfl h23 rfl rfl rfl rfl rfl ?_
       refine LWo.pickTM (e_bool true) rfl h23 rfl (hn := ?_)
       refine LWo.move (e_bool true) rfl (hn := ?_)
       refine LWo.guardNU (t := 29) rfl rfl rfl rfl rfl rfl rfl ?_
       refine LWo.guardNU (t := 29) rfl rfl rfl rfl rfl rfl rfl ?_
       refine LWo.guardNU (t := 29) rfl rfl rfl rfl rfl rfl rfl ?_
       refine LWo.guardNU (t := 29) rfl rfl rfl rfl rfl rfl rfl ?_
       refine LWo.pickTM (e_bool true) rfl rfl rfl (hn := ?_)
       refine LWo.nil (hN21 (t14, t15, t16, true, y19, o1013) _ ⟨rfl, rfl, rfl, rfl, rfl, rfl, trivial⟩ ⟨rfl, rfl, trivial⟩ h)
      ·have h := bF h23 h
       refine LWo.guardY (t := 24) rfl h23 rfl rfl ?_
       refine LWo.fieldPtr u_impl_Delta rfl s_int rfl rfl (hn := ?_)
       refine LWo.guardY (t := 24) rfl h23 rfl rfl ?_
       refine LWo.loadV1 (e_int y19.Many)  g_int rfl rfl rfl (hn := ?_)
       refine LWo.guardY (t := 24) rfl h23 rfl rfl ?_
       refine LWo.int _ rfl rfl rfl (hn := ?_)
       refine LWo.pickFM (e_bool (y19.Many == (0 : Int))) rfl h23 rfl (hn := ?_)
       refine LWo.move (e_bool (y19.Many == (0 : Int))) rfl (hn := ?_)
       refine LWo.byCases (t := 29) _ rfl (fun h24 => ?_) (fun h24 => ?_)
       ·have h := bT h24 h
        refine LWo.guardNU (t := 29) rfl h24 rfl rfl rfl rfl rfl ?_
        refine LWo.guardNU (t := 29) rfl h24 rfl rfl rfl rfl rfl ?_
        refine LWo.guardNU (t := 29) rfl h24 rfl rfl rfl rfl rfl ?_
        refine LWo.guardNU (t := 29) rfl h24 rfl rfl rfl rfl rfl ?_
        refine LWo.pickTM (e_bool true) rfl h24 rfl (hn := ?_)
        refine LWo.nil (hN21 (t14, t15, t16, true, y19, o1013) _ ⟨rfl, rfl, rfl, rfl, rfl, rfl, trivial⟩ ⟨rfl, rfl, trivial⟩ h)
       ·have h := bF h24 h
        refine LWo.guardY (t := 29) rfl h24 rfl rfl ?_
        refine LWo.fieldPtr u_impl_Delta rfl s_int rfl rfl (hn := ?_)
        refine LWo.guardY (t := 29) rfl h24 rfl rfl ?_
        refine LWo.loadV1 (e_int y19.Many)  g_int rfl rfl rfl (hn := ?_)
        refine bk h fun x25 e25 h => ?_
        refine LWo.guardY (t := 29) rfl h24 rfl rfl ?_
        refine LWo.vcall rfl rfl (c_impl_between _ _ _ _ e25) (.same (.same (.same (.nil)))) (hn := ?_)
        refine LWo.guardY (t := 29) rfl h24 rfl rfl ?_
        refine LWo.not rfl (hn := ?_)
        refine LWo.pickFM (e_bool (!x25)) rfl h24 rfl (hn := ?_)
        refine LWo.nil (hN21 (t14, t15, t16, (!x25), y19, o1013) _ ⟨rfl, rfl, rfl, rfl, rfl, rfl, trivial⟩ ⟨rfl, rfl, trivial⟩ h)
    ·have h := bF h15 h
     refine LWP.exit (hN9 o1013 _ ⟨rfl, trivial⟩ ⟨rfl, trivial⟩ h)

def m_spec_TalliesOk_j2  : Option Bool :=
  some true
def m_spec_TalliesOk_j1 (k1 : (List S_impl_Tally) → Int → Option Bool) (t0 : (List S_impl_Tally)) (t3 : Int) (t66 : Bool) : Option Bool :=
  bif t66 then (some false)
  else ((ckI (t3 + (1 : Int))).bind fun x31 =>
  k1 t0 x31)
def m_spec_TalliesOk_l1 : Nat → (List S_impl_Tally) → Int → Option Bool
  | 0, _, _ => none
  | n1 + 1, t0, t3 =>
    bif decide (t3 < (t0.length : Int)) then ((at? t0 t3).bind fun x11 =>
    lt (x11) fun y12 =>
    (m_spec_RowOk y12.Key).bind fun x14 =>
    bif (!x14) then (m_spec_TalliesOk_j1  (m_spec_TalliesOk_l1  n1) t0 t3 true)
    else (bif ((y12.Key.length : Int) != (1 : Int)) then (m_spec_TalliesOk_j1  (m_spec_TalliesOk_l1  n1) t0 t3 true)
      else ((m_spec_l1In y12.Rows (1 : Int) (100 : Int)).bind fun x17 =>
        bif (!x17) then (m_spec_TalliesOk_j1  (m_spec_TalliesOk_l1  n1) t0 t3 true)
        else ((m_spec_l1In y12.Many (0 : Int) y12.Rows).bind fun x19 =>
          bif (!x19) then (m_spec_TalliesOk_j1  (m_spec_TalliesOk_l1  n1) t0 t3 true)
          else ((ckI ((-9999 : Int) * y12.Many)).bind fun x21 =>
            (ckI ((9999 : Int) * y12.Many)).bind fun x22 =>
            (m_spec_l1In y12.Sum x21 x22).bind fun x23 =>
            bif (!x23) then (m_spec_TalliesOk_j1  (m_spec_TalliesOk_l1  n1) t0 t3 true)
            else (bif decide (t3 > (0 : Int)) then ((ckI (t3 - (1 : Int))).bind fun x26 =>
                (at? t0 x26).bind fun x27 =>
                (m_spec_RowOrder x27.Key y12.Key).bind fun x28 =>
                m_spec_TalliesOk_j1  (m_spec_TalliesOk_l1  n1) t0 t3 (decide (x28 ≥ (0 : Int))))
              else (m_spec_TalliesOk_j1  (m_spec_TalliesOk_l1  n1) t0 t3 false)))))))
    else (m_spec_TalliesOk_j2  )
def m_spec_TalliesOk (a0 : (List S_impl_Tally)) : Option Bool :=
  m_spec_TalliesOk_l1  (((a0.length : Int) - (0 : Int)).toNat + 1) a0 (0 : Int)
theorem c_spec_TalliesOk (a0 : (List S_impl_Tally)) (r : Bool) (h : m_spec_TalliesOk a0 = some r) : Ret Try.prog f_spec_TalliesOk [e_Limpl_Tally a0] (e_bool r) := by
  refine Does.goG [] F_spec_TalliesOk rfl e_spec_TalliesOk n_spec_TalliesOk rfl (rvs := [.tmp 2]) rfl rfl ?_
  intro w0 ok0 lent ρ0
  refine LWP.seq_k fun N1 hN1 => ?_
  refine LWP.region (l := [_]) ?_
  refine LWo.assign (e_bool false) rfl (hn := ?_)
  refine LWo.nil (hN1 _ ?_)
  refine LWP.join (α := Unit) (fun z : Unit => []) (fun z : Unit => []) (fun z : Unit => m_spec_TalliesOk_j2  ) r (fun _ => by simp [hkeys]) ?_ ?_
  ·rintro _ h
   replace h : m_spec_TalliesOk_j2   = some _ := h
   refine LWP.seq_k fun N32 hN32 => ?_
   refine LWP.region (l := [_]) ?_
   refine LWo.assign (e_bool true) rfl (hn := ?_)
   refine LWo.nil (hN32 _ ?_)
   obtain rfl := Option.some.inj h
   refine LWP.ret (QG.mk (.inr rfl) (.cons (.tmp (x := (e_bool true)) rfl) (.nil)) (RetOK.one0 (.pure rfl) (by decide)) rfl rfl)
  ·intro N2 hN2
   refine LWP.seq_k fun N3 hN3 => ?_
   refine LWP.region (l := [_]) ?_
   refine LWo.assign (e_int (0 : Int)) rfl (hn := ?_)
   refine LWo.nil (hN3 _ ?_)
   refine LWP.block ?_
   refine LWP.loopM (α := (List S_impl_Tally) × Int) (fun z : (List S_impl_Tally) × Int => [(0, (e_Limpl_Tally z.1)), (3, (e_int z.2))]) (fun z : (List S_impl_Tally) × Int => []) (fun n1 (z : (List S_impl_Tally) × Int) => m_spec_TalliesOk_l1  n1 z.1 z.2) r _ (a0, (0 : Int)) h (fun _ => rfl) (fun _ => by simp [hkeys]) ⟨rfl, rfl, trivial⟩ trivial ?_
   rintro n1 ⟨t0, t3⟩ h N4 hN4
   replace h : m_spec_TalliesOk_l1  (n1 + 1) t0 t3 = some _ := h
   refine LWP.seq_k fun N6 hN6 => ?_
   refine LWP.seq_k fun N7 hN7 => ?_
   refine LWP.region (l := [_,_,_,_]) ?_
   refine LWo.move (e_int t3) rfl (hn := ?_)
   refine LWo.move (e_Limpl_Tally t0) rfl (hn := ?_)
   refine LWo.lenM (f := e_impl_Tally) (l := t0) u_Limpl_Tally rfl (hn := ?_)
   refine LWo.int _ rfl rfl rfl (hn := ?_)
   refine LWo.nil (hN7 _ ?_)
   refine LWP.cond_split rfl (fun h8 => ?_) (fun h8 => ?_)
   ·have h := bT h8 h
    refine LWP.skip (hN6 _ ?_)
    refine LWP.seq_k fun N9 hN9 => ?_
    refine LWP.block ?_
    refine LWP.seq_k fun N10 hN10 => ?_
    refine LWP.region (l := [_,_,_,_,_,_]) ?_
    refine LWo.move (e_Limpl_Tally t0) rfl (hn := ?_)
    refine LWo.move (e_int t3) rfl (hn := ?_)
    refine bk h fun x11 e11 h => ?_
    refine LWo.indexM (f := e_impl_Tally) e11 u_Limpl_Tally s_impl_Tally rfl rfl (hn := ?_)
    refine LWo.loadN ((e_impl_Tally x11)).cells g_impl_Tally s_impl_Tally rfl (Nat.le_of_ble_eq_true rfl) rfl (hn := ?_)
    refine LWo.alloc_impl_Tally 4 rfl (hn := ?_)
    refine lk h fun y12 e12 h => ?_
    refine LWo.storeW (y := (⟨[], (0 : Int), (0 : Int), (0 : Int)⟩ : S_impl_Tally)) y12 s_impl_Tally rfl rfl rfl rfl rfl rfl (by rw [e12]; exact .refl) rfl (hn := ?_)
    refine LWo.nil (hN10 _ ?_)
    refine LWP.join (α := (List S_impl_Tally) × Int × Bool) (fun z : (List S_impl_Tally) × Int × Bool => [(0, (e_Limpl_Tally z.1)), (3, (e_int z.2.1)), (66, (e_bool z.2.2))]) (fun z : (List S_impl_Tally) × Int × Bool => []) (fun z : (List S_impl_Tally) × Int × Bool => m_spec_TalliesOk_j1  (m_spec_TalliesOk_l1  n1) z.1 z.2.1 z.2.2) r (fun _ => by simp [hkeys]) ?_ ?_
    ·rintro ⟨t0, t3, t66⟩ h
     replace h : m_spec_TalliesOk_j1  (m_spec_TalliesOk_l1  n1) t0 t3 t66 = some _ := h
     refine LWP.cond_split rfl (fun h29 => ?_) (fun h29 => ?_)
     ·have h := bT h29 h
      refine LWP.seq_k fun N30 hN30 => ?_
      refine LWP.region (l := [_]) ?_
      refine LWo.assign (e_bool false) rfl (hn := ?_)
      refine LWo.nil (hN30 _ ?_)
      obtain rfl := Option.some.inj h
      refine LWP.ret (QG.mk (.inr rfl) (.cons (.tmp (x := (e_bool false)) rfl) (.nil)) (RetOK.one0 (.pure rfl) (by decide)) rfl rfl)
     ·have h := bF h29 h
      refine LWP.skip (hN9 _ ?_)
      refine LWP.region (l := [_,_,_]) ?_
      refine LWo.move (e_int t3) rfl (hn := ?_)
      refine bk h fun x31 e31 h => ?_
      refine LWo.int _ rfl rfl (add_ck e31) (hn := ?_)
      refine LWo.assign (e_int x31) rfl (hn := ?_)
      refine LWo.nil (hN4 (t0, x31) _ ⟨rfl, rfl, trivial⟩ trivial h)
    ·intro N13 hN13
     refine bk h fun x14 e14 h => ?_
     refine bS ((!x14)) (fun h15 => ?_) (fun h15 => ?_)
     ·have h := bT h15 h
      refine LWP.drawF (l := [_,_,_,_,_,_,_,_,_,_,_,_,_,_,_,_,_,_,_,_,_,_,_,_,_,_,_,_,_,_,_,_,_,_,_,_,_,_,_,_,_,_,_,_,_,_,_,_,_,_,_,_]) [] [0, 3, 4] [([4], []), ([15], [4]), ([16], []), ([17], []), ([18], []), ([4, 19], []), ([19, 20], []), ([19, 21], []), ([19, 22], []), ([19, 23], []), ([24], []), ([4, 25], []), ([25, 26], []), ([25, 27], []), ([25, 28], []), ([25, 29], []), ([30], []), ([4, 31], []), ([31, 32], []), ([4, 31], []), ([31, 34], []), ([31, 33, 35], []), ([31, 36], []), ([31, 37], []), ([38], []), ([4, 39], []), ([39, 40], []), ([4, 39], []), ([39, 42], []), ([39, 43], []), ([4, 39], []), ([39, 45], []), ([39, 46], []), ([39, 41, 44, 47], []), ([39, 48], []), ([39, 49], []), ([50], []), ([3, 51], []), ([51, 52], []), ([51, 53], []), ([0, 54], []), ([3, 54], []), ([54, 56], []), ([54, 55, 57], []), ([54, 58], []), ([54, 59], []), ([4, 54], []), ([54, 61], []), ([54, 60, 62], []), ([54, 63], []), ([51, 54, 64], []), ([51, 65], [])] [0, 3, 66] [] mixed (by kernel_rfl) rfl (by decide) ?_
      refine dq 15 rfl (fun _ g u h => LWo.fieldPtr u_impl_Tally rfl s_Limpl_Value u.1 rfl (hn := .nil (zn g))) ?_
      refine dq 16 rfl (fun _ g u h => LWo.loadV1 (e_Limpl_Value y12.Key)  g_Limpl_Value u.1 h.1 rfl (hn := .nil (zn g))) ?_
      refine dq 17 rfl (fun _ g u h => LWo.vcall rfl (av1 u.1) (c_spec_RowOk _ _ e14) (.same (.nil)) (hn := .nil (zn g))) ?_
      refine dq 18 rfl (fun _ g u h => LWo.not u.1 (hn := .nil (zn g))) ?_
      refine dq 19 rfl (fun _ g u h => LWo.move (e_bool (!x14)) u.1 (hn := .nil (zn g))) ?_
      refine dq 20 rfl (fun _ g u h => LWo.guardNU (t := 19) u.2.1 h15 rfl rfl rfl rfl rfl (.nil (zn g))) ?_
      refine dq 21 rfl (fun _ g u h => LWo.guardNU (t := 19) u.1 h15 rfl rfl rfl rfl rfl (.nil (zn g))) ?_
      refine dq 22 rfl (fun _ g u h => LWo.guardNU (t := 19) u.1 h15 rfl rfl rfl rfl rfl (.nil (zn g))) ?_
      refine dq 23 rfl (fun _ g u h => LWo.guardNU (t := 19) u.1 h15 rfl rfl rfl rfl rfl (.nil (zn g))) ?_
      refine dq 24 rfl (fun _ g u h => LWo.pickTM (e_bool true) u.1 h15 rfl (hn := .nil (zn g))) ?_
      refine dq 25 rfl (fun _ g u h => LWo.move (e_bool true) u.1 (hn := .nil (zn g))) ?_
      refine dq 26 rfl (fun _ g u h => LWo.guardNU (t := 25) u.2.1 rfl rfl rfl rfl rfl rfl (.nil (zn g))) ?_
      refine dq 27 rfl (fun _ g u h => LWo.guardNU (t := 25) u.1 rfl rfl rfl rfl rfl rfl (.nil (zn g))) ?_
      refine dq 28 rfl (fun _ g u h => LWo.guardNU (t := 25) u.1 rfl rfl rfl rfl rfl rfl (.nil (zn g))) ?_
      refine dq 29 rfl (fun _ g u h => LWo.guardNU (t := 25) u.1 rfl rfl rfl rfl rfl rfl (.nil (zn g))) ?_
      refine dq 30 rfl (fun _ g u h => LWo.pickTM (e_bool true) u.1 rfl rfl (hn := .nil (zn g))) ?_
      refine dq 31 rfl (fun _ g u h => LWo.move (e_bool true) u.1 (hn := .nil (zn g))) ?_
      refine dq 32 rfl (fun _ g u h => LWo.guardNU (t := 31) u.2.1 rfl rfl rfl rfl rfl rfl (.nil (zn g))) ?_
      refine dq 33 rfl (fun _ g u h => LWo.guardNU (t := 31) u.1 rfl rfl rfl rfl rfl rfl (.nil (zn g))) ?_
      refine dq 34 rfl (fun _ g u h => LWo.guardNU (t := 31) u.2.1 rfl rfl rfl rfl rfl rfl (.nil (zn g))) ?_
      refine dq 35 rfl (fun _ g u h => LWo.guardNU (t := 31) u.1 rfl rfl rfl rfl rfl rfl (.nil (zn g))) ?_
      refine dq 36 rfl (fun _ g u h => LWo.guardNU (t := 31) u.1 rfl rfl rfl rfl rfl rfl (.nil (zn g))) ?_
      refine dq 37 rfl (fun _ g u h => LWo.guardNU (t := 31) u.1 rfl rfl rfl rfl rfl rfl (.nil (zn g))) ?_
      refine dq 38 rfl (fun _ g u h => LWo.pickTM (e_bool true) u.1 rfl rfl (hn := .nil (zn g))) ?_
      refine dq 39 rfl (fun _ g u h => LWo.move (e_bool true) u.1 (hn := .nil (zn g))) ?_
      refine dq 40 rfl (fun _ g u h => LWo.guardNU (t := 39) u.2.1 rfl rfl rfl rfl rfl rfl (.nil (zn g))) ?_
      refine dq 41 rfl (fun _ g u h => LWo.guardNU (t := 39) u.1 rfl rfl rfl rfl rfl rfl (.nil (zn g))) ?_
      refine dq 42 rfl (fun _ g u h => LWo.guardNU (t := 39) u.2.1 rfl rfl rfl rfl rfl rfl (.nil (zn g))) ?_
      refine dq 43 rfl (fun _ g u h => LWo.guardNU (t := 39) u.1 rfl rfl rfl rfl rfl rfl (.nil (zn g))) ?_
      refine dq 44 rfl (fun _ g u h => LWo.guardNU (t := 39) u.1 rfl rfl rfl rfl rfl rfl (.nil (zn g))) ?_
      refine dq 45 rfl (fun _ g u h => LWo.guardNU (t := 39) u.2.1 rfl rfl rfl rfl rfl rfl (.nil (zn g))) ?_
      refine dq 46 rfl (fun _ g u h => LWo.guardNU (t := 39) u.1 rfl rfl rfl rfl rfl rfl (.nil (zn g))) ?_
      refine dq 47 rfl (fun _ g u h => LWo.guardNU (t := 39) u.1 rfl rfl rfl rfl rfl rfl (.nil (zn g))) ?_
      refine dq 48 rfl (fun _ g u h => LWo.guardNU (t := 39) u.1 rfl rfl rfl rfl rfl rfl (.nil (zn g))) ?_
      refine dq 49 rfl (fun _ g u h => LWo.guardNU (t := 39) u.1 rfl rfl rfl rfl rfl rfl (.nil (zn g))) ?_
      refine dq 50 rfl (fun _ g u h => LWo.pickTM (e_bool true) u.1 rfl rfl (hn := .nil (zn g))) ?_
      refine dq 51 rfl (fun _ g u h => LWo.move (e_bool true) u.1 (hn := .nil (zn g))) ?_
      refine dq 52 rfl (fun _ g u h => LWo.guardNU (t := 51) u.2.1 rfl rfl rfl rfl rfl rfl (.nil (zn g))) ?_
      refine dq 53 rfl (fun _ g u h => LWo.guardNU (t := 51) u.1 rfl rfl rfl rfl rfl rfl (.nil (zn g))) ?_
      refine dq 54 rfl (fun _ g u h => LWo.guardNU (t := 51) u.1 rfl rfl rfl rfl rfl rfl (.nil (zn g))) ?_
      refine dq 55 rfl (fun _ g u h => LWo.guardU (t := 54) u.2.1 rfl rfl rfl rfl (.nil (zn g))) ?_
      refine dq 56 rfl (fun _ g u h => LWo.guardU (t := 54) u.2.1 rfl rfl rfl rfl (.nil (zn g))) ?_
      refine dq 57 rfl (fun _ g u h => LWo.guardU (t := 54) u.1 rfl rfl rfl rfl (.nil (zn g))) ?_
      refine dq 58 rfl (fun _ g u h => LWo.guardU (t := 54) u.1 rfl rfl rfl rfl (.nil (zn g))) ?_
      refine dq 59 rfl (fun _ g u h => LWo.guardU (t := 54) u.1 rfl rfl rfl rfl (.nil (zn g))) ?_
      refine dq 60 rfl (fun _ g u h => LWo.guardU (t := 54) u.1 rfl rfl rfl rfl (.nil (zn g))) ?_
      refine dq 61 rfl (fun _ g u h => LWo.guardU (t := 54) u.2.1 rfl rfl rfl rfl (.nil (zn g))) ?_
      refine dq 62 rfl (fun _ g u h => LWo.guardU (t := 54) u.1 rfl rfl rfl rfl (.nil (zn g))) ?_
      refine dq 63 rfl (fun _ g u h => LWo.guardU (t := 54) u.1 rfl rfl rfl rfl (.nil (zn g))) ?_
      refine dq 64 rfl (fun _ g u h => LWo.guardU (t := 54) u.1 rfl rfl rfl rfl (.nil (zn g))) ?_
      refine dq 65 rfl (fun _ g u h => LWo.guardNU (t := 51) u.1 rfl rfl rfl rfl rfl rfl (.nil (zn g))) ?_
      refine dq 66 rfl (fun _ g u h => LWo.pickTM (e_bool true) u.1 rfl rfl (hn := .nil (zn g))) ?_
      refine ⟨rfl, by kernel_rfl, hN13 (t0, t3, true) _ ⟨rfl, rfl, rfl, trivial⟩ trivial h⟩
     ·have h := bF h15 h
      refine bS (((y12.Key.length : Int) != (1 : Int))) (fun h16 => ?_) (fun h16 => ?_)
      ·have h := bT h16 h
       refine LWP.drawF (l := [_,_,_,_,_,_,_,_,_,_,_,_,_,_,_,_,_,_,_,_,_,_,_,_,_,_,_,_,_,_,_,_,_,_,_,_,_,_,_,_,_,_,_,_,_,_,_,_,_,_,_,_]) [] [0, 3, 4] [([4], []), ([15], [4]), ([16], []), ([17], []), ([18], []), ([4, 19], []), ([19, 20], [4]), ([19, 21], []), ([19, 22], []), ([19, 23], []), ([24], []), ([4, 25], []), ([25, 26], []), ([25, 27], []), ([25, 28], []), ([25, 29], []), ([30], []), ([4, 31], []), ([31, 32], []), ([4, 31], []), ([31, 34], []), ([31, 33, 35], []), ([31, 36], []), ([31, 37], []), ([38], []), ([4, 39], []), ([39, 40], []), ([4, 39], []), ([39, 42], []), ([39, 43], []), ([4, 39], []), ([39, 45], []), ([39, 46], []), ([39, 41, 44, 47], []), ([39, 48], []), ([39, 49], []), ([50], []), ([3, 51], []), ([51, 52], []), ([51, 53], []), ([0, 54], []), ([3, 54], []), ([54, 56], []), ([54, 55, 57], []), ([54, 58], []), ([54, 59], []), ([4, 54], []), ([54, 61], []), ([54, 60, 62], []), ([54, 63], []), ([51, 54, 64], []), ([51, 65], [])] [0, 3, 66] [] mixed (by kernel_rfl) rfl (by decide) ?_
       refine dq 15 rfl (fun _ g u h => LWo.fieldPtr u_impl_Tally rfl s_Limpl_Value u.1 rfl (hn := .nil (zn g))) ?_
       refine dq 16 rfl (fun _ g u h => LWo.loadV1 (e_Limpl_Value y12.Key)  g_Limpl_Value u.1 h.1 rfl (hn := .nil (zn g))) ?_
       refine dq 17 rfl (fun _ g u h => LWo.vcall rfl (av1 u.1) (c_spec_RowOk _ _ e14) (.same (.nil)) (hn := .nil (zn g))) ?_
       refine dq 18 rfl (fun _ g u h => LWo.not u.1 (hn := .nil (zn g))) ?_
       refine dq 19 rfl (fun _ g u h => LWo.move (e_bool (!x14)) u.1 (hn := .nil (zn g))) ?_
       refine dq 20 rfl (fun _ g u h => LWo.guardY (t := 19) u.2.1 h15 rfl rfl (LWo.fieldPtr u_impl_Tally rfl s_Limpl_Value u.1 rfl (hn := .nil (zn g)))) ?_
       refine dq 21 rfl (fun _ g u h => LWo.guardY (t := 19) u.1 h15 rfl rfl (LWo.loadV1 (e_Limpl_Value y12.Key)  g_Limpl_Value u.2.1 h.1 rfl (hn := .nil (zn g)))) ?_
       refine dq 22 rfl (fun _ g u h => LWo.guardY (t := 19) u.1 h15 rfl rfl (LWo.lenM (f := e_impl_Value) (l := y12.Key) u_Limpl_Value u.2.1 (hn := .nil (zn g)))) ?_
       refine dq 23 rfl (fun _ g u h => LWo.guardY (t := 19) u.1 h15 rfl rfl (LWo.int _ u.2.1 rfl rfl (hn := .nil (zn g)))) ?_
       refine dq 24 rfl (fun _ g u h => LWo.pickFM (e_bool ((y12.Key.length : Int) != (1 : Int))) u.1 h15 u.2.1 (hn := .nil (zn g))) ?_
       refine dq 25 rfl (fun _ g u h => LWo.move (e_bool ((y12.Key.length : Int) != (1 : Int))) u.1 (hn := .nil (zn g))) ?_
       refine dq 26 rfl (fun _ g u h => LWo.guardNU (t := 25) u.2.1 h16 rfl rfl rfl rfl rfl (.nil (zn g))) ?_
       refine dq 27 rfl (fun _ g u h => LWo.guardNU (t := 25) u.1 h16 rfl rfl rfl rfl rfl (.nil (zn g))) ?_
       refine dq 28 rfl (fun _ g u h => LWo.guardNU (t := 25) u.1 h16 rfl rfl rfl rfl rfl (.nil (zn g))) ?_
       refine dq 29 rfl (fun _ g u h => LWo.guardNU (t := 25) u.1 h16 rfl rfl rfl rfl rfl (.nil (zn g))) ?_
       refine dq 30 rfl (fun _ g u h => LWo.pickTM (e_bool true) u.1 h16 rfl (hn := .nil (zn g))) ?_
       refine dq 31 rfl (fun _ g u h => LWo.move (e_bool true) u.1 (hn := .nil (zn g))) ?_
       refine dq 32 rfl (fun _ g u h => LWo.guardNU (t := 31) u.2.1 rfl rfl rfl rfl rfl rfl (.nil (zn g))) ?_
       refine dq 33 rfl (fun _ g u h => LWo.guardNU (t := 31) u.1 rfl rfl rfl rfl rfl rfl (.nil (zn g))) ?_
       refine dq 34 rfl (fun _ g u h => LWo.guardNU (t := 31) u.2.1 rfl rfl rfl rfl rfl rfl (.nil (zn g))) ?_
       refine dq 35 rfl (fun _ g u h => LWo.guardNU (t := 31) u.1 rfl rfl rfl rfl rfl rfl (.nil (zn g))) ?_
       refine dq 36 rfl (fun _ g u h => LWo.guardNU (t := 31) u.1 rfl rfl rfl rfl rfl rfl (.nil (zn g))) ?_
       refine dq 37 rfl (fun _ g u h => LWo.guardNU (t := 31) u.1 rfl rfl rfl rfl rfl rfl (.nil (zn g))) ?_
       refine dq 38 rfl (fun _ g u h => LWo.pickTM (e_bool true) u.1 rfl rfl (hn := .nil (zn g))) ?_
       refine dq 39 rfl (fun _ g u h => LWo.move (e_bool true) u.1 (hn := .nil (zn g))) ?_
       refine dq 40 rfl (fun _ g u h => LWo.guardNU (t := 39) u.2.1 rfl rfl rfl rfl rfl rfl (.nil (zn g))) ?_
       refine dq 41 rfl (fun _ g u h => LWo.guardNU (t := 39) u.1 rfl rfl rfl rfl rfl rfl (.nil (zn g))) ?_
       refine dq 42 rfl (fun _ g u h => LWo.guardNU (t := 39) u.2.1 rfl rfl rfl rfl rfl rfl (.nil (zn g))) ?_
       refine dq 43 rfl (fun _ g u h => LWo.guardNU (t := 39) u.1 rfl rfl rfl rfl rfl rfl (.nil (zn g))) ?_
       refine dq 44 rfl (fun _ g u h => LWo.guardNU (t := 39) u.1 rfl rfl rfl rfl rfl rfl (.nil (zn g))) ?_
       refine dq 45 rfl (fun _ g u h => LWo.guardNU (t := 39) u.2.1 rfl rfl rfl rfl rfl rfl (.nil (zn g))) ?_
       refine dq 46 rfl (fun _ g u h => LWo.guardNU (t := 39) u.1 rfl rfl rfl rfl rfl rfl (.nil (zn g))) ?_
       refine dq 47 rfl (fun _ g u h => LWo.guardNU (t := 39) u.1 rfl rfl rfl rfl rfl rfl (.nil (zn g))) ?_
       refine dq 48 rfl (fun _ g u h => LWo.guardNU (t := 39) u.1 rfl rfl rfl rfl rfl rfl (.nil (zn g))) ?_
       refine dq 49 rfl (fun _ g u h => LWo.guardNU (t := 39) u.1 rfl rfl rfl rfl rfl rfl (.nil (zn g))) ?_
       refine dq 50 rfl (fun _ g u h => LWo.pickTM (e_bool true) u.1 rfl rfl (hn := .nil (zn g))) ?_
       refine dq 51 rfl (fun _ g u h => LWo.move (e_bool true) u.1 (hn := .nil (zn g))) ?_
       refine dq 52 rfl (fun _ g u h => LWo.guardNU (t := 51) u.2.1 rfl rfl rfl rfl rfl rfl (.nil (zn g))) ?_
       refine dq 53 rfl (fun _ g u h => LWo.guardNU (t := 51) u.1 rfl rfl rfl rfl rfl rfl (.nil (zn g))) ?_
       refine dq 54 rfl (fun _ g u h => LWo.guardNU (t := 51) u.1 rfl rfl rfl rfl rfl rfl (.nil (zn g))) ?_
       refine dq 55 rfl (fun _ g u h => LWo.guardU (t := 54) u.2.1 rfl rfl rfl rfl (.nil (zn g))) ?_
       refine dq 56 rfl (fun _ g u h => LWo.guardU (t := 54) u.2.1 rfl rfl rfl rfl (.nil (zn g))) ?_
       refine dq 57 rfl (fun _ g u h => LWo.guardU (t := 54) u.1 rfl rfl rfl rfl (.nil (zn g))) ?_
       refine dq 58 rfl (fun _ g u h => LWo.guardU (t := 54) u.1 rfl rfl rfl rfl (.nil (zn g))) ?_
       refine dq 59 rfl (fun _ g u h => LWo.guardU (t := 54) u.1 rfl rfl rfl rfl (.nil (zn g))) ?_
       refine dq 60 rfl (fun _ g u h => LWo.guardU (t := 54) u.1 rfl rfl rfl rfl (.nil (zn g))) ?_
       refine dq 61 rfl (fun _ g u h => LWo.guardU (t := 54) u.2.1 rfl rfl rfl rfl (.nil (zn g))) ?_
       refine dq 62 rfl (fun _ g u h => LWo.guardU (t := 54) u.1 rfl rfl rfl rfl (.nil (zn g))) ?_
       refine dq 63 rfl (fun _ g u h => LWo.guardU (t := 54) u.1 rfl rfl rfl rfl (.nil (zn g))) ?_
       refine dq 64 rfl (fun _ g u h => LWo.guardU (t := 54) u.1 rfl rfl rfl rfl (.nil (zn g))) ?_
       refine dq 65 rfl (fun _ g u h => LWo.guardNU (t := 51) u.1 rfl rfl rfl rfl rfl rfl (.nil (zn g))) ?_
       refine dq 66 rfl (fun _ g u h => LWo.pickTM (e_bool true) u.1 rfl rfl (hn := .nil (zn g))) ?_
       refine ⟨rfl, by kernel_rfl, hN13 (t0, t3, true) _ ⟨rfl, rfl, rfl, trivial⟩ trivial h⟩
      ·have h := bF h16 h
       refine bk h fun x17 e17 h => ?_
       refine bS ((!x17)) (fun h18 => ?_) (fun h18 => ?_)
       ·have h := bT h18 h
        refine LWP.drawF (l := [_,_,_,_,_,_,_,_,_,_,_,_,_,_,_,_,_,_,_,_,_,_,_,_,_,_,_,_,_,_,_,_,_,_,_,_,_,_,_,_,_,_,_,_,_,_,_,_,_,_,_,_]) [] [0, 3, 4] [([4], []), ([15], [4]), ([16], []), ([17], []), ([18], []), ([4, 19], []), ([19, 20], [4]), ([19, 21], []), ([19, 22], []), ([19, 23], []), ([24], []), ([4, 25], []), ([25, 26], [4]), ([25, 27], []), ([25, 28], []), ([25, 29], []), ([30], []), ([4, 31], []), ([31, 32], []), ([4, 31], []), ([31, 34], []), ([31, 33, 35], []), ([31, 36], []), ([31, 37], []), ([38], []), ([4, 39], []), ([39, 40], []), ([4, 39], []), ([39, 42], []), ([39, 43], []), ([4, 39], []), ([39, 45], []), ([39, 46], []), ([39, 41, 44, 47], []), ([39, 48], []), ([39, 49], []), ([50], []), ([3, 51], []), ([51, 52], []), ([51, 53], []), ([0, 54], []), ([3, 54], []), ([54, 56], []), ([54, 55, 57], []), ([54, 58], []), ([54, 59], []), ([4, 54], []), ([54, 61], []), ([54, 60, 62], []), ([54, 63], []), ([51, 54, 64], []), ([51, 65], [])] [0, 3, 66] [] mixed (by kernel_rfl) rfl (by decide) ?_
        refine dq 15 rfl (fun _ g u h => LWo.fieldPtr u_impl_Tally rfl s_Limpl_Value u.1 rfl (hn := .nil (zn g))) ?_
        refine dq 16 rfl (fun _ g u h => LWo.loadV1 (e_Limpl_Value y12.Key)  g_Limpl_Value u.1 h.1 rfl (hn := .nil (zn g))) ?_
        refine dq 17 rfl (fun _ g u h => LWo.vcall rfl (av1 u.1) (c_spec_RowOk _ _ e14) (.same (.nil)) (hn := .nil (zn g))) ?_
        refine dq 18 rfl (fun _ g u h => LWo.not u.1 (hn := .nil (zn g))) ?_
        refine dq 19 rfl (fun _ g u h => LWo.move (e_bool (!x14)) u.1 (hn := .nil (zn g))) ?_
        refine dq 20 rfl (fun _ g u h => LWo.guardY (t := 19) u.2.1 h15 rfl rfl (LWo.fieldPtr u_impl_Tally rfl s_Limpl_Value u.1 rfl (hn := .nil (zn g)))) ?_
        refine dq 21 rfl (fun _ g u h => LWo.guardY (t := 19) u.1 h15 rfl rfl (LWo.loadV1 (e_Limpl_Value y12.Key)  g_Limpl_Value u.2.1 h.1 rfl (hn := .nil (zn g)))) ?_
        refine dq 22 rfl (fun _ g u h => LWo.guardY (t := 19) u.1 h15 rfl rfl (LWo.lenM (f := e_impl_Value) (l := y12.Key) u_Limpl_Value u.2.1 (hn := .nil (zn g)))) ?_
        refine dq 23 rfl (fun _ g u h => LWo.guardY (t := 19) u.1 h15 rfl rfl (LWo.int _ u.2.1 rfl rfl (hn := .nil (zn g)))) ?_
        refine dq 24 rfl (fun _ g u h => LWo.pickFM (e_bool ((y12.Key.length : Int) != (1 : Int))) u.1 h15 u.2.1 (hn := .nil (zn g))) ?_
        refine dq 25 rfl (fun _ g u h => LWo.move (e_bool ((y12.Key.length : Int) != (1 : Int))) u.1 (hn := .nil (zn g))) ?_
        refine dq 26 rfl (fun _ g u h => LWo.guardY (t := 25) u.2.1 h16 rfl rfl (LWo.fieldPtr u_impl_Tally rfl s_int u.1 rfl (hn := .nil (zn g)))) ?_
        refine dq 27 rfl (fun _ g u h => LWo.guardY (t := 25) u.1 h16 rfl rfl (LWo.loadV1 (e_int y12.Rows)  g_int u.2.1 h.1 rfl (hn := .nil (zn g)))) ?_
        refine dq 28 rfl (fun _ g u h => LWo.guardY (t := 25) u.1 h16 rfl rfl (LWo.vcall rfl (av3 u.2.1 rfl rfl) (c_spec_l1In _ _ _ _ e17) (.same (.same (.same (.nil)))) (hn := .nil (zn g)))) ?_
        refine dq 29 rfl (fun _ g u h => LWo.guardY (t := 25) u.1 h16 rfl rfl (LWo.not u.2.1 (hn := .nil (zn g)))) ?_
        refine dq 30 rfl (fun _ g u h => LWo.pickFM (e_bool (!x17)) u.1 h16 u.2.1 (hn := .nil (zn g))) ?_
        refine dq 31 rfl (fun _ g u h => LWo.move (e_bool (!x17)) u.1 (hn := .nil (zn g))) ?_
        refine dq 32 rfl (fun _ g u h => LWo.guardNU (t := 31) u.2.1 h18 rfl rfl rfl rfl rfl (.nil (zn g))) ?_
        refine dq 33 rfl (fun _ g u h => LWo.guardNU (t := 31) u.1 h18 rfl rfl rfl rfl rfl (.nil (zn g))) ?_
        refine dq 34 rfl (fun _ g u h => LWo.guardNU (t := 31) u.2.1 h18 rfl rfl rfl rfl rfl (.nil (zn g))) ?_
        refine dq 35 rfl (fun _ g u h => LWo.guardNU (t := 31) u.1 h18 rfl rfl rfl rfl rfl (.nil (zn g))) ?_
        refine dq 36 rfl (fun _ g u h => LWo.guardNU (t := 31) u.1 h18 rfl rfl rfl rfl rfl (.nil (zn g))) ?_
        refine dq 37 rfl (fun _ g u h => LWo.guardNU (t := 31) u.1 h18 rfl rfl rfl rfl rfl (.nil (zn g))) ?_
        refine dq 38 rfl (fun _ g u h => LWo.pickTM (e_bool true) u.1 h18 rfl (hn := .nil (zn g))) ?_
        refine dq 39 rfl (fun _ g u h => LWo.move (e_bool true) u.1 (hn := .nil (zn g))) ?_
        refine dq 40 rfl (fun _ g u h => LWo.guardNU (t := 39) u.2.1 rfl rfl rfl rfl rfl rfl (.nil (zn g))) ?_
        refine dq 41 rfl (fun _ g u h => LWo.guardNU (t := 39) u.1 rfl rfl rfl rfl rfl rfl (.nil (zn g))) ?_
        refine dq 42 rfl (fun _ g u h => LWo.guardNU (t := 39) u.2.1 rfl rfl rfl rfl rfl rfl (.nil (zn g))) ?_
        refine dq 43 rfl (fun _ g u h => LWo.guardNU (t := 39) u.1 rfl rfl rfl rfl rfl rfl (.nil (zn g))) ?_
        refine dq 44 rfl (fun _ g u h => LWo.guardNU (t := 39) u.1 rfl rfl rfl rfl rfl rfl (.nil (zn g))) ?_
        refine dq 45 rfl (fun _ g u h => LWo.guardNU (t := 39) u.2.1 rfl rfl rfl rfl rfl rfl (.nil (zn g))) ?_
        refine dq 46 rfl (fun _ g u h => LWo.guardNU (t := 39) u.1 rfl rfl rfl rfl rfl rfl (.nil (zn g))) ?_
        refine dq 47 rfl (fun _ g u h => LWo.guardNU (t := 39) u.1 rfl rfl rfl rfl rfl rfl (.nil (zn g))) ?_
        refine dq 48 rfl (fun _ g u h => LWo.guardNU (t := 39) u.1 rfl rfl rfl rfl rfl rfl (.nil (zn g))) ?_
        refine dq 49 rfl (fun _ g u h => LWo.guardNU (t := 39) u.1 rfl rfl rfl rfl rfl rfl (.nil (zn g))) ?_
        refine dq 50 rfl (fun _ g u h => LWo.pickTM (e_bool true) u.1 rfl rfl (hn := .nil (zn g))) ?_
        refine dq 51 rfl (fun _ g u h => LWo.move (e_bool true) u.1 (hn := .nil (zn g))) ?_
        refine dq 52 rfl (fun _ g u h => LWo.guardNU (t := 51) u.2.1 rfl rfl rfl rfl rfl rfl (.nil (zn g))) ?_
        refine dq 53 rfl (fun _ g u h => LWo.guardNU (t := 51) u.1 rfl rfl rfl rfl rfl rfl (.nil (zn g))) ?_
        refine dq 54 rfl (fun _ g u h => LWo.guardNU (t := 51) u.1 rfl rfl rfl rfl rfl rfl (.nil (zn g))) ?_
        refine dq 55 rfl (fun _ g u h => LWo.guardU (t := 54) u.2.1 rfl rfl rfl rfl (.nil (zn g))) ?_
        refine dq 56 rfl (fun _ g u h => LWo.guardU (t := 54) u.2.1 rfl rfl rfl rfl (.nil (zn g))) ?_
        refine dq 57 rfl (fun _ g u h => LWo.guardU (t := 54) u.1 rfl rfl rfl rfl (.nil (zn g))) ?_
        refine dq 58 rfl (fun _ g u h => LWo.guardU (t := 54) u.1 rfl rfl rfl rfl (.nil (zn g))) ?_
        refine dq 59 rfl (fun _ g u h => LWo.guardU (t := 54) u.1 rfl rfl rfl rfl (.nil (zn g))) ?_
        refine dq 60 rfl (fun _ g u h => LWo.guardU (t := 54) u.1 rfl rfl rfl rfl (.nil (zn g))) ?_
        refine dq 61 rfl (fun _ g u h => LWo.guardU (t := 54) u.2.1 rfl rfl rfl rfl (.nil (zn g))) ?_
        refine dq 62 rfl (fun _ g u h => LWo.guardU (t := 54) u.1 rfl rfl rfl rfl (.nil (zn g))) ?_
        refine dq 63 rfl (fun _ g u h => LWo.guardU (t := 54) u.1 rfl rfl rfl rfl (.nil (zn g))) ?_
        refine dq 64 rfl (fun _ g u h => LWo.guardU (t := 54) u.1 rfl rfl rfl rfl (.nil (zn g))) ?_
        refine dq 65 rfl (fun _ g u h => LWo.guardNU (t := 51) u.1 rfl rfl rfl rfl rfl rfl (.nil (zn g))) ?_
        refine dq 66 rfl (fun _ g u h => LWo.pickTM (e_bool true) u.1 rfl rfl (hn := .nil (zn g))) ?_
        refine ⟨rfl, by kernel_rfl, hN13 (t0, t3, true) _ ⟨rfl, rfl, rfl, trivial⟩ trivial h⟩
       ·have h := bF h18 h
        refine bk h fun x19 e19 h => ?_
        refine bS ((!x19)) (fun h20 => ?_) (fun h20 => ?_)
        ·have h := bT h20 h
         refine LWP.drawF (l := [_,_,_,_,_,_,_,_,_,_,_,_,_,_,_,_,_,_,_,_,_,_,_,_,_,_,_,_,_,_,_,_,_,_,_,_,_,_,_,_,_,_,_,_,_,_,_,_,_,_,_,_]) [] [0, 3, 4] [([4], []), ([15], [4]), ([16], []), ([17], []), ([18], []), ([4, 19], []), ([19, 20], [4]), ([19, 21], []), ([19, 22], []), ([19, 23], []), ([24], []), ([4, 25], []), ([25, 26], [4]), ([25, 27], []), ([25, 28], []), ([25, 29], []), ([30], []), ([4, 31], []), ([31, 32], [4]), ([4, 31], []), ([31, 34], [4]), ([31, 33, 35], []), ([31, 36], []), ([31, 37], []), ([38], []), ([4, 39], []), ([39, 40], []), ([4, 39], []), ([39, 42], []), ([39, 43], []), ([4, 39], []), ([39, 45], []), ([39, 46], []), ([39, 41, 44, 47], []), ([39, 48], []), ([39, 49], []), ([50], []), ([3, 51], []), ([51, 52], []), ([51, 53], []), ([0, 54], []), ([3, 54], []), ([54, 56], []), ([54, 55, 57], []), ([54, 58], []), ([54, 59], []), ([4, 54], []), ([54, 61], []), ([54, 60, 62], []), ([54, 63], []), ([51, 54, 64], []), ([51, 65], [])] [0, 3, 66] [] mixed (by kernel_rfl) rfl (by decide) ?_
         refine dq 15 rfl (fun _ g u h => LWo.fieldPtr u_impl_Tally rfl s_Limpl_Value u.1 rfl (hn := .nil (zn g))) ?_
         refine dq 16 rfl (fun _ g u h => LWo.loadV1 (e_Limpl_Value y12.Key)  g_Limpl_Value u.1 h.1 rfl (hn := .nil (zn g))) ?_
         refine dq 17 rfl (fun _ g u h => LWo.vcall rfl (av1 u.1) (c_spec_RowOk _ _ e14) (.same (.nil)) (hn := .nil (zn g))) ?_
         refine dq 18 rfl (fun _ g u h => LWo.not u.1 (hn := .nil (zn g))) ?_
         refine dq 19 rfl (fun _ g u h => LWo.move (e_bool (!x14)) u.1 (hn := .nil (zn g))) ?_
         refine dq 20 rfl (fun _ g u h => LWo.guardY (t := 19) u.2.1 h15 rfl rfl (LWo.fieldPtr u_impl_Tally rfl s_Limpl_Value u.1 rfl (hn := .nil (zn g)))) ?_
         refine dq 21 rfl (fun _ g u h => LWo.guardY (t := 19) u.1 h15 rfl rfl (LWo.loadV1 (e_Limpl_Value y12.Key)  g_Limpl_Value u.2.1 h.1 rfl (hn := .nil (zn g)))) ?_
         refine dq 22 rfl (fun _ g u h => LWo.guardY (t := 19) u.1 h15 rfl rfl (LWo.lenM (f := e_impl_Value) (l := y12.Key) u_Limpl_Value u.2.1 (hn := .nil (zn g)))) ?_
         refine dq 23 rfl (fun _ g u h => LWo.guardY (t := 19) u.1 h15 rfl rfl (LWo.int _ u.2.1 rfl rfl (hn := .nil (zn g)))) ?_
         refine dq 24 rfl (fun _ g u h => LWo.pickFM (e_bool ((y12.Key.length : Int) != (1 : Int))) u.1 h15 u.2.1 (hn := .nil (zn g))) ?_
         refine dq 25 rfl (fun _ g u h => LWo.move (e_bool ((y12.Key.length : Int) != (1 : Int))) u.1 (hn := .nil (zn g))) ?_
         refine dq 26 rfl (fun _ g u h => LWo.guardY (t := 25) u.2.1 h16 rfl rfl (LWo.fieldPtr u_impl_Tally rfl s_int u.1 rfl (hn := .nil (zn g)))) ?_
         refine dq 27 rfl (fun _ g u h => LWo.guardY (t := 25) u.1 h16 rfl rfl (LWo.loadV1 (e_int y12.Rows)  g_int u.2.1 h.1 rfl (hn := .nil (zn g)))) ?_
         refine dq 28 rfl (fun _ g u h => LWo.guardY (t := 25) u.1 h16 rfl rfl (LWo.vcall rfl (av3 u.2.1 rfl rfl) (c_spec_l1In _ _ _ _ e17) (.same (.same (.same (.nil)))) (hn := .nil (zn g)))) ?_
         refine dq 29 rfl (fun _ g u h => LWo.guardY (t := 25) u.1 h16 rfl rfl (LWo.not u.2.1 (hn := .nil (zn g)))) ?_
         refine dq 30 rfl (fun _ g u h => LWo.pickFM (e_bool (!x17)) u.1 h16 u.2.1 (hn := .nil (zn g))) ?_
         refine dq 31 rfl (fun _ g u h => LWo.move (e_bool (!x17)) u.1 (hn := .nil (zn g))) ?_
         refine dq 32 rfl (fun _ g u h => LWo.guardY (t := 31) u.2.1 h18 rfl rfl (LWo.fieldPtr u_impl_Tally rfl s_int u.1 rfl (hn := .nil (zn g)))) ?_
         refine dq 33 rfl (fun _ g u h => LWo.guardY (t := 31) u.1 h18 rfl rfl (LWo.loadV1 (e_int y12.Many)  g_int u.2.1 h.1 rfl (hn := .nil (zn g)))) ?_
         refine dq 34 rfl (fun _ g u h => LWo.guardY (t := 31) u.2.1 h18 rfl rfl (LWo.fieldPtr u_impl_Tally rfl s_int u.1 rfl (hn := .nil (zn g)))) ?_
         refine dq 35 rfl (fun _ g u h => LWo.guardY (t := 31) u.1 h18 rfl rfl (LWo.loadV1 (e_int y12.Rows)  g_int u.2.1 h.1 rfl (hn := .nil (zn g)))) ?_
         refine dq 36 rfl (fun _ g u h => LWo.guardY (t := 31) u.1 h18 rfl rfl (LWo.vcall rfl (av3 u.2.1 rfl u.2.2.1) (c_spec_l1In _ _ _ _ e19) (.same (.same (.same (.nil)))) (hn := .nil (zn g)))) ?_
         refine dq 37 rfl (fun _ g u h => LWo.guardY (t := 31) u.1 h18 rfl rfl (LWo.not u.2.1 (hn := .nil (zn g)))) ?_
         refine dq 38 rfl (fun _ g u h => LWo.pickFM (e_bool (!x19)) u.1 h18 u.2.1 (hn := .nil (zn g))) ?_
         refine dq 39 rfl (fun _ g u h => LWo.move (e_bool (!x19)) u.1 (hn := .nil (zn g))) ?_
         refine dq 40 rfl (fun _ g u h => LWo.guardNU (t := 39) u.2.1 h20 rfl rfl rfl rfl rfl (.nil (zn g))) ?_
         refine dq 41 rfl (fun _ g u h => LWo.guardNU (t := 39) u.1 h20 rfl rfl rfl rfl rfl (.nil (zn g))) ?_
         refine dq 42 rfl (fun _ g u h => LWo.guardNU (t := 39) u.2.1 h20 rfl rfl rfl rfl rfl (.nil (zn g))) ?_
         refine dq 43 rfl (fun _ g u h => LWo.guardNU (t := 39) u.1 h20 rfl rfl rfl rfl rfl (.nil (zn g))) ?_
         refine dq 44 rfl (fun _ g u h => LWo.guardNU (t := 39) u.1 h20 rfl rfl rfl rfl rfl (.nil (zn g))) ?_
         refine dq 45 rfl (fun _ g u h => LWo.guardNU (t := 39) u.2.1 h20 rfl rfl rfl rfl rfl (.nil (zn g))) ?_
         refine dq 46 rfl (fun _ g u h => LWo.guardNU (t := 39) u.1 h20 rfl rfl rfl rfl rfl (.nil (zn g))) ?_
         refine dq 47 rfl (fun _ g u h => LWo.guardNU (t := 39) u.1 h20 rfl rfl rfl rfl rfl (.nil (zn g))) ?_
         refine dq 48 rfl (fun _ g u h => LWo.guardNU (t := 39) u.1 h20 rfl rfl rfl rfl rfl (.nil (zn g))) ?_
         refine dq 49 rfl (fun _ g u h => LWo.guardNU (t := 39) u.1 h20 rfl rfl rfl rfl rfl (.nil (zn g))) ?_
         refine dq 50 rfl (fun _ g u h => LWo.pickTM (e_bool true) u.1 h20 rfl (hn := .nil (zn g))) ?_
         refine dq 51 rfl (fun _ g u h => LWo.move (e_bool true) u.1 (hn := .nil (zn g))) ?_
         refine dq 52 rfl (fun _ g u h => LWo.guardNU (t := 51) u.2.1 rfl rfl rfl rfl rfl rfl (.nil (zn g))) ?_
         refine dq 53 rfl (fun _ g u h => LWo.guardNU (t := 51) u.1 rfl rfl rfl rfl rfl rfl (.nil (zn g))) ?_
         refine dq 54 rfl (fun _ g u h => LWo.guardNU (t := 51) u.1 rfl rfl rfl rfl rfl rfl (.nil (zn g))) ?_
         refine dq 55 rfl (fun _ g u h => LWo.guardU (t := 54) u.2.1 rfl rfl rfl rfl (.nil (zn g))) ?_
         refine dq 56 rfl (fun _ g u h => LWo.guardU (t := 54) u.2.1 rfl rfl rfl rfl (.nil (zn g))) ?_
         refine dq 57 rfl (fun _ g u h => LWo.guardU (t := 54) u.1 rfl rfl rfl rfl (.nil (zn g))) ?_
         refine dq 58 rfl (fun _ g u h => LWo.guardU (t := 54) u.1 rfl rfl rfl rfl (.nil (zn g))) ?_
         refine dq 59 rfl (fun _ g u h => LWo.guardU (t := 54) u.1 rfl rfl rfl rfl (.nil (zn g))) ?_
         refine dq 60 rfl (fun _ g u h => LWo.guardU (t := 54) u.1 rfl rfl rfl rfl (.nil (zn g))) ?_
         refine dq 61 rfl (fun _ g u h => LWo.guardU (t := 54) u.2.1 rfl rfl rfl rfl (.nil (zn g))) ?_
         refine dq 62 rfl (fun _ g u h => LWo.guardU (t := 54) u.1 rfl rfl rfl rfl (.nil (zn g))) ?_
         refine dq 63 rfl (fun _ g u h => LWo.guardU (t := 54) u.1 rfl rfl rfl rfl (.nil (zn g))) ?_
         refine dq 64 rfl (fun _ g u h => LWo.guardU (t := 54) u.1 rfl rfl rfl rfl (.nil (zn g))) ?_
         refine dq 65 rfl (fun _ g u h => LWo.guardNU (t := 51) u.1 rfl rfl rfl rfl rfl rfl (.nil (zn g))) ?_
         refine dq 66 rfl (fun _ g u h => LWo.pickTM (e_bool true) u.1 rfl rfl (hn := .nil (zn g))) ?_
         refine ⟨rfl, by kernel_rfl, hN13 (t0, t3, true) _ ⟨rfl, rfl, rfl, trivial⟩ trivial h⟩
        ·have h := bF h20 h
         refine bk h fun x21 e21 h => ?_
         refine bk h fun x22 e22 h => ?_
         refine bk h fun x23 e23 h => ?_
         refine bS ((!x23)) (fun h24 => ?_) (fun h24 => ?_)
         ·have h := bT h24 h
          refine LWP.drawF (l := [_,_,_,_,_,_,_,_,_,_,_,_,_,_,_,_,_,_,_,_,_,_,_,_,_,_,_,_,_,_,_,_,_,_,_,_,_,_,_,_,_,_,_,_,_,_,_,_,_,_,_,_]) [] [0, 3, 4] [([4], []), ([15], [4]), ([16], []), ([17], []), ([18], []), ([4, 19], []), ([19, 20], [4]), ([19, 21], []), ([19, 22], []), ([19, 23], []), ([24], []), ([4, 25], []), ([25, 26], [4]), ([25, 27], []), ([25, 28], []), ([25, 29], []), ([30], []), ([4, 31], []), ([31, 32], [4]), ([4, 31], []), ([31, 34], [4]), ([31, 33, 35], []), ([31, 36], []), ([31, 37], []), ([38], []), ([4, 39], []), ([39, 40], [4]), ([4, 39], []), ([39, 42], [4]), ([39, 43], []), ([4, 39], []), ([39, 45], [4]), ([39, 46], []), ([39, 41, 44, 47], []), ([39, 48], []), ([39, 49], []), ([50], []), ([3, 51], []), ([51, 52], []), ([51, 53], []), ([0, 54], []), ([3, 54], []), ([54, 56], []), ([54, 55, 57], []), ([54, 58], []), ([54, 59], []), ([4, 54], []), ([54, 61], []), ([54, 60, 62], []), ([54, 63], []), ([51, 54, 64], []), ([51, 65], [])] [0, 3, 66] [] mixed (by kernel_rfl) rfl (by decide) ?_
          refine dq 15 rfl (fun _ g u h => LWo.fieldPtr u_impl_Tally rfl s_Limpl_Value u.1 rfl (hn := .nil (zn g))) ?_
          refine dq 16 rfl (fun _ g u h => LWo.loadV1 (e_Limpl_Value y12.Key)  g_Limpl_Value u.1 h.1 rfl (hn := .nil (zn g))) ?_
          refine dq 17 rfl (fun _ g u h => LWo.vcall rfl (av1 u.1) (c_spec_RowOk _ _ e14) (.same (.nil)) (hn := .nil (zn g))) ?_
          refine dq 18 rfl (fun _ g u h => LWo.not u.1 (hn := .nil (zn g))) ?_
          refine dq 19 rfl (fun _ g u h => LWo.move (e_bool (!x14)) u.1 (hn := .nil (zn g))) ?_
          refine dq 20 rfl (fun _ g u h => LWo.guardY (t := 19) u.2.1 h15 rfl rfl (LWo.fieldPtr u_impl_Tally rfl s_Limpl_Value u.1 rfl (hn := .nil (zn g)))) ?_
          refine dq 21 rfl (fun _ g u h => LWo.guardY (t := 19) u.1 h15 rfl rfl (LWo.loadV1 (e_Limpl_Value y12.Key)  g_Limpl_Value u.2.1 h.1 rfl (hn := .nil (zn g)))) ?_
          refine dq 22 rfl (fun _ g u h => LWo.guardY (t := 19) u.1 h15 rfl rfl (LWo.lenM (f := e_impl_Value) (l := y12.Key) u_Limpl_Value u.2.1 (hn := .nil (zn g)))) ?_
          refine dq 23 rfl (fun _ g u h => LWo.guardY (t := 19) u.1 h15 rfl rfl (LWo.int _ u.2.1 rfl rfl (hn := .nil (zn g)))) ?_
          refine dq 24 rfl (fun _ g u h => LWo.pickFM (e_bool ((y12.Key.length : Int) != (1 : Int))) u.1 h15 u.2.1 (hn := .nil (zn g))) ?_
          refine dq 25 rfl (fun _ g u h => LWo.move (e_bool ((y12.Key.length : Int) != (1 : Int))) u.1 (hn := .nil (zn g))) ?_
          refine dq 26 rfl (fun _ g u h => LWo.guardY (t := 25) u.2.1 h16 rfl rfl (LWo.fieldPtr u_impl_Tally rfl s_int u.1 rfl (hn := .nil (zn g)))) ?_
          refine dq 27 rfl (fun _ g u h => LWo.guardY (t := 25) u.1 h16 rfl rfl (LWo.loadV1 (e_int y12.Rows)  g_int u.2.1 h.1 rfl (hn := .nil (zn g)))) ?_
          refine dq 28 rfl (fun _ g u h => LWo.guardY (t := 25) u.1 h16 rfl rfl (LWo.vcall rfl (av3 u.2.1 rfl rfl) (c_spec_l1In _ _ _ _ e17) (.same (.same (.same (.nil)))) (hn := .nil (zn g)))) ?_
          refine dq 29 rfl (fun _ g u h => LWo.guardY (t := 25) u.1 h16 rfl rfl (LWo.not u.2.1 (hn := .nil (zn g)))) ?_
          refine dq 30 rfl (fun _ g u h => LWo.pickFM (e_bool (!x17)) u.1 h16 u.2.1 (hn := .nil (zn g))) ?_
          refine dq 31 rfl (fun _ g u h => LWo.move (e_bool (!x17)) u.1 (hn := .nil (zn g))) ?_
          refine dq 32 rfl (fun _ g u h => LWo.guardY (t := 31) u.2.1 h18 rfl rfl (LWo.fieldPtr u_impl_Tally rfl s_int u.1 rfl (hn := .nil (zn g)))) ?_
          refine dq 33 rfl (fun _ g u h => LWo.guardY (t := 31) u.1 h18 rfl rfl (LWo.loadV1 (e_int y12.Many)  g_int u.2.1 h.1 rfl (hn := .nil (zn g)))) ?_
          refine dq 34 rfl (fun _ g u h => LWo.guardY (t := 31) u.2.1 h18 rfl rfl (LWo.fieldPtr u_impl_Tally rfl s_int u.1 rfl (hn := .nil (zn g)))) ?_
          refine dq 35 rfl (fun _ g u h => LWo.guardY (t := 31) u.1 h18 rfl rfl (LWo.loadV1 (e_int y12.Rows)  g_int u.2.1 h.1 rfl (hn := .nil (zn g)))) ?_
          refine dq 36 rfl (fun _ g u h => LWo.guardY (t := 31) u.1 h18 rfl rfl (LWo.vcall rfl (av3 u.2.1 rfl u.2.2.1) (c_spec_l1In _ _ _ _ e19) (.same (.same (.same (.nil)))) (hn := .nil (zn g)))) ?_
          refine dq 37 rfl (fun _ g u h => LWo.guardY (t := 31) u.1 h18 rfl rfl (LWo.not u.2.1 (hn := .nil (zn g)))) ?_
          refine dq 38 rfl (fun _ g u h => LWo.pickFM (e_bool (!x19)) u.1 h18 u.2.1 (hn := .nil (zn g))) ?_
          refine dq 39 rfl (fun _ g u h => LWo.move (e_bool (!x19)) u.1 (hn := .nil (zn g))) ?_
          refine dq 40 rfl (fun _ g u h => LWo.guardY (t := 39) u.2.1 h20 rfl rfl (LWo.fieldPtr u_impl_Tally rfl s_int u.1 rfl (hn := .nil (zn g)))) ?_
          refine dq 41 rfl (fun _ g u h => LWo.guardY (t := 39) u.1 h20 rfl rfl (LWo.loadV1 (e_int y12.Sum)  g_int u.2.1 h.1 rfl (hn := .nil (zn g)))) ?_
          refine dq 42 rfl (fun _ g u h => LWo.guardY (t := 39) u.2.1 h20 rfl rfl (LWo.fieldPtr u_impl_Tally rfl s_int u.1 rfl (hn := .nil (zn g)))) ?_
          refine dq 43 rfl (fun _ g u h => LWo.guardY (t := 39) u.1 h20 rfl rfl (LWo.loadV1 (e_int y12.Many)  g_int u.2.1 h.1 rfl (hn := .nil (zn g)))) ?_
          refine dq 44 rfl (fun _ g u h => LWo.guardY (t := 39) u.1 h20 rfl rfl (LWo.int _ rfl u.2.1 (mul_ck e21) (hn := .nil (zn g)))) ?_
          refine dq 45 rfl (fun _ g u h => LWo.guardY (t := 39) u.2.1 h20 rfl rfl (LWo.fieldPtr u_impl_Tally rfl s_int u.1 rfl (hn := .nil (zn g)))) ?_
          refine dq 46 rfl (fun _ g u h => LWo.guardY (t := 39) u.1 h20 rfl rfl (LWo.loadV1 (e_int y12.Many)  g_int u.2.1 h.1 rfl (hn := .nil (zn g)))) ?_
          refine dq 47 rfl (fun _ g u h => LWo.guardY (t := 39) u.1 h20 rfl rfl (LWo.int _ rfl u.2.1 (mul_ck e22) (hn := .nil (zn g)))) ?_
          refine dq 48 rfl (fun _ g u h => LWo.guardY (t := 39) u.1 h20 rfl rfl (LWo.vcall rfl (av3 u.2.1 u.2.2.1 u.2.2.2.1) (c_spec_l1In _ _ _ _ e23) (.same (.same (.same (.nil)))) (hn := .nil (zn g)))) ?_
          refine dq 49 rfl (fun _ g u h => LWo.guardY (t := 39) u.1 h20 rfl rfl (LWo.not u.2.1 (hn := .nil (zn g)))) ?_
          refine dq 50 rfl (fun _ g u h => LWo.pickFM (e_bool (!x23)) u.1 h20 u.2.1 (hn := .nil (zn g))) ?_
          refine dq 51 rfl (fun _ g u h => LWo.move (e_bool (!x23)) u.1 (hn := .nil (zn g))) ?_
          refine dq 52 rfl (fun _ g u h => LWo.guardNU (t := 51) u.2.1 h24 rfl rfl rfl rfl rfl (.nil (zn g))) ?_
          refine dq 53 rfl (fun _ g u h => LWo.guardNU (t := 51) u.1 h24 rfl rfl rfl rfl rfl (.nil (zn g))) ?_
          refine dq 54 rfl (fun _ g u h => LWo.guardNU (t := 51) u.1 h24 rfl rfl rfl rfl rfl (.nil (zn g))) ?_
          refine dq 55 rfl (fun _ g u h => LWo.guardU (t := 54) u.2.1 rfl rfl rfl rfl (.nil (zn g))) ?_
          refine dq 56 rfl (fun _ g u h => LWo.guardU (t := 54) u.2.1 rfl rfl rfl rfl (.nil (zn g))) ?_
          refine dq 57 rfl (fun _ g u h => LWo.guardU (t := 54) u.1 rfl rfl rfl rfl (.nil (zn g))) ?_
          refine dq 58 rfl (fun _ g u h => LWo.guardU (t := 54) u.1 rfl rfl rfl rfl (.nil (zn g))) ?_
          refine dq 59 rfl (fun _ g u h => LWo.guardU (t := 54) u.1 rfl rfl rfl rfl (.nil (zn g))) ?_
          refine dq 60 rfl (fun _ g u h => LWo.guardU (t := 54) u.1 rfl rfl rfl rfl (.nil (zn g))) ?_
          refine dq 61 rfl (fun _ g u h => LWo.guardU (t := 54) u.2.1 rfl rfl rfl rfl (.nil (zn g))) ?_
          refine dq 62 rfl (fun _ g u h => LWo.guardU (t := 54) u.1 rfl rfl rfl rfl (.nil (zn g))) ?_
          refine dq 63 rfl (fun _ g u h => LWo.guardU (t := 54) u.1 rfl rfl rfl rfl (.nil (zn g))) ?_
          refine dq 64 rfl (fun _ g u h => LWo.guardU (t := 54) u.1 rfl rfl rfl rfl (.nil (zn g))) ?_
          refine dq 65 rfl (fun _ g u h => LWo.guardNU (t := 51) u.1 h24 rfl rfl rfl rfl rfl (.nil (zn g))) ?_
          refine dq 66 rfl (fun _ g u h => LWo.pickTM (e_bool true) u.1 h24 rfl (hn := .nil (zn g))) ?_
          refine ⟨rfl, by kernel_rfl, hN13 (t0, t3, true) _ ⟨rfl, rfl, rfl, trivial⟩ trivial h⟩
         ·have h := bF h24 h
          refine bS (decide (t3 > (0 : Int))) (fun h25 => ?_) (fun h25 => ?_)
          ·have h := bT h25 h
           refine bk h fun x26 e26 h => ?_
           refine bk h fun x27 e27 h => ?_
           refine bk h fun x28 e28 h => ?_
           refine LWP.drawF (l := [_,_,_,_,_,_,_,_,_,_,_,_,_,_,_,_,_,_,_,_,_,_,_,_,_,_,_,_,_,_,_,_,_,_,_,_,_,_,_,_,_,_,_,_,_,_,_,_,_,_,_,_]) [] [0, 3, 4] [([4], []), ([15], [4]), ([16], []), ([17], []), ([18], []), ([4, 19], []), ([19, 20], [4]), ([19, 21], []), ([19, 22], []), ([19, 23], []), ([24], []), ([4, 25], []), ([25, 26], [4]), ([25, 27], []), ([25, 28], []), ([25, 29], []), ([30], []), ([4, 31], []), ([31, 32], [4]), ([4, 31], []), ([31, 34], [4]), ([31, 33, 35], []), ([31, 36], []), ([31, 37], []), ([38], []), ([4, 39], []), ([39, 40], [4]), ([4, 39], []), ([39, 42], [4]), ([39, 43], []), ([4, 39], []), ([39, 45], [4]), ([39, 46], []), ([39, 41, 44, 47], []), ([39, 48], []), ([39, 49], []), ([50], []), ([3, 51], []), ([51, 52], []), ([51, 53], []), ([0, 54], []), ([3, 54], []), ([54, 56], []), ([54, 55, 57], []), ([54, 58], []), ([54, 59], []), ([4, 54], []), ([54, 61], [4]), ([54, 60, 62], []), ([54, 63], []), ([51, 54, 64], []), ([51, 65], [])] [0, 3, 66] [] mixed (by kernel_rfl) rfl (by decide) ?_
           refine dq 15 rfl (fun _ g u h => LWo.fieldPtr u_impl_Tally rfl s_Limpl_Value u.1 rfl (hn := .nil (zn g))) ?_
           refine dq 16 rfl (fun _ g u h => LWo.loadV1 (e_Limpl_Value y12.Key)  g_Limpl_Value u.1 h.1 rfl (hn := .nil (zn g))) ?_
           refine dq 17 rfl (fun _ g u h => LWo.vcall rfl (av1 u.1) (c_spec_RowOk _ _ e14) (.same (.nil)) (hn := .nil (zn g))) ?_
           refine dq 18 rfl (fun _ g u h => LWo.not u.1 (hn := .nil (zn g))) ?_
           refine dq 19 rfl (fun _ g u h => LWo.move (e_bool (!x14)) u.1 (hn := .nil (zn g))) ?_
           refine dq 20 rfl (fun _ g u h => LWo.guardY (t := 19) u.2.1 h15 rfl rfl (LWo.fieldPtr u_impl_Tally rfl s_Limpl_Value u.1 rfl (hn := .nil (zn g)))) ?_
           refine dq 21 rfl (fun _ g u h => LWo.guardY (t := 19) u.1 h15 rfl rfl (LWo.loadV1 (e_Limpl_Value y12.Key)  g_Limpl_Value u.2.1 h.1 rfl (hn := .nil (zn g)))) ?_
           refine dq 22 rfl (fun _ g u h => LWo.guardY (t := 19) u.1 h15 rfl rfl (LWo.lenM (f := e_impl_Value) (l := y12.Key) u_Limpl_Value u.2.1 (hn := .nil (zn g)))) ?_
           refine dq 23 rfl (fun _ g u h => LWo.guardY (t := 19) u.1 h15 rfl rfl (LWo.int _ u.2.1 rfl rfl (hn := .nil (zn g)))) ?_
           refine dq 24 rfl (fun _ g u h => LWo.pickFM (e_bool ((y12.Key.length : Int) != (1 : Int))) u.1 h15 u.2.1 (hn := .nil (zn g))) ?_
           refine dq 25 rfl (fun _ g u h => LWo.move (e_bool ((y12.Key.length : Int) != (1 : Int))) u.1 (hn := .nil (zn g))) ?_
           refine dq 26 rfl (fun _ g u h => LWo.guardY (t := 25) u.2.1 h16 rfl rfl (LWo.fieldPtr u_impl_Tally rfl s_int u.1 rfl (hn := .nil (zn g)))) ?_
           refine dq 27 rfl (fun _ g u h => LWo.guardY (t := 25) u.1 h16 rfl rfl (LWo.loadV1 (e_int y12.Rows)  g_int u.2.1 h.1 rfl (hn := .nil (zn g)))) ?_
           refine dq 28 rfl (fun _ g u h => LWo.guardY (t := 25) u.1 h16 rfl rfl (LWo.vcall rfl (av3 u.2.1 rfl rfl) (c_spec_l1In _ _ _ _ e17) (.same (.same (.same (.nil)))) (hn := .nil (zn g)))) ?_
           refine dq 29 rfl (fun _ g u h => LWo.guardY (t := 25) u.1 h16 rfl rfl (LWo.not u.2.1 (hn := .nil (zn g)))) ?_
           refine dq 30 rfl (fun _ g u h => LWo.pickFM (e_bool (!x17)) u.1 h16 u.2.1 (hn := .nil (zn g))) ?_
           refine dq 31 rfl (fun _ g u h => LWo.move (e_bool (!x17)) u.1 (hn := .nil (zn g))) ?_
           refine dq 32 rfl (fun _ g u h => LWo.guardY (t := 31) u.2.1 h18 rfl rfl (LWo.fieldPtr u_impl_Tally rfl s_int u.1 rfl (hn := .nil (zn g)))) ?_
           refine dq 33 rfl (fun _ g u h => LWo.guardY (t := 31) u.1 h18 rfl rfl (LWo.loadV1 (e_int y12.Many)  g_int u.2.1 h.1 rfl (hn := .nil (zn g)))) ?_
           refine dq 34 rfl (fun _ g u h => LWo.guardY (t := 31) u.2.1 h18 rfl rfl (LWo.fieldPtr u_impl_Tally rfl s_int u.1 rfl (hn := .nil (zn g)))) ?_
           refine dq 35 rfl (fun _ g u h => LWo.guardY (t := 31) u.1 h18 rfl rfl (LWo.loadV1 (e_int y12.Rows)  g_int u.2.1 h.1 rfl (hn := .nil (zn g)))) ?_
           refine dq 36 rfl (fun _ g u h => LWo.guardY (t := 31) u.1 h18 rfl rfl (LWo.vcall rfl (av3 u.2.1 rfl u.2.2.1) (c_spec_l1In _ _ _ _ e19) (.same (.same (.same (.nil)))) (hn := .nil (zn g)))) ?_
           refine dq 37 rfl (fun _ g u h => LWo.guardY (t := 31) u.1 h18 rfl rfl (LWo.not u.2.1 (hn := .nil (zn g)))) ?_
           refine dq 38 rfl (fun _ g u h => LWo.pickFM (e_bool (!x19)) u.1 h18 u.2.1 (hn := .nil (zn g))) ?_
           refine dq 39 rfl (fun _ g u h => LWo.move (e_bool (!x19)) u.1 (hn := .nil (zn g))) ?_
           refine dq 40 rfl (fun _ g u h => LWo.guardY (t := 39) u.2.1 h20 rfl rfl (LWo.fieldPtr u_impl_Tally rfl s_int u.1 rfl (hn := .nil (zn g)))) ?_
           refine dq 41 rfl (fun _ g u h => LWo.guardY (t := 39) u.1 h20 rfl rfl (LWo.loadV1 (e_int y12.Sum)  g_int u.2.1 h.1 rfl (hn := .nil (zn g)))) ?_
           refine dq 42 rfl (fun _ g u h => LWo.guardY (t := 39) u.2.1 h20 rfl rfl (LWo.fieldPtr u_impl_Tally rfl s_int u.1 rfl (hn := .nil (zn g)))) ?_
           refine dq 43 rfl (fun _ g u h => LWo.guardY (t := 39) u.1 h20 rfl rfl (LWo.loadV1 (e_int y12.Many)  g_int u.2.1 h.1 rfl (hn := .nil (zn g)))) ?_
           refine dq 44 rfl (fun _ g u h => LWo.guardY (t := 39) u.1 h20 rfl rfl (LWo.int _ rfl u.2.1 (mul_ck e21) (hn := .nil (zn g)))) ?_
           refine dq 45 rfl (fun _ g u h => LWo.guardY (t := 39) u.2.1 h20 rfl rfl (LWo.fieldPtr u_impl_Tally rfl s_int u.1 rfl (hn := .nil (zn g)))) ?_
           refine dq 46 rfl (fun _ g u h => LWo.guardY (t := 39) u.1 h20 rfl rfl (LWo.loadV1 (e_int y12.Many)  g_int u.2.1 h.1 rfl (hn := .nil (zn g)))) ?_
           refine dq 47 rfl (fun _ g u h => LWo.guardY (t := 39) u.1 h20 rfl rfl (LWo.int _ rfl u.2.1 (mul_ck e22) (hn := .nil (zn g)))) ?_
           refine dq 48 rfl (fun _ g u h => LWo.guardY (t := 39) u.1 h20 rfl rfl (LWo.vcall rfl (av3 u.2.1 u.2.2.1 u.2.2.2.1) (c_spec_l1In _ _ _ _ e23) (.same (.same (.same (.nil)))) (hn := .nil (zn g)))) ?_
           refine dq 49 rfl (fun _ g u h => LWo.guardY (t := 39) u.1 h20 rfl rfl (LWo.not u.2.1 (hn := .nil (zn g)))) ?_
           refine dq 50 rfl (fun _ g u h => LWo.pickFM (e_bool (!x23)) u.1 h20 u.2.1 (hn := .nil (zn g))) ?_
           refine dq 51 rfl (fun _ g u h => LWo.move (e_bool (!x23)) u.1 (hn := .nil (zn g))) ?_
           refine dq 52 rfl (fun _ g u h => LWo.guardY (t := 51) u.2.1 h24 rfl rfl (LWo.move (e_int t3) u.1 (hn := .nil (zn g)))) ?_
           refine dq 53 rfl (fun _ g u h => LWo.guardY (t := 51) u.1 h24 rfl rfl (LWo.int _ u.2.1 rfl rfl (hn := .nil (zn g)))) ?_
           refine dq 54 rfl (fun _ g u h => LWo.guardY (t := 51) u.1 h24 rfl rfl (LWo.move (e_bool (decide (t3 > (0 : Int)))) u.2.1 (hn := .nil (zn g)))) ?_
           refine dq 55 rfl (fun _ g u h => LWo.guardY (t := 54) u.2.1 h25 rfl rfl (LWo.move (e_Limpl_Tally t0) u.1 (hn := .nil (zn g)))) ?_
           refine dq 56 rfl (fun _ g u h => LWo.guardY (t := 54) u.2.1 h25 rfl rfl (LWo.move (e_int t3) u.1 (hn := .nil (zn g)))) ?_
           refine dq 57 rfl (fun _ g u h => LWo.guardY (t := 54) u.1 h25 rfl rfl (LWo.int _ u.2.1 rfl (sub_ck e26) (hn := .nil (zn g)))) ?_
           refine dq 58 rfl (fun _ g u h => LWo.guardY (t := 54) u.1 h25 rfl rfl (LWo.indexM (f := e_impl_Tally) e27 u_Limpl_Tally s_impl_Tally u.2.1 u.2.2.1 (hn := .nil (zn g)))) ?_
           refine dq 59 rfl (fun _ g u h => LWo.guardY (t := 54) u.1 h25 rfl rfl (LWo.fieldAddr _ u_impl_Tally rfl s_Limpl_Value u.2.1 rfl (hn := .nil (zn g)))) ?_
           refine dq 60 rfl (fun _ g u h => LWo.guardY (t := 54) u.1 h25 rfl rfl (LWo.load1 (c := (e_Limpl_Value x27.Key)) g_Limpl_Value u.2.1 (hn := .nil (zn g)))) ?_
           refine dq 61 rfl (fun _ g u h => LWo.guardY (t := 54) u.2.1 h25 rfl rfl (LWo.fieldPtr u_impl_Tally rfl s_Limpl_Value u.1 rfl (hn := .nil (zn g)))) ?_
           refine dq 62 rfl (fun _ g u h => LWo.guardY (t := 54) u.1 h25 rfl rfl (LWo.loadV1 (e_Limpl_Value y12.Key)  g_Limpl_Value u.2.1 h.1 rfl (hn := .nil (zn g)))) ?_
           refine dq 63 rfl (fun _ g u h => LWo.guardY (t := 54) u.1 h25 rfl rfl (LWo.vcall rfl (av2 u.2.1 u.2.2.1) (c_spec_RowOrder _ _ _ e28) (.same (.same (.nil))) (hn := .nil (zn g)))) ?_
           refine dq 64 rfl (fun _ g u h => LWo.guardY (t := 54) u.1 h25 rfl rfl (LWo.int _ u.2.1 rfl rfl (hn := .nil (zn g)))) ?_
           refine dq 65 rfl (fun _ g u h => LWo.guardY (t := 51) u.1 h24 rfl rfl (LWo.pickTM (e_bool (decide (x28 ≥ (0 : Int)))) u.2.1 h25 u.2.2.1 (hn := .nil (zn g)))) ?_
           refine dq 66 rfl (fun _ g u h => LWo.pickFM (e_bool (decide (x28 ≥ (0 : Int)))) u.1 h24 u.2.1 (hn := .nil (zn g))) ?_
           refine ⟨rfl, by kernel_rfl, hN13 (t0, t3, decide (x28 ≥ (0 : Int))) _ ⟨rfl, rfl, rfl, trivial⟩ trivial h⟩
          ·have h := bF h25 h
           refine LWP.drawF (l := [_,_,_,_,_,_,_,_,_,_,_,_,_,_,_,_,_,_,_,_,_,_,_,_,_,_,_,_,_,_,_,_,_,_,_,_,_,_,_,_,_,_,_,_,_,_,_,_,_,_,_,_]) [] [0, 3, 4] [([4], []), ([15], [4]), ([16], []), ([17], []), ([18], []), ([4, 19], []), ([19, 20], [4]), ([19, 21], []), ([19, 22], []), ([19, 23], []), ([24], []), ([4, 25], []), ([25, 26], [4]), ([25, 27], []), ([25, 28], []), ([25, 29], []), ([30], []), ([4, 31], []), ([31, 32], [4]), ([4, 31], []), ([31, 34], [4]), ([31, 33, 35], []), ([31, 36], []), ([31, 37], []), ([38], []), ([4, 39], []), ([39, 40], [4]), ([4, 39], []), ([39, 42], [4]), ([39, 43], []), ([4, 39], []), ([39, 45], [4]), ([39, 46], []), ([39, 41, 44, 47], []), ([39, 48], []), ([39, 49], []), ([50], []), ([3, 51], []), ([51, 52], []), ([51, 53], []), ([0, 54], []), ([3, 54], []), ([54, 56], []), ([54, 55, 57], []), ([54, 58], []), ([54, 59], []), ([4, 54], []), ([54, 61], []), ([54, 60, 62], []), ([54, 63], []), ([51, 54, 64], []), ([51, 65], [])] [0, 3, 66] [] mixed (by kernel_rfl) rfl (by decide) ?_
           refine dq 15 rfl (fun _ g u h => LWo.fieldPtr u_impl_Tally rfl s_Limpl_Value u.1 rfl (hn := .nil (zn g))) ?_
           refine dq 16 rfl (fun _ g u h => LWo.loadV1 (e_Limpl_Value y12.Key)  g_Limpl_Value u.1 h.1 rfl (hn := .nil (zn g))) ?_
           refine dq 17 rfl (fun _ g u h => LWo.vcall rfl (av1 u.1) (c_spec_RowOk _ _ e14) (.same (.nil)) (hn := .nil (zn g))) ?_
           refine dq 18 rfl (fun _ g u h => LWo.not u.1 (hn := .nil (zn g))) ?_
           refine dq 19 rfl (fun _ g u h => LWo.move (e_bool (!x14)) u.1 (hn := .nil (zn g))) ?_
           refine dq 20 rfl (fun _ g u h => LWo.guardY (t := 19) u.2.1 h15 rfl rfl (LWo.fieldPtr u_impl_Tally rfl s_Limpl_Value u.1 rfl (hn := .nil (zn g)))) ?_
           refine dq 21 rfl (fun _ g u h => LWo.guardY (t := 19) u.1 h15 rfl rfl (LWo.loadV1 (e_Limpl_Value y12.Key)  g_Limpl_Value u.2.1 h.1 rfl (hn := .nil (zn g)))) ?_
           refine dq 22 rfl (fun _ g u h => LWo.guardY (t := 19) u.1 h15 rfl rfl (LWo.lenM (f := e_impl_Value) (l := y12.Key) u_Limpl_Value u.2.1 (hn := .nil (zn g)))) ?_
           refine dq 23 rfl (fun _ g u h => LWo.guardY (t := 19) u.1 h15 rfl rfl (LWo.int _ u.2.1 rfl rfl (hn := .nil (zn g)))) ?_
           refine dq 24 rfl (fun _ g u h => LWo.pickFM (e_bool ((y12.Key.length : Int) != (1 : Int))) u.1 h15 u.2.1 (hn := .nil (zn g))) ?_
           refine dq 25 rfl (fun _ g u h => LWo.move (e_bool ((y12.Key.length : Int) != (1 : Int))) u.1 (hn := .nil (zn g))) ?_
           refine dq 26 rfl (fun _ g u h => LWo.guardY (t := 25) u.2.1 h16 rfl rfl (LWo.fieldPtr u_impl_Tally rfl s_int u.1 rfl (hn := .nil (zn g)))) ?_
           refine dq 27 rfl (fun _ g u h => LWo.guardY (t := 25) u.1 h16 rfl rfl (LWo.loadV1 (e_int y12.Rows)  g_int u.2.1 h.1 rfl (hn := .nil (zn g)))) ?_
           refine dq 28 rfl (fun _ g u h => LWo.guardY (t := 25) u.1 h16 rfl rfl (LWo.vcall rfl (av3 u.2.1 rfl rfl) (c_spec_l1In _ _ _ _ e17) (.same (.same (.same (.nil)))) (hn := .nil (zn g)))) ?_
           refine dq 29 rfl (fun _ g u h => LWo.guardY (t := 25) u.1 h16 rfl rfl (LWo.not u.2.1 (hn := .nil (zn g)))) ?_
           refine dq 30 rfl (fun _ g u h => LWo.pickFM (e_bool (!x17)) u.1 h16 u.2.1 (hn := .nil (zn g))) ?_
           refine dq 31 rfl (fun _ g u h => LWo.move (e_bool (!x17)) u.1 (hn := .nil (zn g))) ?_
           refine dq 32 rfl (fun _ g u h => LWo.guardY (t := 31) u.2.1 h18 rfl rfl (LWo.fieldPtr u_impl_Tally rfl s_int u.1 rfl (hn := .nil (zn g)))) ?_
           refine dq 33 rfl (fun _ g u h => LWo.guardY (t := 31) u.1 h18 rfl rfl (LWo.loadV1 (e_int y12.Many)  g_int u.2.1 h.1 rfl (hn := .nil (zn g)))) ?_
           refine dq 34 rfl (fun _ g u h => LWo.guardY (t := 31) u.2.1 h18 rfl rfl (LWo.fieldPtr u_impl_Tally rfl s_int u.1 rfl (hn := .nil (zn g)))) ?_
           refine dq 35 rfl (fun _ g u h => LWo.guardY (t := 31) u.1 h18 rfl rfl (LWo.loadV1 (e_int y12.Rows)  g_int u.2.1 h.1 rfl (hn := .nil (zn g)))) ?_
           refine dq 36 rfl (fun _ g u h => LWo.guardY (t := 31) u.1 h18 rfl rfl (LWo.vcall rfl (av3 u.2.1 rfl u.2.2.1) (c_spec_l1In _ _ _ _ e19) (.same (.same (.same (.nil)))) (hn := .nil (zn g)))) ?_
           refine dq 37 rfl (fun _ g u h => LWo.guardY (t := 31) u.1 h18 rfl rfl (LWo.not u.2.1 (hn := .nil (zn g)))) ?_
           refine dq 38 rfl (fun _ g u h => LWo.pickFM (e_bool (!x19)) u.1 h18 u.2.1 (hn := .nil (zn g))) ?_
           refine dq 39 rfl (fun _ g u h => LWo.move (e_bool (!x19)) u.1 (hn := .nil (zn g))) ?_
           refine dq 40 rfl (fun _ g u h => LWo.guardY (t := 39) u.2.1 h20 rfl rfl (LWo.fieldPtr u_impl_Tally rfl s_int u.1 rfl (hn := .nil (zn g)))) ?_
           refine dq 41 rfl (fun _ g u h => LWo.guardY (t := 39) u.1 h20 rfl rfl (LWo.loadV1 (e_int y12.Sum)  g_int u.2.1 h.1 rfl (hn := .nil (zn g)))) ?_
           refine dq 42 rfl (fun _ g u h => LWo.guardY (t := 39) u.2.1 h20 rfl rfl (LWo.fieldPtr u_impl_Tally rfl s_int u.1 rfl (hn := .nil (zn g)))) ?_
           refine dq 43 rfl (fun _ g u h => LWo.guardY (t := 39) u.1 h20 rfl rfl (LWo.loadV1 (e_int y12.Many)  g_int u.2.1 h.1 rfl (hn := .nil (zn g)))) ?_
           refine dq 44 rfl (fun _ g u h => LWo.guardY (t := 39) u.1 h20 rfl rfl (LWo.int _ rfl u.2.1 (mul_ck e21) (hn := .nil (zn g)))) ?_
           refine dq 45 rfl (fun _ g u h => LWo.guardY (t := 39) u.2.1 h20 rfl rfl (LWo.fieldPtr u_impl_Tally rfl s_int u.1 rfl (hn := .nil (zn g)))) ?_
           refine dq 46 rfl (fun _ g u h => LWo.guardY (t := 39) u.1 h20 rfl rfl (LWo.loadV1 (e_int y12.Many)  g_int u.2.1 h.1 rfl (hn := .nil (zn g)))) ?_
           refine dq 47 rfl (fun _ g u h => LWo.guardY (t := 39) u.1 h20 rfl rfl (LWo.int _ rfl u.2.1 (mul_ck e22) (hn := .nil (zn g)))) ?_
           refine dq 48 rfl (fun _ g u h => LWo.guardY (t := 39) u.1 h20 rfl rfl (LWo.vcall rfl (av3 u.2.1 u.2.2.1 u.2.2.2.1) (c_spec_l1In _ _ _ _ e23) (.same (.same (.same (.nil)))) (hn := .nil (zn g)))) ?_
           refine dq 49 rfl (fun _ g u h => LWo.guardY (t := 39) u.1 h20 rfl rfl (LWo.not u.2.1 (hn := .nil (zn g)))) ?_
           refine dq 50 rfl (fun _ g u h => LWo.pickFM (e_bool (!x23)) u.1 h20 u.2.1 (hn := .nil (zn g))) ?_
           refine dq 51 rfl (fun _ g u h => LWo.move (e_bool (!x23)) u.1 (hn := .nil (zn g))) ?_
           refine dq 52 rfl (fun _ g u h => LWo.guardY (t := 51) u.2.1 h24 rfl rfl (LWo.move (e_int t3) u.1 (hn := .nil (zn g)))) ?_
           refine dq 53 rfl (fun _ g u h => LWo.guardY (t := 51) u.1 h24 rfl rfl (LWo.int _ u.2.1 rfl rfl (hn := .nil (zn g)))) ?_
           refine dq 54 rfl (fun _ g u h => LWo.guardY (t := 51) u.1 h24 rfl rfl (LWo.move (e_bool (decide (t3 > (0 : Int)))) u.2.1 (hn := .nil (zn g)))) ?_
           refine dq 55 rfl (fun _ g u h => LWo.guardNU (t := 54) u.2.1 h25 rfl rfl rfl rfl rfl (.nil (zn g))) ?_
           refine dq 56 rfl (fun _ g u h => LWo.guardNU (t := 54) u.2.1 h25 rfl rfl rfl rfl rfl (.nil (zn g))) ?_
           refine dq 57 rfl (fun _ g u h => LWo.guardNU (t := 54) u.1 h25 rfl rfl rfl rfl rfl (.nil (zn g))) ?_
           refine dq 58 rfl (fun _ g u h => LWo.guardNU (t := 54) u.1 h25 rfl rfl rfl rfl rfl (.nil (zn g))) ?_
           refine dq 59 rfl (fun _ g u h => LWo.guardNU (t := 54) u.1 h25 rfl rfl rfl rfl rfl (.nil (zn g))) ?_
           refine dq 60 rfl (fun _ g u h => LWo.guardNU (t := 54) u.1 h25 rfl rfl rfl rfl rfl (.nil (zn g))) ?_
           refine dq 61 rfl (fun _ g u h => LWo.guardNU (t := 54) u.2.1 h25 rfl rfl rfl rfl rfl (.nil (zn g))) ?_
           refine dq 62 rfl (fun _ g u h => LWo.guardNU (t := 54) u.1 h25 rfl rfl rfl rfl rfl (.nil (zn g))) ?_
           refine dq 63 rfl (fun _ g u h => LWo.guardNU (t := 54) u.1 h25 rfl rfl rfl rfl rfl (.nil (zn g))) ?_
           refine dq 64 rfl (fun _ g u h => LWo.guardNU (t := 54) u.1 h25 rfl rfl rfl rfl rfl (.nil (zn g))) ?_
           refine dq 65 rfl (fun _ g u h => LWo.guardY (t := 51) u.1 h24 rfl rfl (LWo.pickFM (e_bool false) u.2.1 h25 rfl (hn := .nil (zn g)))) ?_
           refine dq 66 rfl (fun _ g u h => LWo.pickFM (e_bool false) u.1 h24 u.2.1 (hn := .nil (zn g))) ?_
           refine ⟨rfl, by kernel_rfl, hN13 (t0, t3, false) _ ⟨rfl, rfl, rfl, trivial⟩ trivial h⟩
   ·have h := bF h8 h
    refine LWP.exit (hN2 () _ trivial trivial h)
end Go.Proofs.Ytijihchddhikhaa
