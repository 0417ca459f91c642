/- Mirrors of functions, and that the functions return what the mirrors say. -/
import Derived.Test.YtgepipglchpabaaXW1
set_option linter.unusedVariables false
set_option linter.unusedSimpArgs false
set_option linter.unnecessarySimpa false
namespace Go.Proofs.Ytgepipglchpabaa
open Go.Proofs Go.Lift Go.RowKit
def m_spec_RowsOk_j1 (t0 : (List S_impl_Column)) : Option Bool :=
  (m_spec_ColumnsOk t0).bind fun x17 =>
  some x17
def m_spec_RowsOk_l1 : Nat → (List S_impl_Column) → (List (List S_impl_Value)) → Int → Option Bool
  | 0, _, _, _ => none
  | n1 + 1, t0, t1, t5 =>
    bif decide (t5 < (t1.length : Int)) then ((at? t1 t5).bind fun x11 =>
    (m_spec_RowFits t0 x11).bind fun x12 =>
    bif (!x12) then (some false)
    else ((ckI (t5 + (1 : Int))).bind fun x15 =>
    (m_spec_RowsOk_l1  n1) t0 t1 x15))
    else (m_spec_RowsOk_j1  t0)
def m_spec_RowsOk (a0 : (List S_impl_Column)) (a1 : (List (List S_impl_Value))) : Option Bool :=
  m_spec_RowsOk_l1  (((a1.length : Int) - (0 : Int)).toNat + 1) a0 a1 (0 : Int)
theorem c_spec_RowsOk (a0 : (List S_impl_Column)) (a1 : (List (List S_impl_Value))) (r : Bool) (h : m_spec_RowsOk a0 a1 = some r) : Ret Try.prog f_spec_RowsOk [e_Limpl_Column a0, e_LLimpl_Value a1] (e_bool r) := by
  refine Does.goG [] F_spec_RowsOk rfl e_spec_RowsOk n_spec_RowsOk rfl (rvs := [.tmp 4]) rfl rfl ?_
  intro w0 ok0 lent ρ0
  refine LWP.seq_k fun N1 hN1 => ?_
  refine LWP.region (l := [_]) ?_
  refine LWo.assign (e_bool false) rfl (hn := ?_)
  refine LWo.nil (hN1 _ ?_)
  refine LWP.join (α := (List S_impl_Column)) (fun z : (List S_impl_Column) => [(0, (e_Limpl_Column z))]) (fun z : (List S_impl_Column) => []) (fun z : (List S_impl_Column) => m_spec_RowsOk_j1  z) r (fun _ => by simp [hkeys]) ?_ ?_
  ·rintro t0 h
   replace h : m_spec_RowsOk_j1  t0 = some _ := h
   refine LWP.seq_k fun N16 hN16 => ?_
   refine LWP.region (l := [_,_,_]) ?_
   refine LWo.move (e_Limpl_Column t0) rfl (hn := ?_)
   refine bk h fun x17 e17 h => ?_
   refine LWo.vcall rfl rfl (c_spec_ColumnsOk _ _ e17) (.same (.nil)) (hn := ?_)
   refine LWo.assign (e_bool x17) rfl (hn := ?_)
   refine LWo.nil (hN16 _ ?_)
   obtain rfl := Option.some.inj h
   refine LWP.ret (QG.mk (.inr rfl) (.cons (.tmp (x := (e_bool x17)) rfl) (.nil)) (RetOK.one0 (.pure rfl) (by decide)) rfl rfl)
  ·intro N2 hN2
   refine LWP.seq_k fun N3 hN3 => ?_
   refine LWP.region (l := [_]) ?_
   refine LWo.assign (e_int (0 : Int)) rfl (hn := ?_)
   refine LWo.nil (hN3 _ ?_)
   refine LWP.block ?_
   refine LWP.loopM (α := (List S_impl_Column) × (List (List S_impl_Value)) × Int) (fun z : (List S_impl_Column) × (List (List S_impl_Value)) × Int => [(0, (e_Limpl_Column z.1)), (1, (e_LLimpl_Value z.2.1)), (5, (e_int z.2.2))]) (fun z : (List S_impl_Column) × (List (List S_impl_Value)) × Int => []) (fun n1 (z : (List S_impl_Column) × (List (List S_impl_Value)) × Int) => m_spec_RowsOk_l1  n1 z.1 z.2.1 z.2.2) r _ (a0, a1, (0 : Int)) h (fun _ => rfl) (fun _ => by simp [hkeys]) ⟨rfl, rfl, rfl, trivial⟩ trivial ?_
   rintro n1 ⟨t0, t1, t5⟩ h N4 hN4
   replace h : m_spec_RowsOk_l1  (n1 + 1) t0 t1 t5 = some _ := h
   refine LWP.seq_k fun N6 hN6 => ?_
   refine LWP.seq_k fun N7 hN7 => ?_
   refine LWP.region (l := [_,_,_,_]) ?_
   refine LWo.move (e_int t5) rfl (hn := ?_)
   refine LWo.move (e_LLimpl_Value t1) rfl (hn := ?_)
   refine LWo.lenM (f := e_Limpl_Value) (l := t1) u_LLimpl_Value rfl (hn := ?_)
   refine LWo.int _ rfl rfl rfl (hn := ?_)
   refine LWo.nil (hN7 _ ?_)
   refine LWP.cond_split rfl (fun h8 => ?_) (fun h8 => ?_)
   ·have h := bT h8 h
    refine LWP.skip (hN6 _ ?_)
    refine LWP.seq_k fun N9 hN9 => ?_
    refine LWP.block ?_
    refine LWP.seq_k fun N10 hN10 => ?_
    refine LWP.region (l := [_,_,_,_,_,_,_]) ?_
    refine LWo.move (e_Limpl_Column t0) rfl (hn := ?_)
    refine LWo.move (e_LLimpl_Value t1) rfl (hn := ?_)
    refine LWo.move (e_int t5) rfl (hn := ?_)
    refine bk h fun x11 e11 h => ?_
    refine LWo.indexM (f := e_Limpl_Value) e11 u_LLimpl_Value s_Limpl_Value rfl rfl (hn := ?_)
    refine LWo.load1 (c := (e_Limpl_Value x11)) g_Limpl_Value rfl (hn := ?_)
    refine bk h fun x12 e12 h => ?_
    refine LWo.vcall rfl rfl (c_spec_RowFits _ _ _ e12) (.same (.same (.nil))) (hn := ?_)
    refine LWo.not rfl (hn := ?_)
    refine LWo.nil (hN10 _ ?_)
    refine LWP.cond_split rfl (fun h13 => ?_) (fun h13 => ?_)
    ·have h := bT h13 h
     refine LWP.seq_k fun N14 hN14 => ?_
     refine LWP.region (l := [_]) ?_
     refine LWo.assign (e_bool false) rfl (hn := ?_)
     refine LWo.nil (hN14 _ ?_)
     obtain rfl := Option.some.inj h
     refine LWP.ret (QG.mk (.inr rfl) (.cons (.tmp (x := (e_bool false)) rfl) (.nil)) (RetOK.one0 (.pure rfl) (by decide)) rfl rfl)
    ·have h := bF h13 h
     refine LWP.skip (hN9 _ ?_)
     refine LWP.region (l := [_,_,_]) ?_
     refine LWo.move (e_int t5) rfl (hn := ?_)
     refine bk h fun x15 e15 h => ?_
     refine LWo.int _ rfl rfl (add_ck e15) (hn := ?_)
     refine LWo.assign (e_int x15) rfl (hn := ?_)
     refine LWo.nil (hN4 (t0, t1, x15) _ ⟨rfl, rfl, rfl, trivial⟩ trivial h)
   ·have h := bF h8 h
    refine LWP.exit (hN2 t0 _ ⟨rfl, trivial⟩ trivial h)

def m_spec_TablesOk_j2 (t0 : (List S_impl_Table)) : Option Bool :=
  some (decide ((t0.length : Int) ≤ (3 : Int)))
def m_spec_TablesOk_j1 (k1 : (List S_impl_Table) → Int → Option Bool) (t0 : (List S_impl_Table)) (t3 : Int) (t30 : Bool) : Option Bool :=
  bif t30 then (some false)
  else ((ckI (t3 + (1 : Int))).bind fun x18 =>
  k1 t0 x18)
def m_spec_TablesOk_l1 : Nat → (List S_impl_Table) → Int → Option Bool
  | 0, _, _ => none
  | n1 + 1, t0, t3 =>
    bif decide (t3 < (t0.length : Int)) then ((at? t0 t3).bind fun x11 =>
    bif decide ((x11.Rows.length : Int) > (6 : Int)) then (m_spec_TablesOk_j1  (m_spec_TablesOk_l1  n1) t0 t3 true)
    else ((at? t0 t3).bind fun x13 =>
      (at? t0 t3).bind fun x14 =>
      (m_spec_RowsOk x13.Columns x14.Rows).bind fun x15 =>
      m_spec_TablesOk_j1  (m_spec_TablesOk_l1  n1) t0 t3 (!x15)))
    else (m_spec_TablesOk_j2  t0)
def m_spec_TablesOk (a0 : (List S_impl_Table)) : Option Bool :=
  m_spec_TablesOk_l1  (((a0.length : Int) - (0 : Int)).toNat + 1) a0 (0 : Int)
theorem c_spec_TablesOk (a0 : (List S_impl_Table)) (r : Bool) (h : m_spec_TablesOk a0 = some r) : Ret Try.prog f_spec_TablesOk [e_Limpl_Table a0] (e_bool r) := by
  refine Does.goG [] F_spec_TablesOk rfl e_spec_TablesOk n_spec_TablesOk rfl (rvs := [.tmp 2]) rfl rfl ?_
  intro w0 ok0 lent ρ0
  refine LWP.seq_k fun N1 hN1 => ?_
  refine LWP.region (l := [_]) ?_
  refine LWo.assign (e_bool false) rfl (hn := ?_)
  refine LWo.nil (hN1 _ ?_)
  refine LWP.join (α := (List S_impl_Table)) (fun z : (List S_impl_Table) => [(0, (e_Limpl_Table z))]) (fun z : (List S_impl_Table) => []) (fun z : (List S_impl_Table) => m_spec_TablesOk_j2  z) r (fun _ => by simp [hkeys]) ?_ ?_
  ·rintro t0 h
   replace h : m_spec_TablesOk_j2  t0 = some _ := h
   refine LWP.seq_k fun N19 hN19 => ?_
   refine LWP.region (l := [_,_,_,_]) ?_
   refine LWo.move (e_Limpl_Table t0) rfl (hn := ?_)
   refine LWo.lenM (f := e_impl_Table) (l := t0) u_Limpl_Table rfl (hn := ?_)
   refine LWo.int _ rfl rfl rfl (hn := ?_)
   refine LWo.assign (e_bool (decide ((t0.length : Int) ≤ (3 : Int)))) rfl (hn := ?_)
   refine LWo.nil (hN19 _ ?_)
   obtain rfl := Option.some.inj h
   refine LWP.ret (QG.mk (.inr rfl) (.cons (.tmp (x := (e_bool (decide ((t0.length : Int) ≤ (3 : Int))))) rfl) (.nil)) (RetOK.one0 (.pure rfl) (by decide)) rfl rfl)
  ·intro N2 hN2
   refine LWP.seq_k fun N3 hN3 => ?_
   refine LWP.region (l := [_]) ?_
   refine LWo.assign (e_int (0 : Int)) rfl (hn := ?_)
   refine LWo.nil (hN3 _ ?_)
   refine LWP.block ?_
   refine LWP.loopM (α := (List S_impl_Table) × Int) (fun z : (List S_impl_Table) × Int => [(0, (e_Limpl_Table z.1)), (3, (e_int z.2))]) (fun z : (List S_impl_Table) × Int => []) (fun n1 (z : (List S_impl_Table) × Int) => m_spec_TablesOk_l1  n1 z.1 z.2) r _ (a0, (0 : Int)) h (fun _ => rfl) (fun _ => by simp [hkeys]) ⟨rfl, rfl, trivial⟩ trivial ?_
   rintro n1 ⟨t0, t3⟩ h N4 hN4
   replace h : m_spec_TablesOk_l1  (n1 + 1) t0 t3 = some _ := h
   refine LWP.seq_k fun N6 hN6 => ?_
   refine LWP.seq_k fun N7 hN7 => ?_
   refine LWP.region (l := [_,_,_,_]) ?_
   refine LWo.move (e_int t3) rfl (hn := ?_)
   refine LWo.move (e_Limpl_Table t0) rfl (hn := ?_)
   refine LWo.lenM (f := e_impl_Table) (l := t0) u_Limpl_Table rfl (hn := ?_)
   refine LWo.int _ rfl rfl rfl (hn := ?_)
   refine LWo.nil (hN7 _ ?_)
   refine LWP.cond_split rfl (fun h8 => ?_) (fun h8 => ?_)
   ·have h := bT h8 h
    refine LWP.skip (hN6 _ ?_)
    refine LWP.seq_k fun N9 hN9 => ?_
    refine LWP.block ?_
    refine LWP.join (α := (List S_impl_Table) × Int × Bool) (fun z : (List S_impl_Table) × Int × Bool => [(0, (e_Limpl_Table z.1)), (3, (e_int z.2.1)), (30, (e_bool z.2.2))]) (fun z : (List S_impl_Table) × Int × Bool => []) (fun z : (List S_impl_Table) × Int × Bool => m_spec_TablesOk_j1  (m_spec_TablesOk_l1  n1) z.1 z.2.1 z.2.2) r (fun _ => by simp [hkeys]) ?_ ?_
    ·rintro ⟨t0, t3, t30⟩ h
     replace h : m_spec_TablesOk_j1  (m_spec_TablesOk_l1  n1) t0 t3 t30 = some _ := h
     refine LWP.cond_split rfl (fun h16 => ?_) (fun h16 => ?_)
     ·have h := bT h16 h
      refine LWP.seq_k fun N17 hN17 => ?_
      refine LWP.region (l := [_]) ?_
      refine LWo.assign (e_bool false) rfl (hn := ?_)
      refine LWo.nil (hN17 _ ?_)
      obtain rfl := Option.some.inj h
      refine LWP.ret (QG.mk (.inr rfl) (.cons (.tmp (x := (e_bool false)) rfl) (.nil)) (RetOK.one0 (.pure rfl) (by decide)) rfl rfl)
     ·have h := bF h16 h
      refine LWP.skip (hN9 _ ?_)
      refine LWP.region (l := [_,_,_]) ?_
      refine LWo.move (e_int t3) rfl (hn := ?_)
      refine bk h fun x18 e18 h => ?_
      refine LWo.int _ rfl rfl (add_ck e18) (hn := ?_)
      refine LWo.assign (e_int x18) rfl (hn := ?_)
      refine LWo.nil (hN4 (t0, x18) _ ⟨rfl, rfl, trivial⟩ trivial h)
    ·intro N10 hN10
     refine bk h fun x11 e11 h => ?_
     refine bS (decide ((x11.Rows.length : Int) > (6 : Int))) (fun h12 => ?_) (fun h12 => ?_)
     ·have h := bT h12 h
      refine LWP.drawF (l := [_,_,_,_,_,_,_,_,_,_,_,_,_,_,_,_,_,_,_,_,_]) [] [0, 3] [([0], []), ([3], []), ([10, 11], []), ([12], []), ([13], []), ([14], []), ([15], []), ([16], []), ([0, 17], []), ([3, 17], []), ([17, 18, 19], []), ([17, 20], []), ([17, 21], []), ([0, 17], []), ([3, 17], []), ([17, 23, 24], []), ([17, 25], []), ([17, 26], []), ([17, 22, 27], []), ([17, 28], []), ([17, 29], [])] [0, 3, 30] [] mixed (by kernel_rfl) rfl (by decide) ?_
      refine dq 10 rfl (fun _ g u h => LWo.move (e_Limpl_Table t0) u.1 (hn := .nil (zn g))) ?_
      refine dq 11 rfl (fun _ g u h => LWo.move (e_int t3) u.1 (hn := .nil (zn g))) ?_
      refine dq 12 rfl (fun _ g u h => LWo.indexM (f := e_impl_Table) e11 u_Limpl_Table s_impl_Table u.1 u.2.1 (hn := .nil (zn g))) ?_
      refine dq 13 rfl (fun _ g u h => LWo.fieldAddr _ u_impl_Table rfl s_LLimpl_Value u.1 rfl (hn := .nil (zn g))) ?_
      refine dq 14 rfl (fun _ g u h => LWo.load1 (c := (e_LLimpl_Value x11.Rows)) g_LLimpl_Value u.1 (hn := .nil (zn g))) ?_
      refine dq 15 rfl (fun _ g u h => LWo.lenM (f := e_Limpl_Value) (l := x11.Rows) u_LLimpl_Value u.1 (hn := .nil (zn g))) ?_
      refine dq 16 rfl (fun _ g u h => LWo.int _ u.1 rfl rfl (hn := .nil (zn g))) ?_
      refine dq 17 rfl (fun _ g u h => LWo.move (e_bool (decide ((x11.Rows.length : Int) > (6 : Int)))) u.1 (hn := .nil (zn g))) ?_
      refine dq 18 rfl (fun _ g u h => LWo.guardNU (t := 17) u.2.1 h12 rfl rfl rfl rfl rfl (.nil (zn g))) ?_
      refine dq 19 rfl (fun _ g u h => LWo.guardNU (t := 17) u.2.1 h12 rfl rfl rfl rfl rfl (.nil (zn g))) ?_
      refine dq 20 rfl (fun _ g u h => LWo.guardNU (t := 17) u.1 h12 rfl rfl rfl rfl rfl (.nil (zn g))) ?_
      refine dq 21 rfl (fun _ g u h => LWo.guardNU (t := 17) u.1 h12 rfl rfl rfl rfl rfl (.nil (zn g))) ?_
      refine dq 22 rfl (fun _ g u h => LWo.guardNU (t := 17) u.1 h12 rfl rfl rfl rfl rfl (.nil (zn g))) ?_
      refine dq 23 rfl (fun _ g u h => LWo.guardNU (t := 17) u.2.1 h12 rfl rfl rfl rfl rfl (.nil (zn g))) ?_
      refine dq 24 rfl (fun _ g u h => LWo.guardNU (t := 17) u.2.1 h12 rfl rfl rfl rfl rfl (.nil (zn g))) ?_
      refine dq 25 rfl (fun _ g u h => LWo.guardNU (t := 17) u.1 h12 rfl rfl rfl rfl rfl (.nil (zn g))) ?_
      refine dq 26 rfl (fun _ g u h => LWo.guardNU (t := 17) u.1 h12 rfl rfl rfl rfl rfl (.nil (zn g))) ?_
      refine dq 27 rfl (fun _ g u h => LWo.guardNU (t := 17) u.1 h12 rfl rfl rfl rfl rfl (.nil (zn g))) ?_
      refine dq 28 rfl (fun _ g u h => LWo.guardNU (t := 17) u.1 h12 rfl rfl rfl rfl rfl (.nil (zn g))) ?_
      refine dq 29 rfl (fun _ g u h => LWo.guardNU (t := 17) u.1 h12 rfl rfl rfl rfl rfl (.nil (zn g))) ?_
      refine dq 30 rfl (fun _ g u h => LWo.pickTM (e_bool true) u.1 h12 rfl (hn := .nil (zn g))) ?_
      refine ⟨rfl, by kernel_rfl, hN10 (t0, t3, true) _ ⟨rfl, rfl, rfl, trivial⟩ trivial h⟩
     ·have h := bF h12 h
      refine bk h fun x13 e13 h => ?_
      refine bk h fun x14 e14 h => ?_
      refine bk h fun x15 e15 h => ?_
      refine LWP.drawF (l := [_,_,_,_,_,_,_,_,_,_,_,_,_,_,_,_,_,_,_,_,_]) [] [0, 3] [([0], []), ([3], []), ([10, 11], []), ([12], []), ([13], []), ([14], []), ([15], []), ([16], []), ([0, 17], []), ([3, 17], []), ([17, 18, 19], []), ([17, 20], []), ([17, 21], []), ([0, 17], []), ([3, 17], []), ([17, 23, 24], []), ([17, 25], []), ([17, 26], []), ([17, 22, 27], []), ([17, 28], []), ([17, 29], [])] [0, 3, 30] [] mixed (by kernel_rfl) rfl (by decide) ?_
      refine dq 10 rfl (fun _ g u h => LWo.move (e_Limpl_Table t0) u.1 (hn := .nil (zn g))) ?_
      refine dq 11 rfl (fun _ g u h => LWo.move (e_int t3) u.1 (hn := .nil (zn g))) ?_
      refine dq 12 rfl (fun _ g u h => LWo.indexM (f := e_impl_Table) e11 u_Limpl_Table s_impl_Table u.1 u.2.1 (hn := .nil (zn g))) ?_
      refine dq 13 rfl (fun _ g u h => LWo.fieldAddr _ u_impl_Table rfl s_LLimpl_Value u.1 rfl (hn := .nil (zn g))) ?_
      refine dq 14 rfl (fun _ g u h => LWo.load1 (c := (e_LLimpl_Value x11.Rows)) g_LLimpl_Value u.1 (hn := .nil (zn g))) ?_
      refine dq 15 rfl (fun _ g u h => LWo.lenM (f := e_Limpl_Value) (l := x11.Rows) u_LLimpl_Value u.1 (hn := .nil (zn g))) ?_
      refine dq 16 rfl (fun _ g u h => LWo.int _ u.1 rfl rfl (hn := .nil (zn g))) ?_
      refine dq 17 rfl (fun _ g u h => LWo.move (e_bool (decide ((x11.Rows.length : Int) > (6 : Int)))) u.1 (hn := .nil (zn g))) ?_
      refine dq 18 rfl (fun _ g u h => LWo.guardY (t := 17) u.2.1 h12 rfl rfl (LWo.move (e_Limpl_Table t0) u.1 (hn := .nil (zn g)))) ?_
      refine dq 19 rfl (fun _ g u h => LWo.guardY (t := 17) u.2.1 h12 rfl rfl (LWo.move (e_int t3) u.1 (hn := .nil (zn g)))) ?_
      refine dq 20 rfl (fun _ g u h => LWo.guardY (t := 17) u.1 h12 rfl rfl (LWo.indexM (f := e_impl_Table) e13 u_Limpl_Table s_impl_Table u.2.1 u.2.2.1 (hn := .nil (zn g)))) ?_
      refine dq 21 rfl (fun _ g u h => LWo.guardY (t := 17) u.1 h12 rfl rfl (LWo.fieldAddr _ u_impl_Table rfl s_Limpl_Column u.2.1 rfl (hn := .nil (zn g)))) ?_
      refine dq 22 rfl (fun _ g u h => LWo.guardY (t := 17) u.1 h12 rfl rfl (LWo.load1 (c := (e_Limpl_Column x13.Columns)) g_Limpl_Column u.2.1 (hn := .nil (zn g)))) ?_
      refine dq 23 rfl (fun _ g u h => LWo.guardY (t := 17) u.2.1 h12 rfl rfl (LWo.move (e_Limpl_Table t0) u.1 (hn := .nil (zn g)))) ?_
      refine dq 24 rfl (fun _ g u h => LWo.guardY (t := 17) u.2.1 h12 rfl rfl (LWo.move (e_int t3) u.1 (hn := .nil (zn g)))) ?_
      refine dq 25 rfl (fun _ g u h => LWo.guardY (t := 17) u.1 h12 rfl rfl (LWo.indexM (f := e_impl_Table) e14 u_Limpl_Table s_impl_Table u.2.1 u.2.2.1 (hn := .nil (zn g)))) ?_
      refine dq 26 rfl (fun _ g u h => LWo.guardY (t := 17) u.1 h12 rfl rfl (LWo.fieldAddr _ u_impl_Table rfl s_LLimpl_Value u.2.1 rfl (hn := .nil (zn g)))) ?_
      refine dq 27 rfl (fun _ g u h => LWo.guardY (t := 17) u.1 h12 rfl rfl (LWo.load1 (c := (e_LLimpl_Value x14.Rows)) g_LLimpl_Value u.2.1 (hn := .nil (zn g)))) ?_
      refine dq 28 rfl (fun _ g u h => LWo.guardY (t := 17) u.1 h12 rfl rfl (LWo.vcall rfl (av2 u.2.1 u.2.2.1) (c_spec_RowsOk _ _ _ e15) (.same (.same (.nil))) (hn := .nil (zn g)))) ?_
      refine dq 29 rfl (fun _ g u h => LWo.guardY (t := 17) u.1 h12 rfl rfl (LWo.not u.2.1 (hn := .nil (zn g)))) ?_
      refine dq 30 rfl (fun _ g u h => LWo.pickFM (e_bool (!x15)) u.1 h12 u.2.1 (hn := .nil (zn g))) ?_
      refine ⟨rfl, by kernel_rfl, hN10 (t0, t3, (!x15)) _ ⟨rfl, rfl, rfl, trivial⟩ trivial h⟩
   ·have h := bF h8 h
    refine LWP.exit (hN2 t0 _ ⟨rfl, trivial⟩ trivial h)

def m_spec_l12Columns_j1 (t1 : (List Int)) : Option Bool :=
  (m_spec_l1In (t1.length : Int) (1 : Int) (4 : Int)).bind fun x18 =>
  some x18
def m_spec_l12Columns_l1 : Nat → (List S_impl_Column) → (List Int) → Int → Option Bool
  | 0, _, _, _ => none
  | n1 + 1, t0, t1, t5 =>
    bif decide (t5 < (t1.length : Int)) then ((at? t1 t5).bind fun x11 =>
    (ckI ((t0.length : Int) - (1 : Int))).bind fun x12 =>
    (m_spec_l1In x11 (0 : Int) x12).bind fun x13 =>
    bif (!x13) then (some false)
    else ((ckI (t5 + (1 : Int))).bind fun x16 =>
    (m_spec_l12Columns_l1  n1) t0 t1 x16))
    else (m_spec_l12Columns_j1  t1)
def m_spec_l12Columns (a0 : (List S_impl_Column)) (a1 : (List Int)) : Option Bool :=
  m_spec_l12Columns_l1  (((a1.length : Int) - (0 : Int)).toNat + 1) a0 a1 (0 : Int)
theorem c_spec_l12Columns (a0 : (List S_impl_Column)) (a1 : (List Int)) (r : Bool) (h : m_spec_l12Columns a0 a1 = some r) : Ret Try.prog f_spec_l12Columns [e_Limpl_Column a0, e_Lint a1] (e_bool r) := by
  refine Does.goG [] F_spec_l12Columns rfl e_spec_l12Columns n_spec_l12Columns rfl (rvs := [.tmp 4]) rfl rfl ?_
  intro w0 ok0 lent ρ0
  refine LWP.seq_k fun N1 hN1 => ?_
  refine LWP.region (l := [_]) ?_
  refine LWo.assign (e_bool false) rfl (hn := ?_)
  refine LWo.nil (hN1 _ ?_)
  refine LWP.join (α := (List Int)) (fun z : (List Int) => [(1, (e_Lint z))]) (fun z : (List Int) => []) (fun z : (List Int) => m_spec_l12Columns_j1  z) r (fun _ => by simp [hkeys]) ?_ ?_
  ·rintro t1 h
   replace h : m_spec_l12Columns_j1  t1 = some _ := h
   refine LWP.seq_k fun N17 hN17 => ?_
   refine LWP.region (l := [_,_,_,_]) ?_
   refine LWo.move (e_Lint t1) rfl (hn := ?_)
   refine LWo.lenM (f := e_int) (l := t1) u_Lint rfl (hn := ?_)
   refine bk h fun x18 e18 h => ?_
   refine LWo.vcall rfl rfl (c_spec_l1In _ _ _ _ e18) (.same (.same (.same (.nil)))) (hn := ?_)
   refine LWo.assign (e_bool x18) rfl (hn := ?_)
   refine LWo.nil (hN17 _ ?_)
   obtain rfl := Option.some.inj h
   refine LWP.ret (QG.mk (.inr rfl) (.cons (.tmp (x := (e_bool x18)) rfl) (.nil)) (RetOK.one0 (.pure rfl) (by decide)) rfl rfl)
  ·intro N2 hN2
   refine LWP.seq_k fun N3 hN3 => ?_
   refine LWP.region (l := [_]) ?_
   refine LWo.assign (e_int (0 : Int)) rfl (hn := ?_)
   refine LWo.nil (hN3 _ ?_)
   refine LWP.block ?_
   refine LWP.loopM (α := (List S_impl_Column) × (List Int) × Int) (fun z : (List S_impl_Column) × (List Int) × Int => [(0, (e_Limpl_Column z.1)), (1, (e_Lint z.2.1)), (5, (e_int z.2.2))]) (fun z : (List S_impl_Column) × (List Int) × Int => []) (fun n1 (z : (List S_impl_Column) × (List Int) × Int) => m_spec_l12Columns_l1  n1 z.1 z.2.1 z.2.2) r _ (a0, a1, (0 : Int)) h (fun _ => rfl) (fun _ => by simp [hkeys]) ⟨rfl, rfl, rfl, trivial⟩ trivial ?_
   rintro n1 ⟨t0, t1, t5⟩ h N4 hN4
   replace h : m_spec_l12Columns_l1  (n1 + 1) t0 t1 t5 = some _ := h
   refine LWP.seq_k fun N6 hN6 => ?_
   refine LWP.seq_k fun N7 hN7 => ?_
   refine LWP.region (l := [_,_,_,_]) ?_
   refine LWo.move (e_int t5) rfl (hn := ?_)
   refine LWo.move (e_Lint t1) rfl (hn := ?_)
   refine LWo.lenM (f := e_int) (l := t1) u_Lint rfl (hn := ?_)
   refine LWo.int _ rfl rfl rfl (hn := ?_)
   refine LWo.nil (hN7 _ ?_)
   refine LWP.cond_split rfl (fun h8 => ?_) (fun h8 => ?_)
   ·have h := bT h8 h
    refine LWP.skip (hN6 _ ?_)
    refine LWP.seq_k fun N9 hN9 => ?_
    refine LWP.block ?_
    refine LWP.seq_k fun N10 hN10 => ?_
    refine LWP.region (l := [_,_,_,_,_,_,_,_,_]) ?_
    refine LWo.move (e_Lint t1) rfl (hn := ?_)
    refine LWo.move (e_int t5) rfl (hn := ?_)
    refine bk h fun x11 e11 h => ?_
    refine LWo.indexM (f := e_int) e11 u_Lint s_int rfl rfl (hn := ?_)
    refine LWo.load1 (c := (e_int x11)) g_int rfl (hn := ?_)
    refine LWo.move (e_Limpl_Column t0) rfl (hn := ?_)
    refine LWo.lenM (f := e_impl_Column) (l := t0) u_Limpl_Column rfl (hn := ?_)
    refine bk h fun x12 e12 h => ?_
    refine LWo.int _ rfl rfl (sub_ck e12) (hn := ?_)
    refine bk h fun x13 e13 h => ?_
    refine LWo.vcall rfl rfl (c_spec_l1In _ _ _ _ e13) (.same (.same (.same (.nil)))) (hn := ?_)
    refine LWo.not rfl (hn := ?_)
    refine LWo.nil (hN10 _ ?_)
    refine LWP.cond_split rfl (fun h14 => ?_) (fun h14 => ?_)
    ·have h := bT h14 h
     refine LWP.seq_k fun N15 hN15 => ?_
     refine LWP.region (l := [_]) ?_
     refine LWo.assign (e_bool false) rfl (hn := ?_)
     refine LWo.nil (hN15 _ ?_)
     obtain rfl := Option.some.inj h
     refine LWP.ret (QG.mk (.inr rfl) (.cons (.tmp (x := (e_bool false)) rfl) (.nil)) (RetOK.one0 (.pure rfl) (by decide)) rfl rfl)
    ·have h := bF h14 h
     refine LWP.skip (hN9 _ ?_)
     refine LWP.region (l := [_,_,_]) ?_
     refine LWo.move (e_int t5) rfl (hn := ?_)
     refine bk h fun x16 e16 h => ?_
     refine LWo.int _ rfl rfl (add_ck e16) (hn := ?_)
     refine LWo.assign (e_int x16) rfl (hn := ?_)
     refine LWo.nil (hN4 (t0, t1, x16) _ ⟨rfl, rfl, rfl, trivial⟩ trivial h)
   ·have h := bF h8 h
    refine LWP.exit (hN2 t1 _ ⟨rfl, trivial⟩ trivial h)

def m_spec_l4Step_j2 (t5 : S_impl_Part) (t52 : Bool) (o1001 : (List Int)) : Option ((List Int) × Bool) :=
  bif t52 then (some (o1001, false))
  else ((app? o1001 ([t5.V.Kind] : (List Int))).bind fun x24 =>
  some (x24, true))
def m_spec_l4Step_j3 (t8 : Int) (t9 : Bool) (o1001 : (List Int)) : Option ((List Int) × Bool) :=
  (ckI (t8 - (2 : Int))).bind fun x48 =>
  (rng? (0 : Int) (maxI x48 (0 : Int)) ((o1001).length)).bind fun u49 =>
  (appT? o1001 (((maxI x48 (0 : Int))).toNat) ([(1 : Int)] : (List Int))).bind fun x50 =>
  some (x50, t9)
def m_spec_l4Step_j4 (t8 : Int) (t10 : Bool) (o1001 : (List Int)) : Option ((List Int) × Bool) :=
  (ckI (t8 - (2 : Int))).bind fun x64 =>
  (rng? (0 : Int) (maxI x64 (0 : Int)) ((o1001).length)).bind fun u65 =>
  (appT? o1001 (((maxI x64 (0 : Int))).toNat) ([(3 : Int)] : (List Int))).bind fun x66 =>
  some (x66, t10)
def m_spec_l4Step_j6 (t8 : Int) (t11 : Bool) (o1001 : (List Int)) : Option ((List Int) × Bool) :=
  (ckI (t8 - (2 : Int))).bind fun x81 =>
  (rng? (0 : Int) (maxI x81 (0 : Int)) ((o1001).length)).bind fun u82 =>
  (appT? o1001 (((maxI x81 (0 : Int))).toNat) ([(3 : Int)] : (List Int))).bind fun x83 =>
  some (x83, t11)
def m_spec_l4Step_j7 (t7 : Bool) (o1001 : (List Int)) : Option ((List Int) × Bool) :=
  some (o1001, t7)
def m_spec_l4Step_j5 (t8 : Int) (t40 : Int) (t137 : Bool) (o1001 : (List Int)) : Option ((List Int) × Bool) :=
  bif t137 then (bif decide (t8 > (1 : Int)) then ((ckI (t8 - (1 : Int))).bind fun x73 =>
      (at? o1001 x73).bind fun x74 =>
      (at? o1001 x73).bind fun x75 =>
      bif (x75 == (3 : Int)) then ((ckI (t8 - (2 : Int))).bind fun x77 =>
        (at? o1001 x77).bind fun x78 =>
        (at? o1001 x77).bind fun x79 =>
        m_spec_l4Step_j6  t8 (x79 == (3 : Int)) o1001)
      else (m_spec_l4Step_j6  t8 false o1001))
    else (m_spec_l4Step_j6  t8 false o1001))
  else (bif (t40 == (7 : Int)) then (bif decide (t8 > (0 : Int)) then ((ckI (t8 - (1 : Int))).bind fun x88 =>
        (at? o1001 x88).bind fun x89 =>
        (at? o1001 x88).bind fun x90 =>
        m_spec_l4Step_j7  (x90 == (3 : Int)) o1001)
      else (m_spec_l4Step_j7  false o1001))
    else (bif (t40 == (8 : Int)) then ((ckI (t8 - (1 : Int))).bind fun x94 =>
        (rng? (0 : Int) (maxI x94 (0 : Int)) ((o1001).length)).bind fun u95 =>
        (appT? o1001 (((maxI x94 (0 : Int))).toNat) ([(3 : Int)] : (List Int))).bind fun x96 =>
        some (x96, decide (t8 > (0 : Int))))
      else (some (o1001, false))))
def m_spec_l4Step_j1 (t0 : (List S_impl_Column)) (t5 : S_impl_Part) (t8 : Int) (t37 : Bool) (o1001 : (List Int)) : Option ((List Int) × Bool) :=
  bif t37 then (some (o1001, false))
  else (bif (t5.Kind == (1 : Int)) then ((m_spec_ValueOk t5.V).bind fun x19 =>
  bif (!x19) then (m_spec_l4Step_j2  t5 true o1001)
  else (m_spec_l4Step_j2  t5 (t5.V.Kind == (0 : Int)) o1001))
  else (bif (t5.Kind == (2 : Int)) then ((ckI ((t0.length : Int) - (1 : Int))).bind fun x29 =>
    (m_spec_l1In t5.N (0 : Int) x29).bind fun x30 =>
    bif (!x30) then (some (o1001, false))
    else ((at? t0 t5.N).bind fun x34 =>
    (app? o1001 ([x34.Kind] : (List Int))).bind fun x35 =>
    some (x35, true)))
  else (bif (t5.Kind == (3 : Int)) then (bif decide (t8 > (1 : Int)) then ((ckI (t8 - (1 : Int))).bind fun x40 =>
        (at? o1001 x40).bind fun x41 =>
        (at? o1001 x40).bind fun x42 =>
        bif (x42 == (1 : Int)) then ((ckI (t8 - (2 : Int))).bind fun x44 =>
          (at? o1001 x44).bind fun x45 =>
          (at? o1001 x44).bind fun x46 =>
          m_spec_l4Step_j3  t8 (x46 == (1 : Int)) o1001)
        else (m_spec_l4Step_j3  t8 false o1001))
      else (m_spec_l4Step_j3  t8 false o1001))
    else (bif (t5.Kind == (4 : Int)) then (bif decide (t8 > (1 : Int)) then ((ckI (t8 - (1 : Int))).bind fun x55 =>
          (at? o1001 x55).bind fun x56 =>
          (at? o1001 x55).bind fun x57 =>
          (ckI (t8 - (2 : Int))).bind fun x58 =>
          (at? o1001 x58).bind fun x59 =>
          (at? o1001 x58).bind fun x60 =>
          bif (x57 == x60) then ((m_spec_l1In t5.N (1 : Int) (4 : Int)).bind fun x62 =>
            m_spec_l4Step_j4  t8 x62 o1001)
          else (m_spec_l4Step_j4  t8 false o1001))
        else (m_spec_l4Step_j4  t8 false o1001))
      else (bif (t5.Kind == (5 : Int)) then (m_spec_l4Step_j5  t8 t5.Kind (t5.Kind == (5 : Int)) o1001)
        else (m_spec_l4Step_j5  t8 t5.Kind (t5.Kind == (6 : Int)) o1001))))))
def m_spec_l4Step (a0 : (List S_impl_Column)) (o0 : (List Int)) (a2 : S_impl_Part) : Option ((List Int) × Bool) :=
  bif (a2.Kind != (1 : Int)) then (bif (!(decide (a2.V = (⟨(0 : Int), (0 : Int), (⟨#[]⟩ : ByteArray)⟩ : S_impl_Value)))) then (m_spec_l4Step_j1  a0 a2 (o0.length : Int) true o0)
    else (bif (a2.Kind != (2 : Int)) then (bif (a2.Kind != (4 : Int)) then (m_spec_l4Step_j1  a0 a2 (o0.length : Int) (a2.N != (0 : Int)) o0)
        else (m_spec_l4Step_j1  a0 a2 (o0.length : Int) false o0))
      else (m_spec_l4Step_j1  a0 a2 (o0.length : Int) false o0)))
  else (bif (a2.Kind != (2 : Int)) then (bif (a2.Kind != (4 : Int)) then (m_spec_l4Step_j1  a0 a2 (o0.length : Int) (a2.N != (0 : Int)) o0)
      else (m_spec_l4Step_j1  a0 a2 (o0.length : Int) false o0))
    else (m_spec_l4Step_j1  a0 a2 (o0.length : Int) false o0))
theorem c_spec_l4Step (a0 : (List S_impl_Column)) (o0 : (List Int)) (a2 : S_impl_Part) (r : ((List Int) × Bool)) (h : m_spec_l4Step a0 o0 a2 = some r) : Does Try.prog f_spec_l4Step [e_Limpl_Column a0, .own 0 0 o0.length, e_impl_Part a2] [(0, (lob 1 e_int o0))] (fun x hh => x = .tup [.nw 1 (r.1.map e_int) false, e_bool r.2] ∧ hh = []) := by
  refine Does.goG [0] F_spec_l4Step rfl e_spec_l4Step n_spec_l4Step rfl (rvs := [.tmp 6, .tmp 7]) rfl rfl ?_
  intro w0 ok0 lent ρ0
  refine LWP.rekey 1 0 1001 rfl rfl rfl rfl rfl rfl ?_
  refine LWP.tell [(0, (e_Limpl_Column a0)), (1, (.own 1001 0 (o0).length)), (2, (e_impl_Part a2))] [(1001, (lob 1 e_int o0))] ⟨rfl, rfl, rfl, trivial⟩ ⟨rfl, trivial⟩ (by simp [hkeys]) ?_
  refine LWP.seq_k fun N1 hN1 => ?_
  refine LWP.region (l := [_,_,_]) ?_
  refine LWo.boxF (e_impl_Part a2) rfl rfl rfl (hn := ?_)
  refine LWo.assign _ rfl (hn := ?_)
  refine LWo.ownNil 6 1006 1 rfl rfl rfl ?_
  refine LWo.known 6 (.own 1006 0 ([] : (List Int)).length) rfl ?_
  refine LWo.assign (e_bool false) rfl (hn := ?_)
  refine LWo.nil (hN1 _ ?_)
  refine LWP.seq_k fun N2 hN2 => ?_
  refine LWP.region (l := [_,_,_]) ?_
  refine LWo.move (.own 1001 0 (o0).length) rfl (hn := ?_)
  refine LWo.lenO u_Lint rfl (hn := ?_)
  refine LWo.assign (e_int (o0.length : Int)) rfl (hn := ?_)
  refine LWo.nil (hN2 _ ?_)
  refine LWP.seq_k fun N3 hN3 => ?_
  refine LWP.join (α := (List S_impl_Column) × S_impl_Part × Int × Bool × (List Int)) (fun z : (List S_impl_Column) × S_impl_Part × Int × Bool × (List Int) => [(0, (e_Limpl_Column z.1)), (1, (.own 1001 0 (z.2.2.2.2).length)), (5, (.fp (e_impl_Part z.2.1).cells)), (8, (e_int z.2.2.1)), (37, (e_bool z.2.2.2.1))]) (fun z : (List S_impl_Column) × S_impl_Part × Int × Bool × (List Int) => [(1001, (lob 1 e_int z.2.2.2.2))]) (fun z : (List S_impl_Column) × S_impl_Part × Int × Bool × (List Int) => m_spec_l4Step_j1  z.1 z.2.1 z.2.2.1 z.2.2.2.1 z.2.2.2.2) r (fun _ => by simp [hkeys]) ?_ ?_
  ·rintro ⟨t0, t5, t8, t37, o1001⟩ h
   replace h : m_spec_l4Step_j1  t0 t5 t8 t37 o1001 = some _ := h
   refine LWP.cond_split rfl (fun h11 => ?_) (fun h11 => ?_)
   ·have h := bT h11 h
    refine LWP.seq_k fun N12 hN12 => ?_
    refine LWP.region (l := [_,_,_]) ?_
    refine LWo.move (.own 1001 0 (o1001).length) rfl (hn := ?_)
    refine LWo.assign (.own 1001 0 (o1001).length) rfl (hn := ?_)
    refine LWo.assign (e_bool false) rfl (hn := ?_)
    refine LWo.nil (hN12 _ ?_)
    obtain rfl := Option.some.inj h
    refine LWP.ret (QG.mk (.inr rfl) (.cons (.tmp (x := (.own 1001 0 (o1001).length)) rfl) (.cons (.tmp (x := (e_bool false)) rfl) (.nil))) (RetOK.many0 (.cons (.nwM rfl rfl) (.cons (.pure rfl) (.nil))) (by simp) (by decide)) rfl rfl)
   ·have h := bF h11 h
    refine LWP.skip (hN3 _ ?_)
    refine LWP.seq_k fun N13 hN13 => ?_
    refine LWP.seq_k fun N14 hN14 => ?_
    refine LWP.region (l := [_,_]) ?_
    refine LWo.fieldAddr _ u_impl_Part rfl s_int rfl rfl (hn := ?_)
    refine LWo.load1 (c := (e_int t5.Kind)) g_int rfl (hn := ?_)
    refine LWo.nil (hN14 _ ?_)
    refine LWP.block ?_
    refine LWP.seq_k fun N15 hN15 => ?_
    refine LWP.region (l := [_,_]) ?_
    refine LWo.int _ rfl rfl rfl (hn := ?_)
    refine LWo.assign (e_bool (t5.Kind == (1 : Int))) rfl (hn := ?_)
    refine LWo.nil (hN15 _ ?_)
    refine LWP.cond_split rfl (fun h16 => ?_) (fun h16 => ?_)
    ·have h := bT h16 h
     refine LWP.seq_k fun N17 hN17 => ?_
     refine LWP.join (α := S_impl_Part × Bool × (List Int)) (fun z : S_impl_Part × Bool × (List Int) => [(1, (.own 1001 0 (z.2.2).length)), (5, (.fp (e_impl_Part z.1).cells)), (52, (e_bool z.2.1))]) (fun z : S_impl_Part × Bool × (List Int) => [(1001, (lob 1 e_int z.2.2))]) (fun z : S_impl_Part × Bool × (List Int) => m_spec_l4Step_j2  z.1 z.2.1 z.2.2) r (fun _ => by simp [hkeys]) ?_ ?_
     ·rintro ⟨t5, t52, o1001⟩ h
      replace h : m_spec_l4Step_j2  t5 t52 o1001 = some _ := h
      refine LWP.cond_split rfl (fun h21 => ?_) (fun h21 => ?_)
      ·have h := bT h21 h
       refine LWP.seq_k fun N22 hN22 => ?_
       refine LWP.region (l := [_,_,_]) ?_
       refine LWo.move (.own 1001 0 (o1001).length) rfl (hn := ?_)
       refine LWo.assign (.own 1001 0 (o1001).length) rfl (hn := ?_)
       refine LWo.assign (e_bool false) rfl (hn := ?_)
       refine LWo.nil (hN22 _ ?_)
       obtain rfl := Option.some.inj h
       refine LWP.ret (QG.mk (.inr rfl) (.cons (.tmp (x := (.own 1001 0 (o1001).length)) rfl) (.cons (.tmp (x := (e_bool false)) rfl) (.nil))) (RetOK.many0 (.cons (.nwM rfl rfl) (.cons (.pure rfl) (.nil))) (by simp) (by decide)) rfl rfl)
      ·have h := bF h21 h
       refine LWP.skip (hN17 _ ?_)
       refine LWP.seq_k fun N23 hN23 => ?_
       refine LWP.region (l := [_,_,_,_,_,_,_,_]) ?_
       refine LWo.move (.own 1001 0 (o1001).length) rfl (hn := ?_)
       refine LWo.fieldAddr _ u_impl_Part rfl s_impl_Value rfl rfl (hn := ?_)
       refine LWo.fieldAddr _ u_impl_Value rfl s_int rfl rfl (hn := ?_)
       refine LWo.load1 (c := (e_int t5.V.Kind)) g_int rfl (hn := ?_)
       refine LWo.lit (ops := [_]) [(e_int t5.V.Kind)] u_Lint s_int z_int rfl rfl rfl rfl rfl rfl (hn := ?_)
       refine bk h fun x24 e24 h => ?_
       refine LWo.appendM (f := e_int) e24 rfl u_Lint u_Lint (fun _ h => by cases h) s_int i_int rfl rfl rfl (.sl rfl) rfl rfl (hn := ?_)
       refine LWo.assign (.own 1001 0 (x24).length) rfl (hn := ?_)
       refine LWo.assign (e_bool true) rfl (hn := ?_)
       refine LWo.nil (hN23 _ ?_)
       obtain rfl := Option.some.inj h
       refine LWP.ret (QG.mk (.inr rfl) (.cons (.tmp (x := (.own 1001 0 (x24).length)) rfl) (.cons (.tmp (x := (e_bool true)) rfl) (.nil))) (RetOK.many0 (.cons (.nwM rfl rfl) (.cons (.pure rfl) (.nil))) (by simp) (by decide)) rfl rfl)
     ·intro N18 hN18
      refine LWP.region (l := [_,_,_,_,_,_,_,_,_,_]) ?_
      refine LWo.fieldAddr _ u_impl_Part rfl s_impl_Value rfl rfl (hn := ?_)
      refine LWo.loadN ((e_impl_Value t5.V)).cells g_impl_Value s_impl_Value rfl (Nat.le_of_ble_eq_true rfl) rfl (hn := ?_)
      refine bk h fun x19 e19 h => ?_
      refine LWo.vcall rfl rfl (c_spec_ValueOk _ _ e19) (.same (.nil)) (hn := ?_)
      refine LWo.not rfl (hn := ?_)
      refine LWo.move (e_bool (!x19)) rfl (hn := ?_)
      refine LWo.byCases (t := 47) _ rfl (fun h20 => ?_) (fun h20 => ?_)
      ·have h := bT h20 h
       refine LWo.guardNU (t := 47) rfl h20 rfl rfl rfl rfl rfl ?_
       refine LWo.guardNU (t := 47) rfl h20 rfl rfl rfl rfl rfl ?_
       refine LWo.guardNU (t := 47) rfl h20 rfl rfl rfl rfl rfl ?_
       refine LWo.guardNU (t := 47) rfl h20 rfl rfl rfl rfl rfl ?_
       refine LWo.pickTM (e_bool true) rfl h20 rfl (hn := ?_)
       refine LWo.nil (hN18 (t5, true, o1001) _ ⟨rfl, rfl, rfl, trivial⟩ ⟨rfl, trivial⟩ h)
      ·have h := bF h20 h
       refine LWo.guardY (t := 47) rfl h20 rfl rfl ?_
       refine LWo.fieldAddr _ u_impl_Part rfl s_impl_Value rfl rfl (hn := ?_)
       refine LWo.guardY (t := 47) rfl h20 rfl rfl ?_
       refine LWo.fieldAddr _ u_impl_Value rfl s_int rfl rfl (hn := ?_)
       refine LWo.guardY (t := 47) rfl h20 rfl rfl ?_
       refine LWo.load1 (c := (e_int t5.V.Kind)) g_int rfl (hn := ?_)
       refine LWo.guardY (t := 47) rfl h20 rfl rfl ?_
       refine LWo.int _ rfl rfl rfl (hn := ?_)
       refine LWo.pickFM (e_bool (t5.V.Kind == (0 : Int))) rfl h20 rfl (hn := ?_)
       refine LWo.nil (hN18 (t5, (t5.V.Kind == (0 : Int)), o1001) _ ⟨rfl, rfl, rfl, trivial⟩ ⟨rfl, trivial⟩ h)
    ·have h := bF h16 h
     refine LWP.seq_k fun N25 hN25 => ?_
     refine LWP.region (l := [_,_]) ?_
     refine LWo.int _ rfl rfl rfl (hn := ?_)
     refine LWo.assign (e_bool (t5.Kind == (2 : Int))) rfl (hn := ?_)
     refine LWo.nil (hN25 _ ?_)
     refine LWP.cond_split rfl (fun h26 => ?_) (fun h26 => ?_)
     ·have h := bT h26 h
      refine LWP.seq_k fun N27 hN27 => ?_
      refine LWP.seq_k fun N28 hN28 => ?_
      refine LWP.region (l := [_,_,_,_,_,_,_]) ?_
      refine LWo.fieldAddr _ u_impl_Part rfl s_int rfl rfl (hn := ?_)
      refine LWo.load1 (c := (e_int t5.N)) g_int rfl (hn := ?_)
      refine LWo.move (e_Limpl_Column t0) rfl (hn := ?_)
      refine LWo.lenM (f := e_impl_Column) (l := t0) u_Limpl_Column rfl (hn := ?_)
      refine bk h fun x29 e29 h => ?_
      refine LWo.int _ rfl rfl (sub_ck e29) (hn := ?_)
      refine bk h fun x30 e30 h => ?_
      refine LWo.vcall rfl rfl (c_spec_l1In _ _ _ _ e30) (.same (.same (.same (.nil)))) (hn := ?_)
      refine LWo.not rfl (hn := ?_)
      refine LWo.nil (hN28 _ ?_)
      refine LWP.cond_split rfl (fun h31 => ?_) (fun h31 => ?_)
      ·have h := bT h31 h
       refine LWP.seq_k fun N32 hN32 => ?_
       refine LWP.region (l := [_,_,_]) ?_
       refine LWo.move (.own 1001 0 (o1001).length) rfl (hn := ?_)
       refine LWo.assign (.own 1001 0 (o1001).length) rfl (hn := ?_)
       refine LWo.assign (e_bool false) rfl (hn := ?_)
       refine LWo.nil (hN32 _ ?_)
       obtain rfl := Option.some.inj h
       refine LWP.ret (QG.mk (.inr rfl) (.cons (.tmp (x := (.own 1001 0 (o1001).length)) rfl) (.cons (.tmp (x := (e_bool false)) rfl) (.nil))) (RetOK.many0 (.cons (.nwM rfl rfl) (.cons (.pure rfl) (.nil))) (by simp) (by decide)) rfl rfl)
      ·have h := bF h31 h
       refine LWP.skip (hN27 _ ?_)
       refine LWP.seq_k fun N33 hN33 => ?_
       refine LWP.region (l := [_,_,_,_,_,_,_,_,_,_,_]) ?_
       refine LWo.move (.own 1001 0 (o1001).length) rfl (hn := ?_)
       refine LWo.move (e_Limpl_Column t0) rfl (hn := ?_)
       refine LWo.fieldAddr _ u_impl_Part rfl s_int rfl rfl (hn := ?_)
       refine LWo.load1 (c := (e_int t5.N)) g_int rfl (hn := ?_)
       refine bk h fun x34 e34 h => ?_
       refine LWo.indexM (f := e_impl_Column) e34 u_Limpl_Column s_impl_Column rfl rfl (hn := ?_)
       refine LWo.fieldAddr _ u_impl_Column rfl s_int rfl rfl (hn := ?_)
       refine LWo.load1 (c := (e_int x34.Kind)) g_int rfl (hn := ?_)
       refine LWo.lit (ops := [_]) [(e_int x34.Kind)] u_Lint s_int z_int rfl rfl rfl rfl rfl rfl (hn := ?_)
       refine bk h fun x35 e35 h => ?_
       refine LWo.appendM (f := e_int) e35 rfl u_Lint u_Lint (fun _ h => by cases h) s_int i_int rfl rfl rfl (.sl rfl) rfl rfl (hn := ?_)
       refine LWo.assign (.own 1001 0 (x35).length) rfl (hn := ?_)
       refine LWo.assign (e_bool true) rfl (hn := ?_)
       refine LWo.nil (hN33 _ ?_)
       obtain rfl := Option.some.inj h
       refine LWP.ret (QG.mk (.inr rfl) (.cons (.tmp (x := (.own 1001 0 (x35).length)) rfl) (.cons (.tmp (x := (e_bool true)) rfl) (.nil))) (RetOK.many0 (.cons (.nwM rfl rfl) (.cons (.pure rfl) (.nil))) (by simp) (by decide)) rfl rfl)
     ·have h := bF h26 h
      refine LWP.seq_k fun N36 hN36 => ?_
      refine LWP.region (l := [_,_]) ?_
      refine LWo.int _ rfl rfl rfl (hn := ?_)
      refine LWo.assign (e_bool (t5.Kind == (3 : Int))) rfl (hn := ?_)
      refine LWo.nil (hN36 _ ?_)
      refine LWP.cond_split rfl (fun h37 => ?_) (fun h37 => ?_)
      ·have h := bT h37 h
       refine LWP.join (α := Int × Bool × (List Int)) (fun z : Int × Bool × (List Int) => [(1, (.own 1001 0 (z.2.2).length)), (8, (e_int z.1)), (9, (e_bool z.2.1))]) (fun z : Int × Bool × (List Int) => [(1001, (lob 1 e_int z.2.2))]) (fun z : Int × Bool × (List Int) => m_spec_l4Step_j3  z.1 z.2.1 z.2.2) r (fun _ => by simp [hkeys]) ?_ ?_
       ·rintro ⟨t8, t9, o1001⟩ h
        replace h : m_spec_l4Step_j3  t8 t9 o1001 = some _ := h
        refine LWP.seq_k fun N47 hN47 => ?_
        refine LWP.region (l := [_,_,_,_,_,_,_,_,_,_]) ?_
        refine LWo.move (.own 1001 0 (o1001).length) rfl (hn := ?_)
        refine LWo.move (e_int t8) rfl (hn := ?_)
        refine bk h fun x48 e48 h => ?_
        refine LWo.int _ rfl rfl (sub_ck e48) (hn := ?_)
        refine LWo.max2 rfl rfl (hn := ?_)
        refine bk h fun u49 e49 h => ?_
        refine LWo.cutOM e49 u_Lint s_int rfl rfl rfl ⟨_, rfl⟩ (hn := ?_)
        refine LWo.lit (ops := [_]) [(e_int (1 : Int))] u_Lint s_int z_int rfl rfl rfl rfl rfl rfl (hn := ?_)
        refine bk h fun x50 e50 h => ?_
        refine LWo.appendT (f := e_int) e50 u_Lint u_Lint (fun _ h => by cases h) s_int i_int rfl rfl rfl (.m (.sl rfl)) rfl rfl (hn := ?_)
        refine LWo.move (e_bool t9) rfl (hn := ?_)
        refine LWo.assign (.own 1001 0 (x50).length) rfl (hn := ?_)
        refine LWo.assign (e_bool t9) rfl (hn := ?_)
        refine LWo.nil (hN47 _ ?_)
        obtain rfl := Option.some.inj h
        refine LWP.ret (QG.mk (.inr rfl) (.cons (.tmp (x := (.own 1001 0 (x50).length)) rfl) (.cons (.tmp (x := (e_bool t9)) rfl) (.nil))) (RetOK.many0 (.cons (.nwM rfl rfl) (.cons (.pure rfl) (.nil))) (by simp) (by decide)) rfl rfl)
       ·intro N38 hN38
        refine LWP.region (l := [_,_,_,_,_,_,_,_,_,_,_,_,_,_,_,_,_,_,_]) ?_
        refine LWo.move (e_int t8) rfl (hn := ?_)
        refine LWo.int _ rfl rfl rfl (hn := ?_)
        refine LWo.move (e_bool (decide (t8 > (1 : Int)))) rfl (hn := ?_)
        refine LWo.byCases (t := 83) _ rfl (fun h39 => ?_) (fun h39 => ?_)
        ·have h := bT h39 h
         refine LWo.guardY (t := 83) rfl h39 rfl rfl ?_
         refine LWo.move (.own 1001 0 (o1001).length) rfl (hn := ?_)
         refine LWo.guardY (t := 83) rfl h39 rfl rfl ?_
         refine LWo.move (e_int t8) rfl (hn := ?_)
         refine bk h fun x40 e40 h => ?_
         refine LWo.guardY (t := 83) rfl h39 rfl rfl ?_
         refine LWo.int _ rfl rfl (sub_ck e40) (hn := ?_)
         refine bk h fun x41 e41 h => ?_
         refine LWo.guardY (t := 83) rfl h39 rfl rfl ?_
         refine LWo.indexO e41 rfl u_Lint s_int rfl rfl rfl (hn := ?_)
         refine bk h fun x42 e42 h => ?_
         refine LWo.guardY (t := 83) rfl h39 rfl rfl ?_
         refine LWo.loadO1 (e_int x42) e42 g_int rfl rfl rfl (hn := ?_)
         refine LWo.guardY (t := 83) rfl h39 rfl rfl ?_
         refine LWo.int _ rfl rfl rfl (hn := ?_)
         refine LWo.pickTM (e_bool (x42 == (1 : Int))) rfl h39 rfl (hn := ?_)
         refine LWo.move (e_bool (x42 == (1 : Int))) rfl (hn := ?_)
         refine LWo.byCases (t := 91) _ rfl (fun h43 => ?_) (fun h43 => ?_)
         ·have h := bT h43 h
          refine LWo.guardY (t := 91) rfl h43 rfl rfl ?_
          refine LWo.move (.own 1001 0 (o1001).length) rfl (hn := ?_)
          refine LWo.guardY (t := 91) rfl h43 rfl rfl ?_
          refine LWo.move (e_int t8) rfl (hn := ?_)
          refine bk h fun x44 e44 h => ?_
          refine LWo.guardY (t := 91) rfl h43 rfl rfl ?_
          refine LWo.int _ rfl rfl (sub_ck e44) (hn := ?_)
          refine bk h fun x45 e45 h => ?_
          refine LWo.guardY (t := 91) rfl h43 rfl rfl ?_
          refine LWo.indexO e45 rfl u_Lint s_int rfl rfl rfl (hn := ?_)
          refine bk h fun x46 e46 h => ?_
          refine LWo.guardY (t := 91) rfl h43 rfl rfl ?_
          refine LWo.loadO1 (e_int x46) e46 g_int rfl rfl rfl (hn := ?_)
          refine LWo.guardY (t := 91) rfl h43 rfl rfl ?_
          refine LWo.int _ rfl rfl rfl (hn := ?_)
          refine LWo.pickTM (e_bool (x46 == (1 : Int))) rfl h43 rfl (hn := ?_)
          refine LWo.assign (e_bool (x46 == (1 : Int))) rfl (hn := ?_)
          refine LWo.nil (hN38 (t8, (x46 == (1 : Int)), o1001) _ ⟨rfl, rfl, rfl, trivial⟩ ⟨rfl, trivial⟩ h)
         ·have h := bF h43 h
          refine LWo.guardNU (t := 91) rfl h43 rfl rfl rfl rfl rfl ?_
          refine LWo.guardNU (t := 91) rfl h43 rfl rfl rfl rfl rfl ?_
          refine LWo.guardNU (t := 91) rfl h43 rfl rfl rfl rfl rfl ?_
          refine LWo.guardNU (t := 91) rfl h43 rfl rfl rfl rfl rfl ?_
          refine LWo.guardNU (t := 91) rfl h43 rfl rfl rfl rfl rfl ?_
          refine LWo.guardNU (t := 91) rfl h43 rfl rfl rfl rfl rfl ?_
          refine LWo.pickFM (e_bool false) rfl h43 rfl (hn := ?_)
          refine LWo.assign (e_bool false) rfl (hn := ?_)
          refine LWo.nil (hN38 (t8, false, o1001) _ ⟨rfl, rfl, rfl, trivial⟩ ⟨rfl, trivial⟩ h)
        ·have h := bF h39 h
         refine LWo.guardNU (t := 83) rfl h39 rfl rfl rfl rfl rfl ?_
         refine LWo.guardNU (t := 83) rfl h39 rfl rfl rfl rfl rfl ?_
         refine LWo.guardNU (t := 83) rfl h39 rfl rfl rfl rfl rfl ?_
         refine LWo.guardNU (t := 83) rfl h39 rfl rfl rfl rfl rfl ?_
         refine LWo.guardNU (t := 83) rfl h39 rfl rfl rfl rfl rfl ?_
         refine LWo.guardNU (t := 83) rfl h39 rfl rfl rfl rfl rfl ?_
         refine LWo.pickFM (e_bool false) rfl h39 rfl (hn := ?_)
         refine LWo.move (e_bool false) rfl (hn := ?_)
         refine LWo.guardNU (t := 91) rfl rfl rfl rfl rfl rfl rfl ?_
         refine LWo.guardNU (t := 91) rfl rfl rfl rfl rfl rfl rfl ?_
         refine LWo.guardNU (t := 91) rfl rfl rfl rfl rfl rfl rfl ?_
         refine LWo.guardNU (t := 91) rfl rfl rfl rfl rfl rfl rfl ?_
         refine LWo.guardNU (t := 91) rfl rfl rfl rfl rfl rfl rfl ?_
         refine LWo.guardNU (t := 91) rfl rfl rfl rfl rfl rfl rfl ?_
         refine LWo.pickFM (e_bool false) rfl rfl rfl (hn := ?_)
         refine LWo.assign (e_bool false) rfl (hn := ?_)
         refine LWo.nil (hN38 (t8, false, o1001) _ ⟨rfl, rfl, rfl, trivial⟩ ⟨rfl, trivial⟩ h)
      ·have h := bF h37 h
       refine LWP.seq_k fun N51 hN51 => ?_
       refine LWP.region (l := [_,_]) ?_
       refine LWo.int _ rfl rfl rfl (hn := ?_)
       refine LWo.assign (e_bool (t5.Kind == (4 : Int))) rfl (hn := ?_)
       refine LWo.nil (hN51 _ ?_)
       refine LWP.cond_split rfl (fun h52 => ?_) (fun h52 => ?_)
       ·have h := bT h52 h
        refine LWP.join (α := Int × Bool × (List Int)) (fun z : Int × Bool × (List Int) => [(1, (.own 1001 0 (z.2.2).length)), (8, (e_int z.1)), (10, (e_bool z.2.1))]) (fun z : Int × Bool × (List Int) => [(1001, (lob 1 e_int z.2.2))]) (fun z : Int × Bool × (List Int) => m_spec_l4Step_j4  z.1 z.2.1 z.2.2) r (fun _ => by simp [hkeys]) ?_ ?_
        ·rintro ⟨t8, t10, o1001⟩ h
         replace h : m_spec_l4Step_j4  t8 t10 o1001 = some _ := h
         refine LWP.seq_k fun N63 hN63 => ?_
         refine LWP.region (l := [_,_,_,_,_,_,_,_,_,_]) ?_
         refine LWo.move (.own 1001 0 (o1001).length) rfl (hn := ?_)
         refine LWo.move (e_int t8) rfl (hn := ?_)
         refine bk h fun x64 e64 h => ?_
         refine LWo.int _ rfl rfl (sub_ck e64) (hn := ?_)
         refine LWo.max2 rfl rfl (hn := ?_)
         refine bk h fun u65 e65 h => ?_
         refine LWo.cutOM e65 u_Lint s_int rfl rfl rfl ⟨_, rfl⟩ (hn := ?_)
         refine LWo.lit (ops := [_]) [(e_int (3 : Int))] u_Lint s_int z_int rfl rfl rfl rfl rfl rfl (hn := ?_)
         refine bk h fun x66 e66 h => ?_
         refine LWo.appendT (f := e_int) e66 u_Lint u_Lint (fun _ h => by cases h) s_int i_int rfl rfl rfl (.m (.sl rfl)) rfl rfl (hn := ?_)
         refine LWo.move (e_bool t10) rfl (hn := ?_)
         refine LWo.assign (.own 1001 0 (x66).length) rfl (hn := ?_)
         refine LWo.assign (e_bool t10) rfl (hn := ?_)
         refine LWo.nil (hN63 _ ?_)
         obtain rfl := Option.some.inj h
         refine LWP.ret (QG.mk (.inr rfl) (.cons (.tmp (x := (.own 1001 0 (x66).length)) rfl) (.cons (.tmp (x := (e_bool t10)) rfl) (.nil))) (RetOK.many0 (.cons (.nwM rfl rfl) (.cons (.pure rfl) (.nil))) (by simp) (by decide)) rfl rfl)
        ·intro N53 hN53
         refine bS (decide (t8 > (1 : Int))) (fun h54 => ?_) (fun h54 => ?_)
         ·have h := bT h54 h
          refine bk h fun x55 e55 h => ?_
          refine bk h fun x56 e56 h => ?_
          refine bk h fun x57 e57 h => ?_
          refine bk h fun x58 e58 h => ?_
          refine bk h fun x59 e59 h => ?_
          refine bk h fun x60 e60 h => ?_
          refine bS ((x57 == x60)) (fun h61 => ?_) (fun h61 => ?_)
          ·have h := bT h61 h
           refine bk h fun x62 e62 h => ?_
           refine LWP.drawF (l := [_,_,_,_,_,_,_,_,_,_,_,_,_,_,_,_,_,_,_,_,_]) [] [1, 5, 8] [([8], []), ([109], []), ([110], []), ([1, 111], []), ([8, 111], []), ([111, 113], []), ([111, 112, 114], [1001]), ([111, 115], [1001]), ([1, 111], []), ([8, 111], []), ([111, 118], []), ([111, 117, 119], [1001]), ([111, 120], [1001]), ([111, 116, 121], []), ([111, 122], []), ([123], []), ([5, 124], []), ([124, 125], []), ([124, 126], []), ([124, 127], []), ([128], [])] [1, 8, 10] [1001] mixed (by kernel_rfl) rfl (by decide) ?_
           refine dq 109 rfl (fun _ g u h => LWo.move (e_int t8) u.1 (hn := .nil (zn g))) ?_
           refine dq 110 rfl (fun _ g u h => LWo.int _ u.1 rfl rfl (hn := .nil (zn g))) ?_
           refine dq 111 rfl (fun _ g u h => LWo.move (e_bool (decide (t8 > (1 : Int)))) u.1 (hn := .nil (zn g))) ?_
           refine dq 112 rfl (fun _ g u h => LWo.guardY (t := 111) u.2.1 h54 rfl rfl (LWo.move (.own 1001 0 (o1001).length) u.1 (hn := .nil (zn g)))) ?_
           refine dq 113 rfl (fun _ g u h => LWo.guardY (t := 111) u.2.1 h54 rfl rfl (LWo.move (e_int t8) u.1 (hn := .nil (zn g)))) ?_
           refine dq 114 rfl (fun _ g u h => LWo.guardY (t := 111) u.1 h54 rfl rfl (LWo.int _ u.2.1 rfl (sub_ck e55) (hn := .nil (zn g)))) ?_
           refine dq 115 rfl (fun _ g u h => LWo.guardY (t := 111) u.1 h54 rfl rfl (LWo.indexO e56 rfl u_Lint s_int u.2.1 u.2.2.1 h.1 (hn := .nil (zn g)))) ?_
           refine dq 116 rfl (fun _ g u h => LWo.guardY (t := 111) u.1 h54 rfl rfl (LWo.loadO1 (e_int x57) e57 g_int u.2.1 h.1 rfl (hn := .nil (zn g)))) ?_
           refine dq 117 rfl (fun _ g u h => LWo.guardY (t := 111) u.2.1 h54 rfl rfl (LWo.move (.own 1001 0 (o1001).length) u.1 (hn := .nil (zn g)))) ?_
           refine dq 118 rfl (fun _ g u h => LWo.guardY (t := 111) u.2.1 h54 rfl rfl (LWo.move (e_int t8) u.1 (hn := .nil (zn g)))) ?_
           refine dq 119 rfl (fun _ g u h => LWo.guardY (t := 111) u.1 h54 rfl rfl (LWo.int _ u.2.1 rfl (sub_ck e58) (hn := .nil (zn g)))) ?_
           refine dq 120 rfl (fun _ g u h => LWo.guardY (t := 111) u.1 h54 rfl rfl (LWo.indexO e59 rfl u_Lint s_int u.2.1 u.2.2.1 h.1 (hn := .nil (zn g)))) ?_
           refine dq 121 rfl (fun _ g u h => LWo.guardY (t := 111) u.1 h54 rfl rfl (LWo.loadO1 (e_int x60) e60 g_int u.2.1 h.1 rfl (hn := .nil (zn g)))) ?_
           refine dq 122 rfl (fun _ g u h => LWo.guardY (t := 111) u.1 h54 rfl rfl (LWo.int _ u.2.1 u.2.2.1 rfl (hn := .nil (zn g)))) ?_
           refine dq 123 rfl (fun _ g u h => LWo.pickTM (e_bool (x57 == x60)) u.1 h54 u.2.1 (hn := .nil (zn g))) ?_
           refine dq 124 rfl (fun _ g u h => LWo.move (e_bool (x57 == x60)) u.1 (hn := .nil (zn g))) ?_
           refine dq 125 rfl (fun _ g u h => LWo.guardY (t := 124) u.2.1 h61 rfl rfl (LWo.fieldAddr _ u_impl_Part rfl s_int u.1 rfl (hn := .nil (zn g)))) ?_
           refine dq 126 rfl (fun _ g u h => LWo.guardY (t := 124) u.1 h61 rfl rfl (LWo.load1 (c := (e_int t5.N)) g_int u.2.1 (hn := .nil (zn g)))) ?_
           refine dq 127 rfl (fun _ g u h => LWo.guardY (t := 124) u.1 h61 rfl rfl (LWo.vcall rfl (av3 u.2.1 rfl rfl) (c_spec_l1In _ _ _ _ e62) (.same (.same (.same (.nil)))) (hn := .nil (zn g)))) ?_
           refine dq 128 rfl (fun _ g u h => LWo.pickTM (e_bool x62) u.1 h61 u.2.1 (hn := .nil (zn g))) ?_
           refine dq 10 rfl (fun _ g u h => LWo.assign (e_bool x62) u.1 (hn := .nil (zn g))) ?_
           refine ⟨rfl, by kernel_rfl, hN53 (t8, x62, o1001) _ ⟨rfl, rfl, rfl, trivial⟩ ⟨rfl, trivial⟩ h⟩
          ·have h := bF h61 h
           refine LWP.drawF (l := [_,_,_,_,_,_,_,_,_,_,_,_,_,_,_,_,_,_,_,_,_]) [] [1, 5, 8] [([8], []), ([109], []), ([110], []), ([1, 111], []), ([8, 111], []), ([111, 113], []), ([111, 112, 114], [1001]), ([111, 115], [1001]), ([1, 111], []), ([8, 111], []), ([111, 118], []), ([111, 117, 119], [1001]), ([111, 120], [1001]), ([111, 116, 121], []), ([111, 122], []), ([123], []), ([5, 124], []), ([124, 125], []), ([124, 126], []), ([124, 127], []), ([128], [])] [1, 8, 10] [1001] mixed (by kernel_rfl) rfl (by decide) ?_
           refine dq 109 rfl (fun _ g u h => LWo.move (e_int t8) u.1 (hn := .nil (zn g))) ?_
           refine dq 110 rfl (fun _ g u h => LWo.int _ u.1 rfl rfl (hn := .nil (zn g))) ?_
           refine dq 111 rfl (fun _ g u h => LWo.move (e_bool (decide (t8 > (1 : Int)))) u.1 (hn := .nil (zn g))) ?_
           refine dq 112 rfl (fun _ g u h => LWo.guardY (t := 111) u.2.1 h54 rfl rfl (LWo.move (.own 1001 0 (o1001).length) u.1 (hn := .nil (zn g)))) ?_
           refine dq 113 rfl (fun _ g u h => LWo.guardY (t := 111) u.2.1 h54 rfl rfl (LWo.move (e_int t8) u.1 (hn := .nil (zn g)))) ?_
           refine dq 114 rfl (fun _ g u h => LWo.guardY (t := 111) u.1 h54 rfl rfl (LWo.int _ u.2.1 rfl (sub_ck e55) (hn := .nil (zn g)))) ?_
           refine dq 115 rfl (fun _ g u h => LWo.guardY (t := 111) u.1 h54 rfl rfl (LWo.indexO e56 rfl u_Lint s_int u.2.1 u.2.2.1 h.1 (hn := .nil (zn g)))) ?_
           refine dq 116 rfl (fun _ g u h => LWo.guardY (t := 111) u.1 h54 rfl rfl (LWo.loadO1 (e_int x57) e57 g_int u.2.1 h.1 rfl (hn := .nil (zn g)))) ?_
           refine dq 117 rfl (fun _ g u h => LWo.guardY (t := 111) u.2.1 h54 rfl rfl (LWo.move (.own 1001 0 (o1001).length) u.1 (hn := .nil (zn g)))) ?_
           refine dq 118 rfl (fun _ g u h => LWo.guardY (t := 111) u.2.1 h54 rfl rfl (LWo.move (e_int t8) u.1 (hn := .nil (zn g)))) ?_
           refine dq 119 rfl (fun _ g u h => LWo.guardY (t := 111) u.1 h54 rfl rfl (LWo.int _ u.2.1 rfl (sub_ck e58) (hn := .nil (zn g)))) ?_
           refine dq 120 rfl (fun _ g u h => LWo.guardY (t := 111) u.1 h54 rfl rfl (LWo.indexO e59 rfl u_Lint s_int u.2.1 u.2.2.1 h.1 (hn := .nil (zn g)))) ?_
           refine dq 121 rfl (fun _ g u h => LWo.guardY (t := 111) u.1 h54 rfl rfl (LWo.loadO1 (e_int x60) e60 g_int u.2.1 h.1 rfl (hn := .nil (zn g)))) ?_
           refine dq 122 rfl (fun _ g u h => LWo.guardY (t := 111) u.1 h54 rfl rfl (LWo.int _ u.2.1 u.2.2.1 rfl (hn := .nil (zn g)))) ?_
           refine dq 123 rfl (fun _ g u h => LWo.pickTM (e_bool (x57 == x60)) u.1 h54 u.2.1 (hn := .nil (zn g))) ?_
           refine dq 124 rfl (fun _ g u h => LWo.move (e_bool (x57 == x60)) u.1 (hn := .nil (zn g))) ?_
           refine dq 125 rfl (fun _ g u h => LWo.guardNU (t := 124) u.2.1 h61 rfl rfl rfl rfl rfl (.nil (zn g))) ?_
           refine dq 126 rfl (fun _ g u h => LWo.guardNU (t := 124) u.1 h61 rfl rfl rfl rfl rfl (.nil (zn g))) ?_
           refine dq 127 rfl (fun _ g u h => LWo.guardNU (t := 124) u.1 h61 rfl rfl rfl rfl rfl (.nil (zn g))) ?_
           refine dq 128 rfl (fun _ g u h => LWo.pickFM (e_bool false) u.1 h61 rfl (hn := .nil (zn g))) ?_
           refine dq 10 rfl (fun _ g u h => LWo.assign (e_bool false) u.1 (hn := .nil (zn g))) ?_
           refine ⟨rfl, by kernel_rfl, hN53 (t8, false, o1001) _ ⟨rfl, rfl, rfl, trivial⟩ ⟨rfl, trivial⟩ h⟩
         ·have h := bF h54 h
          refine LWP.drawF (l := [_,_,_,_,_,_,_,_,_,_,_,_,_,_,_,_,_,_,_,_,_]) [] [1, 5, 8] [([8], []), ([109], []), ([110], []), ([1, 111], []), ([8, 111], []), ([111, 113], []), ([111, 112, 114], []), ([111, 115], []), ([1, 111], []), ([8, 111], []), ([111, 118], []), ([111, 117, 119], []), ([111, 120], []), ([111, 116, 121], []), ([111, 122], []), ([123], []), ([5, 124], []), ([124, 125], []), ([124, 126], []), ([124, 127], []), ([128], [])] [1, 8, 10] [1001] mixed (by kernel_rfl) rfl (by decide) ?_
          refine dq 109 rfl (fun _ g u h => LWo.move (e_int t8) u.1 (hn := .nil (zn g))) ?_
          refine dq 110 rfl (fun _ g u h => LWo.int _ u.1 rfl rfl (hn := .nil (zn g))) ?_
          refine dq 111 rfl (fun _ g u h => LWo.move (e_bool (decide (t8 > (1 : Int)))) u.1 (hn := .nil (zn g))) ?_
          refine dq 112 rfl (fun _ g u h => LWo.guardNU (t := 111) u.2.1 h54 rfl rfl rfl rfl rfl (.nil (zn g))) ?_
          refine dq 113 rfl (fun _ g u h => LWo.guardNU (t := 111) u.2.1 h54 rfl rfl rfl rfl rfl (.nil (zn g))) ?_
          refine dq 114 rfl (fun _ g u h => LWo.guardNU (t := 111) u.1 h54 rfl rfl rfl rfl rfl (.nil (zn g))) ?_
          refine dq 115 rfl (fun _ g u h => LWo.guardNU (t := 111) u.1 h54 rfl rfl rfl rfl rfl (.nil (zn g))) ?_
          refine dq 116 rfl (fun _ g u h => LWo.guardNU (t := 111) u.1 h54 rfl rfl rfl rfl rfl (.nil (zn g))) ?_
          refine dq 117 rfl (fun _ g u h => LWo.guardNU (t := 111) u.2.1 h54 rfl rfl rfl rfl rfl (.nil (zn g))) ?_
          refine dq 118 rfl (fun _ g u h => LWo.guardNU (t := 111) u.2.1 h54 rfl rfl rfl rfl rfl (.nil (zn g))) ?_
          refine dq 119 rfl (fun _ g u h => LWo.guardNU (t := 111) u.1 h54 rfl rfl rfl rfl rfl (.nil (zn g))) ?_
          refine dq 120 rfl (fun _ g u h => LWo.guardNU (t := 111) u.1 h54 rfl rfl rfl rfl rfl (.nil (zn g))) ?_
          refine dq 121 rfl (fun _ g u h => LWo.guardNU (t := 111) u.1 h54 rfl rfl rfl rfl rfl (.nil (zn g))) ?_
          refine dq 122 rfl (fun _ g u h => LWo.guardNU (t := 111) u.1 h54 rfl rfl rfl rfl rfl (.nil (zn g))) ?_
          refine dq 123 rfl (fun _ g u h => LWo.pickFM (e_bool false) u.1 h54 rfl (hn := .nil (zn g))) ?_
          refine dq 124 rfl (fun _ g u h => LWo.move (e_bool false) u.1 (hn := .nil (zn g))) ?_
          refine dq 125 rfl (fun _ g u h => LWo.guardNU (t := 124) u.2.1 rfl rfl rfl rfl rfl rfl (.nil (zn g))) ?_
          refine dq 126 rfl (fun _ g u h => LWo.guardNU (t := 124) u.1 rfl rfl rfl rfl rfl rfl (.nil (zn g))) ?_
          refine dq 127 rfl (fun _ g u h => LWo.guardNU (t := 124) u.1 rfl rfl rfl rfl rfl rfl (.nil (zn g))) ?_
          refine dq 128 rfl (fun _ g u h => LWo.pickFM (e_bool false) u.1 rfl rfl (hn := .nil (zn g))) ?_
          refine dq 10 rfl (fun _ g u h => LWo.assign (e_bool false) u.1 (hn := .nil (zn g))) ?_
          refine ⟨rfl, by kernel_rfl, hN53 (t8, false, o1001) _ ⟨rfl, rfl, rfl, trivial⟩ ⟨rfl, trivial⟩ h⟩
       ·have h := bF h52 h
        refine LWP.join (α := Int × Int × Bool × (List Int)) (fun z : Int × Int × Bool × (List Int) => [(1, (.own 1001 0 (z.2.2.2).length)), (8, (e_int z.1)), (40, (e_int z.2.1)), (137, (e_bool z.2.2.1))]) (fun z : Int × Int × Bool × (List Int) => [(1001, (lob 1 e_int z.2.2.2))]) (fun z : Int × Int × Bool × (List Int) => m_spec_l4Step_j5  z.1 z.2.1 z.2.2.1 z.2.2.2) r (fun _ => by simp [hkeys]) ?_ ?_
        ·rintro ⟨t8, t40, t137, o1001⟩ h
         replace h : m_spec_l4Step_j5  t8 t40 t137 o1001 = some _ := h
         refine LWP.cond_split rfl (fun h70 => ?_) (fun h70 => ?_)
         ·have h := bT h70 h
          refine LWP.join (α := Int × Bool × (List Int)) (fun z : Int × Bool × (List Int) => [(1, (.own 1001 0 (z.2.2).length)), (8, (e_int z.1)), (11, (e_bool z.2.1))]) (fun z : Int × Bool × (List Int) => [(1001, (lob 1 e_int z.2.2))]) (fun z : Int × Bool × (List Int) => m_spec_l4Step_j6  z.1 z.2.1 z.2.2) r (fun _ => by simp [hkeys]) ?_ ?_
          ·rintro ⟨t8, t11, o1001⟩ h
           replace h : m_spec_l4Step_j6  t8 t11 o1001 = some _ := h
           refine LWP.seq_k fun N80 hN80 => ?_
           refine LWP.region (l := [_,_,_,_,_,_,_,_,_,_]) ?_
           refine LWo.move (.own 1001 0 (o1001).length) rfl (hn := ?_)
           refine LWo.move (e_int t8) rfl (hn := ?_)
           refine bk h fun x81 e81 h => ?_
           refine LWo.int _ rfl rfl (sub_ck e81) (hn := ?_)
           refine LWo.max2 rfl rfl (hn := ?_)
           refine bk h fun u82 e82 h => ?_
           refine LWo.cutOM e82 u_Lint s_int rfl rfl rfl ⟨_, rfl⟩ (hn := ?_)
           refine LWo.lit (ops := [_]) [(e_int (3 : Int))] u_Lint s_int z_int rfl rfl rfl rfl rfl rfl (hn := ?_)
           refine bk h fun x83 e83 h => ?_
           refine LWo.appendT (f := e_int) e83 u_Lint u_Lint (fun _ h => by cases h) s_int i_int rfl rfl rfl (.m (.sl rfl)) rfl rfl (hn := ?_)
           refine LWo.move (e_bool t11) rfl (hn := ?_)
           refine LWo.assign (.own 1001 0 (x83).length) rfl (hn := ?_)
           refine LWo.assign (e_bool t11) rfl (hn := ?_)
           refine LWo.nil (hN80 _ ?_)
           obtain rfl := Option.some.inj h
           refine LWP.ret (QG.mk (.inr rfl) (.cons (.tmp (x := (.own 1001 0 (x83).length)) rfl) (.cons (.tmp (x := (e_bool t11)) rfl) (.nil))) (RetOK.many0 (.cons (.nwM rfl rfl) (.cons (.pure rfl) (.nil))) (by simp) (by decide)) rfl rfl)
          ·intro N71 hN71
           refine LWP.region (l := [_,_,_,_,_,_,_,_,_,_,_,_,_,_,_,_,_,_,_]) ?_
           refine LWo.move (e_int t8) rfl (hn := ?_)
           refine LWo.int _ rfl rfl rfl (hn := ?_)
           refine LWo.move (e_bool (decide (t8 > (1 : Int)))) rfl (hn := ?_)
           refine LWo.byCases (t := 142) _ rfl (fun h72 => ?_) (fun h72 => ?_)
           ·have h := bT h72 h
            refine LWo.guardY (t := 142) rfl h72 rfl rfl ?_
            refine LWo.move (.own 1001 0 (o1001).length) rfl (hn := ?_)
            refine LWo.guardY (t := 142) rfl h72 rfl rfl ?_
            refine LWo.move (e_int t8) rfl (hn := ?_)
            refine bk h fun x73 e73 h => ?_
            refine LWo.guardY (t := 142) rfl h72 rfl rfl ?_
            refine LWo.int _ rfl rfl (sub_ck e73) (hn := ?_)
            refine bk h fun x74 e74 h => ?_
            refine LWo.guardY (t := 142) rfl h72 rfl rfl ?_
            refine LWo.indexO e74 rfl u_Lint s_int rfl rfl rfl (hn := ?_)
            refine bk h fun x75 e75 h => ?_
            refine LWo.guardY (t := 142) rfl h72 rfl rfl ?_
            refine LWo.loadO1 (e_int x75) e75 g_int rfl rfl rfl (hn := ?_)
            refine LWo.guardY (t := 142) rfl h72 rfl rfl ?_
            refine LWo.int _ rfl rfl rfl (hn := ?_)
            refine LWo.pickTM (e_bool (x75 == (3 : Int))) rfl h72 rfl (hn := ?_)
            refine LWo.move (e_bool (x75 == (3 : Int))) rfl (hn := ?_)
            refine LWo.byCases (t := 150) _ rfl (fun h76 => ?_) (fun h76 => ?_)
            ·have h := bT h76 h
             refine LWo.guardY (t := 150) rfl h76 rfl rfl ?_
             refine LWo.move (.own 1001 0 (o1001).length) rfl (hn := ?_)
             refine LWo.guardY (t := 150) rfl h76 rfl rfl ?_
             refine LWo.move (e_int t8) rfl (hn := ?_)
             refine bk h fun x77 e77 h => ?_
             refine LWo.guardY (t := 150) rfl h76 rfl rfl ?_
             refine LWo.int _ rfl rfl (sub_ck e77) (hn := ?_)
             refine bk h fun x78 e78 h => ?_
             refine LWo.guardY (t := 150) rfl h76 rfl rfl ?_
             refine LWo.indexO e78 rfl u_Lint s_int rfl rfl rfl (hn := ?_)
             refine bk h fun x79 e79 h => ?_
             refine LWo.guardY (t := 150) rfl h76 rfl rfl ?_
             refine LWo.loadO1 (e_int x79) e79 g_int rfl rfl rfl (hn := ?_)
             refine LWo.guardY (t := 150) rfl h76 rfl rfl ?_
             refine LWo.int _ rfl rfl rfl (hn := ?_)
             refine LWo.pickTM (e_bool (x79 == (3 : Int))) rfl h76 rfl (hn := ?_)
             refine LWo.assign (e_bool (x79 == (3 : Int))) rfl (hn := ?_)
             refine LWo.nil (hN71 (t8, (x79 == (3 : Int)), o1001) _ ⟨rfl, rfl, rfl, trivial⟩ ⟨rfl, trivial⟩ h)
            ·have h := bF h76 h
             refine LWo.guardNU (t := 150) rfl h76 rfl rfl rfl rfl rfl ?_
             refine LWo.guardNU (t := 150) rfl h76 rfl rfl rfl rfl rfl ?_
             refine LWo.guardNU (t := 150) rfl h76 rfl rfl rfl rfl rfl ?_
             refine LWo.guardNU (t := 150) rfl h76 rfl rfl rfl rfl rfl ?_
             refine LWo.guardNU (t := 150) rfl h76 rfl rfl rfl rfl rfl ?_
             refine LWo.guardNU (t := 150) rfl h76 rfl rfl rfl rfl rfl ?_
             refine LWo.pickFM (e_bool false) rfl h76 rfl (hn := ?_)
             refine LWo.assign (e_bool false) rfl (hn := ?_)
             refine LWo.nil (hN71 (t8, false, o1001) _ ⟨rfl, rfl, rfl, trivial⟩ ⟨rfl, trivial⟩ h)
           ·have h := bF h72 h
            refine LWo.guardNU (t := 142) rfl h72 rfl rfl rfl rfl rfl ?_
            refine LWo.guardNU (t := 142) rfl h72 rfl rfl rfl rfl rfl ?_
            refine LWo.guardNU (t := 142) rfl h72 rfl rfl rfl rfl rfl ?_
            refine LWo.guardNU (t := 142) rfl h72 rfl rfl rfl rfl rfl ?_
            refine LWo.guardNU (t := 142) rfl h72 rfl rfl rfl rfl rfl ?_
            refine LWo.guardNU (t := 142) rfl h72 rfl rfl rfl rfl rfl ?_
            refine LWo.pickFM (e_bool false) rfl h72 rfl (hn := ?_)
            refine LWo.move (e_bool false) rfl (hn := ?_)
            refine LWo.guardNU (t := 150) rfl rfl rfl rfl rfl rfl rfl ?_
            refine LWo.guardNU (t := 150) rfl rfl rfl rfl rfl rfl rfl ?_
            refine LWo.guardNU (t := 150) rfl rfl rfl rfl rfl rfl rfl ?_
            refine LWo.guardNU (t := 150) rfl rfl rfl rfl rfl rfl rfl ?_
            refine LWo.guardNU (t := 150) rfl rfl rfl rfl rfl rfl rfl ?_
            refine LWo.guardNU (t := 150) rfl rfl rfl rfl rfl rfl rfl ?_
            refine LWo.pickFM (e_bool false) rfl rfl rfl (hn := ?_)
            refine LWo.assign (e_bool false) rfl (hn := ?_)
            refine LWo.nil (hN71 (t8, false, o1001) _ ⟨rfl, rfl, rfl, trivial⟩ ⟨rfl, trivial⟩ h)
         ·have h := bF h70 h
          refine LWP.seq_k fun N84 hN84 => ?_
          refine LWP.region (l := [_,_]) ?_
          refine LWo.int _ rfl rfl rfl (hn := ?_)
          refine LWo.assign (e_bool (t40 == (7 : Int))) rfl (hn := ?_)
          refine LWo.nil (hN84 _ ?_)
          refine LWP.cond_split rfl (fun h85 => ?_) (fun h85 => ?_)
          ·have h := bT h85 h
           refine LWP.join (α := Bool × (List Int)) (fun z : Bool × (List Int) => [(6, (.own 1001 0 (z.2).length)), (7, (e_bool z.1))]) (fun z : Bool × (List Int) => [(1001, (lob 1 e_int z.2))]) (fun z : Bool × (List Int) => m_spec_l4Step_j7  z.1 z.2) r (fun _ => by simp [hkeys]) ?_ ?_
           ·rintro ⟨t7, o1001⟩ h
            replace h : m_spec_l4Step_j7  t7 o1001 = some _ := h
            obtain rfl := Option.some.inj h
            refine LWP.ret (QG.mk (.inr rfl) (.cons (.tmp (x := (.own 1001 0 (o1001).length)) rfl) (.cons (.tmp (x := (e_bool t7)) rfl) (.nil))) (RetOK.many0 (.cons (.nwM rfl rfl) (.cons (.pure rfl) (.nil))) (by simp) (by decide)) rfl rfl)
           ·intro N86 hN86
            refine bS (decide (t8 > (0 : Int))) (fun h87 => ?_) (fun h87 => ?_)
            ·have h := bT h87 h
             refine bk h fun x88 e88 h => ?_
             refine bk h fun x89 e89 h => ?_
             refine bk h fun x90 e90 h => ?_
             refine LWP.drawF (l := [_,_,_,_,_,_,_,_,_,_,_,_,_]) [] [1, 8] [([1], []), ([8], []), ([169], []), ([170], []), ([1, 171], []), ([8, 171], []), ([171, 173], []), ([171, 172, 174], [1001]), ([171, 175], [1001]), ([171, 176], []), ([171, 177], []), ([168], []), ([178], [])] [6, 7] [1001] mixed (by kernel_rfl) rfl (by decide) ?_
             refine dq 168 rfl (fun _ g u h => LWo.move (.own 1001 0 (o1001).length) u.1 (hn := .nil (zn g))) ?_
             refine dq 169 rfl (fun _ g u h => LWo.move (e_int t8) u.1 (hn := .nil (zn g))) ?_
             refine dq 170 rfl (fun _ g u h => LWo.int _ u.1 rfl rfl (hn := .nil (zn g))) ?_
             refine dq 171 rfl (fun _ g u h => LWo.move (e_bool (decide (t8 > (0 : Int)))) u.1 (hn := .nil (zn g))) ?_
             refine dq 172 rfl (fun _ g u h => LWo.guardY (t := 171) u.2.1 h87 rfl rfl (LWo.move (.own 1001 0 (o1001).length) u.1 (hn := .nil (zn g)))) ?_
             refine dq 173 rfl (fun _ g u h => LWo.guardY (t := 171) u.2.1 h87 rfl rfl (LWo.move (e_int t8) u.1 (hn := .nil (zn g)))) ?_
             refine dq 174 rfl (fun _ g u h => LWo.guardY (t := 171) u.1 h87 rfl rfl (LWo.int _ u.2.1 rfl (sub_ck e88) (hn := .nil (zn g)))) ?_
             refine dq 175 rfl (fun _ g u h => LWo.guardY (t := 171) u.1 h87 rfl rfl (LWo.indexO e89 rfl u_Lint s_int u.2.1 u.2.2.1 h.1 (hn := .nil (zn g)))) ?_
             refine dq 176 rfl (fun _ g u h => LWo.guardY (t := 171) u.1 h87 rfl rfl (LWo.loadO1 (e_int x90) e90 g_int u.2.1 h.1 rfl (hn := .nil (zn g)))) ?_
             refine dq 177 rfl (fun _ g u h => LWo.guardY (t := 171) u.1 h87 rfl rfl (LWo.int _ u.2.1 rfl rfl (hn := .nil (zn g)))) ?_
             refine dq 178 rfl (fun _ g u h => LWo.pickTM (e_bool (x90 == (3 : Int))) u.1 h87 u.2.1 (hn := .nil (zn g))) ?_
             refine dq 6 rfl (fun _ g u h => LWo.assign (.own 1001 0 (o1001).length) u.1 (hn := .nil (zn g))) ?_
             refine dq 7 rfl (fun _ g u h => LWo.assign (e_bool (x90 == (3 : Int))) u.1 (hn := .nil (zn g))) ?_
             refine ⟨rfl, by kernel_rfl, hN86 ((x90 == (3 : Int)), o1001) _ ⟨rfl, rfl, trivial⟩ ⟨rfl, trivial⟩ h⟩
            ·have h := bF h87 h
             refine LWP.drawF (l := [_,_,_,_,_,_,_,_,_,_,_,_,_]) [] [1, 8] [([1], []), ([8], []), ([169], []), ([170], []), ([1, 171], []), ([8, 171], []), ([171, 173], []), ([171, 172, 174], []), ([171, 175], []), ([171, 176], []), ([171, 177], []), ([168], []), ([178], [])] [6, 7] [1001] mixed (by kernel_rfl) rfl (by decide) ?_
             refine dq 168 rfl (fun _ g u h => LWo.move (.own 1001 0 (o1001).length) u.1 (hn := .nil (zn g))) ?_
             refine dq 169 rfl (fun _ g u h => LWo.move (e_int t8) u.1 (hn := .nil (zn g))) ?_
             refine dq 170 rfl (fun _ g u h => LWo.int _ u.1 rfl rfl (hn := .nil (zn g))) ?_
             refine dq 171 rfl (fun _ g u h => LWo.move (e_bool (decide (t8 > (0 : Int)))) u.1 (hn := .nil (zn g))) ?_
             refine dq 172 rfl (fun _ g u h => LWo.guardNU (t := 171) u.2.1 h87 rfl rfl rfl rfl rfl (.nil (zn g))) ?_
             refine dq 173 rfl (fun _ g u h => LWo.guardNU (t := 171) u.2.1 h87 rfl rfl rfl rfl rfl (.nil (zn g))) ?_
             refine dq 174 rfl (fun _ g u h => LWo.guardNU (t := 171) u.1 h87 rfl rfl rfl rfl rfl (.nil (zn g))) ?_
             refine dq 175 rfl (fun _ g u h => LWo.guardNU (t := 171) u.1 h87 rfl rfl rfl rfl rfl (.nil (zn g))) ?_
             refine dq 176 rfl (fun _ g u h => LWo.guardNU (t := 171) u.1 h87 rfl rfl rfl rfl rfl (.nil (zn g))) ?_
             refine dq 177 rfl (fun _ g u h => LWo.guardNU (t := 171) u.1 h87 rfl rfl rfl rfl rfl (.nil (zn g))) ?_
             refine dq 178 rfl (fun _ g u h => LWo.pickFM (e_bool false) u.1 h87 rfl (hn := .nil (zn g))) ?_
             refine dq 6 rfl (fun _ g u h => LWo.assign (.own 1001 0 (o1001).length) u.1 (hn := .nil (zn g))) ?_
             refine dq 7 rfl (fun _ g u h => LWo.assign (e_bool false) u.1 (hn := .nil (zn g))) ?_
             refine ⟨rfl, by kernel_rfl, hN86 (false, o1001) _ ⟨rfl, rfl, trivial⟩ ⟨rfl, trivial⟩ h⟩
          ·have h := bF h85 h
           refine LWP.seq_k fun N91 hN91 => ?_
           refine LWP.region (l := [_,_]) ?_
           refine LWo.int _ rfl rfl rfl (hn := ?_)
           refine LWo.assign (e_bool (t40 == (8 : Int))) rfl (hn := ?_)
           refine LWo.nil (hN91 _ ?_)
           refine LWP.cond_split rfl (fun h92 => ?_) (fun h92 => ?_)
           ·have h := bT h92 h
            refine LWP.seq_k fun N93 hN93 => ?_
            refine LWP.region (l := [_,_,_,_,_,_,_,_,_,_,_]) ?_
            refine LWo.move (.own 1001 0 (o1001).length) rfl (hn := ?_)
            refine LWo.move (e_int t8) rfl (hn := ?_)
            refine bk h fun x94 e94 h => ?_
            refine LWo.int _ rfl rfl (sub_ck e94) (hn := ?_)
            refine LWo.max2 rfl rfl (hn := ?_)
            refine bk h fun u95 e95 h => ?_
            refine LWo.cutOM e95 u_Lint s_int rfl rfl rfl ⟨_, rfl⟩ (hn := ?_)
            refine LWo.lit (ops := [_]) [(e_int (3 : Int))] u_Lint s_int z_int rfl rfl rfl rfl rfl rfl (hn := ?_)
            refine bk h fun x96 e96 h => ?_
            refine LWo.appendT (f := e_int) e96 u_Lint u_Lint (fun _ h => by cases h) s_int i_int rfl rfl rfl (.m (.sl rfl)) rfl rfl (hn := ?_)
            refine LWo.move (e_int t8) rfl (hn := ?_)
            refine LWo.int _ rfl rfl rfl (hn := ?_)
            refine LWo.assign (.own 1001 0 (x96).length) rfl (hn := ?_)
            refine LWo.assign (e_bool (decide (t8 > (0 : Int)))) rfl (hn := ?_)
            refine LWo.nil (hN93 _ ?_)
            obtain rfl := Option.some.inj h
            refine LWP.ret (QG.mk (.inr rfl) (.cons (.tmp (x := (.own 1001 0 (x96).length)) rfl) (.cons (.tmp (x := (e_bool (decide (t8 > (0 : Int))))) rfl) (.nil))) (RetOK.many0 (.cons (.nwM rfl rfl) (.cons (.pure rfl) (.nil))) (by simp) (by decide)) rfl rfl)
           ·have h := bF h92 h
            refine LWP.skip (hN13 _ ?_)
            refine LWP.seq_k fun N97 hN97 => ?_
            refine LWP.region (l := [_,_,_]) ?_
            refine LWo.move (.own 1001 0 (o1001).length) rfl (hn := ?_)
            refine LWo.assign (.own 1001 0 (o1001).length) rfl (hn := ?_)
            refine LWo.assign (e_bool false) rfl (hn := ?_)
            refine LWo.nil (hN97 _ ?_)
            obtain rfl := Option.some.inj h
            refine LWP.ret (QG.mk (.inr rfl) (.cons (.tmp (x := (.own 1001 0 (o1001).length)) rfl) (.cons (.tmp (x := (e_bool false)) rfl) (.nil))) (RetOK.many0 (.cons (.nwM rfl rfl) (.cons (.pure rfl) (.nil))) (by simp) (by decide)) rfl rfl)
        ·intro N67 hN67
         refine LWP.seq_k fun N68 hN68 => ?_
         refine LWP.region (l := [_,_]) ?_
         refine LWo.int _ rfl rfl rfl (hn := ?_)
         refine LWo.assign (e_bool (t5.Kind == (5 : Int))) rfl (hn := ?_)
         refine LWo.nil (hN68 _ ?_)
         refine LWP.cond_split rfl (fun h69 => ?_) (fun h69 => ?_)
         ·have h := bT h69 h
          refine LWP.skip (hN67 (t8, t5.Kind, (t5.Kind == (5 : Int)), o1001) _ ⟨rfl, rfl, rfl, rfl, trivial⟩ ⟨rfl, trivial⟩ h)
         ·have h := bF h69 h
          refine LWP.region (l := [_,_]) ?_
          refine LWo.int _ rfl rfl rfl (hn := ?_)
          refine LWo.assign (e_bool (t5.Kind == (6 : Int))) rfl (hn := ?_)
          refine LWo.nil (hN67 (t8, t5.Kind, (t5.Kind == (6 : Int)), o1001) _ ⟨rfl, rfl, rfl, rfl, trivial⟩ ⟨rfl, trivial⟩ h)
  ·intro N4 hN4
   refine LWP.region (l := [_,_,_,_,_,_,_,_,_,_,_,_,_,_,_,_,_,_,_,_,_,_,_,_]) ?_
   refine LWo.fieldAddr _ u_impl_Part rfl s_int rfl rfl (hn := ?_)
   refine LWo.load1 (c := (e_int a2.Kind)) g_int rfl (hn := ?_)
   refine LWo.int _ rfl rfl rfl (hn := ?_)
   refine LWo.move (e_bool (a2.Kind != (1 : Int))) rfl (hn := ?_)
   refine LWo.byCases (t := 17) _ rfl (fun h5 => ?_) (fun h5 => ?_)
   ·have h := bT h5 h
    refine LWo.guardY (t := 17) rfl h5 rfl rfl ?_
    refine LWo.fieldAddr _ u_impl_Part rfl s_impl_Value rfl rfl (hn := ?_)
    refine LWo.guardY (t := 17) rfl h5 rfl rfl ?_
    refine LWo.loadN ((e_impl_Value a2.V)).cells g_impl_Value s_impl_Value rfl (Nat.le_of_ble_eq_true rfl) rfl (hn := ?_)
    refine LWo.guardY (t := 17) rfl h5 rfl rfl ?_
    refine LWo.build_impl_Value (parts := []) (⟨(0 : Int), (0 : Int), (⟨#[]⟩ : ByteArray)⟩ : S_impl_Value) rfl rfl rfl .refl (hn := ?_)
    refine LWo.guardY (t := 17) rfl h5 rfl rfl ?_
    refine LWo.ne_impl_Value _ _ rfl rfl (hn := ?_)
    refine LWo.pickTM (e_bool (!(decide (a2.V = (⟨(0 : Int), (0 : Int), (⟨#[]⟩ : ByteArray)⟩ : S_impl_Value))))) rfl h5 rfl (hn := ?_)
    refine LWo.move (e_bool (!(decide (a2.V = (⟨(0 : Int), (0 : Int), (⟨#[]⟩ : ByteArray)⟩ : S_impl_Value))))) rfl (hn := ?_)
    refine LWo.byCases (t := 23) _ rfl (fun h6 => ?_) (fun h6 => ?_)
    ·have h := bT h6 h
     refine LWo.guardNU (t := 23) rfl h6 rfl rfl rfl rfl rfl ?_
     refine LWo.guardNU (t := 23) rfl h6 rfl rfl rfl rfl rfl ?_
     refine LWo.guardNU (t := 23) rfl h6 rfl rfl rfl rfl rfl ?_
     refine LWo.guardNU (t := 23) rfl h6 rfl rfl rfl rfl rfl ?_
     refine LWo.guardU (t := 27) rfl rfl rfl rfl rfl ?_
     refine LWo.guardU (t := 27) rfl rfl rfl rfl rfl ?_
     refine LWo.guardU (t := 27) rfl rfl rfl rfl rfl ?_
     refine LWo.guardNU (t := 23) rfl h6 rfl rfl rfl rfl rfl ?_
     refine LWo.guardNU (t := 23) rfl h6 rfl rfl rfl rfl rfl ?_
     refine LWo.guardU (t := 32) rfl rfl rfl rfl rfl ?_
     refine LWo.guardU (t := 32) rfl rfl rfl rfl rfl ?_
     refine LWo.guardU (t := 32) rfl rfl rfl rfl rfl ?_
     refine LWo.guardNU (t := 23) rfl h6 rfl rfl rfl rfl rfl ?_
     refine LWo.pickTM (e_bool true) rfl h6 rfl (hn := ?_)
     refine LWo.nil (hN4 (a0, a2, (o0.length : Int), true, o0) _ ⟨rfl, rfl, rfl, rfl, rfl, trivial⟩ ⟨rfl, trivial⟩ h)
    ·have h := bF h6 h
     refine LWo.guardY (t := 23) rfl h6 rfl rfl ?_
     refine LWo.fieldAddr _ u_impl_Part rfl s_int rfl rfl (hn := ?_)
     refine LWo.guardY (t := 23) rfl h6 rfl rfl ?_
     refine LWo.load1 (c := (e_int a2.Kind)) g_int rfl (hn := ?_)
     refine LWo.guardY (t := 23) rfl h6 rfl rfl ?_
     refine LWo.int _ rfl rfl rfl (hn := ?_)
     refine LWo.guardY (t := 23) rfl h6 rfl rfl ?_
     refine LWo.move (e_bool (a2.Kind != (2 : Int))) rfl (hn := ?_)
     refine LWo.byCases (t := 27) _ rfl (fun h7 => ?_) (fun h7 => ?_)
     ·have h := bT h7 h
      refine LWo.guardY (t := 27) rfl h7 rfl rfl ?_
      refine LWo.fieldAddr _ u_impl_Part rfl s_int rfl rfl (hn := ?_)
      refine LWo.guardY (t := 27) rfl h7 rfl rfl ?_
      refine LWo.load1 (c := (e_int a2.Kind)) g_int rfl (hn := ?_)
      refine LWo.guardY (t := 27) rfl h7 rfl rfl ?_
      refine LWo.int _ rfl rfl rfl (hn := ?_)
      refine LWo.guardY (t := 23) rfl h6 rfl rfl ?_
      refine LWo.pickTM (e_bool (a2.Kind != (4 : Int))) rfl h7 rfl (hn := ?_)
      refine LWo.guardY (t := 23) rfl h6 rfl rfl ?_
      refine LWo.move (e_bool (a2.Kind != (4 : Int))) rfl (hn := ?_)
      refine LWo.byCases (t := 32) _ rfl (fun h8 => ?_) (fun h8 => ?_)
      ·have h := bT h8 h
       refine LWo.guardY (t := 32) rfl h8 rfl rfl ?_
       refine LWo.fieldAddr _ u_impl_Part rfl s_int rfl rfl (hn := ?_)
       refine LWo.guardY (t := 32) rfl h8 rfl rfl ?_
       refine LWo.load1 (c := (e_int a2.N)) g_int rfl (hn := ?_)
       refine LWo.guardY (t := 32) rfl h8 rfl rfl ?_
       refine LWo.int _ rfl rfl rfl (hn := ?_)
       refine LWo.guardY (t := 23) rfl h6 rfl rfl ?_
       refine LWo.pickTM (e_bool (a2.N != (0 : Int))) rfl h8 rfl (hn := ?_)
       refine LWo.pickFM (e_bool (a2.N != (0 : Int))) rfl h6 rfl (hn := ?_)
       refine LWo.nil (hN4 (a0, a2, (o0.length : Int), (a2.N != (0 : Int)), o0) _ ⟨rfl, rfl, rfl, rfl, rfl, trivial⟩ ⟨rfl, trivial⟩ h)
      ·have h := bF h8 h
       refine LWo.guardNU (t := 32) rfl h8 rfl rfl rfl rfl rfl ?_
       refine LWo.guardNU (t := 32) rfl h8 rfl rfl rfl rfl rfl ?_
       refine LWo.guardNU (t := 32) rfl h8 rfl rfl rfl rfl rfl ?_
       refine LWo.guardY (t := 23) rfl h6 rfl rfl ?_
       refine LWo.pickFM (e_bool false) rfl h8 rfl (hn := ?_)
       refine LWo.pickFM (e_bool false) rfl h6 rfl (hn := ?_)
       refine LWo.nil (hN4 (a0, a2, (o0.length : Int), false, o0) _ ⟨rfl, rfl, rfl, rfl, rfl, trivial⟩ ⟨rfl, trivial⟩ h)
     ·have h := bF h7 h
      refine LWo.guardNU (t := 27) rfl h7 rfl rfl rfl rfl rfl ?_
      refine LWo.guardNU (t := 27) rfl h7 rfl rfl rfl rfl rfl ?_
      refine LWo.guardNU (t := 27) rfl h7 rfl rfl rfl rfl rfl ?_
      refine LWo.guardY (t := 23) rfl h6 rfl rfl ?_
      refine LWo.pickFM (e_bool false) rfl h7 rfl (hn := ?_)
      refine LWo.guardY (t := 23) rfl h6 rfl rfl ?_
      refine LWo.move (e_bool false) rfl (hn := ?_)
      refine LWo.guardNU (t := 32) rfl rfl rfl rfl rfl rfl rfl ?_
      refine LWo.guardNU (t := 32) rfl rfl rfl rfl rfl rfl rfl ?_
      refine LWo.guardNU (t := 32) rfl rfl rfl rfl rfl rfl rfl ?_
      refine LWo.guardY (t := 23) rfl h6 rfl rfl ?_
      refine LWo.pickFM (e_bool false) rfl rfl rfl (hn := ?_)
      refine LWo.pickFM (e_bool false) rfl h6 rfl (hn := ?_)
      refine LWo.nil (hN4 (a0, a2, (o0.length : Int), false, o0) _ ⟨rfl, rfl, rfl, rfl, rfl, trivial⟩ ⟨rfl, trivial⟩ h)
   ·have h := bF h5 h
    refine LWo.guardNU (t := 17) rfl h5 rfl rfl rfl rfl rfl ?_
    refine LWo.guardNU (t := 17) rfl h5 rfl rfl rfl rfl rfl ?_
    refine LWo.guardNU (t := 17) rfl h5 rfl rfl rfl rfl rfl ?_
    refine LWo.guardNU (t := 17) rfl h5 rfl rfl rfl rfl rfl ?_
    refine LWo.pickFM (e_bool false) rfl h5 rfl (hn := ?_)
    refine LWo.move (e_bool false) rfl (hn := ?_)
    refine LWo.guardY (t := 23) rfl rfl rfl rfl ?_
    refine LWo.fieldAddr _ u_impl_Part rfl s_int rfl rfl (hn := ?_)
    refine LWo.guardY (t := 23) rfl rfl rfl rfl ?_
    refine LWo.load1 (c := (e_int a2.Kind)) g_int rfl (hn := ?_)
    refine LWo.guardY (t := 23) rfl rfl rfl rfl ?_
    refine LWo.int _ rfl rfl rfl (hn := ?_)
    refine LWo.guardY (t := 23) rfl rfl rfl rfl ?_
    refine LWo.move (e_bool (a2.Kind != (2 : Int))) rfl (hn := ?_)
    refine LWo.byCases (t := 27) _ rfl (fun h9 => ?_) (fun h9 => ?_)
    ·have h := bT h9 h
     refine LWo.guardY (t := 27) rfl h9 rfl rfl ?_
     refine LWo.fieldAddr _ u_impl_Part rfl s_int rfl rfl (hn := ?_)
     refine LWo.guardY (t := 27) rfl h9 rfl rfl ?_
     refine LWo.load1 (c := (e_int a2.Kind)) g_int rfl (hn := ?_)
     refine LWo.guardY (t := 27) rfl h9 rfl rfl ?_
     refine LWo.int _ rfl rfl rfl (hn := ?_)
     refine LWo.guardY (t := 23) rfl rfl rfl rfl ?_
     refine LWo.pickTM (e_bool (a2.Kind != (4 : Int))) rfl h9 rfl (hn := ?_)
     refine LWo.guardY (t := 23) rfl rfl rfl rfl ?_
     refine LWo.move (e_bool (a2.Kind != (4 : Int))) rfl (hn := ?_)
     refine LWo.byCases (t := 32) _ rfl (fun h10 => ?_) (fun h10 => ?_)
     ·have h := bT h10 h
      refine LWo.guardY (t := 32) rfl h10 rfl rfl ?_
      refine LWo.fieldAddr _ u_impl_Part rfl s_int rfl rfl (hn := ?_)
      refine LWo.guardY (t := 32) rfl h10 rfl rfl ?_
      refine LWo.load1 (c := (e_int a2.N)) g_int rfl (hn := ?_)
      refine LWo.guardY (t := 32) rfl h10 rfl rfl ?_
      refine LWo.int _ rfl rfl rfl (hn := ?_)
      refine LWo.guardY (t := 23) rfl rfl rfl rfl ?_
      refine LWo.pickTM (e_bool (a2.N != (0 : Int))) rfl h10 rfl (hn := ?_)
      refine LWo.pickFM (e_bool (a2.N != (0 : Int))) rfl rfl rfl (hn := ?_)
      refine LWo.nil (hN4 (a0, a2, (o0.length : Int), (a2.N != (0 : Int)), o0) _ ⟨rfl, rfl, rfl, rfl, rfl, trivial⟩ ⟨rfl, trivial⟩ h)
     ·have h := bF h10 h
      refine LWo.guardNU (t := 32) rfl h10 rfl rfl rfl rfl rfl ?_
      refine LWo.guardNU (t := 32) rfl h10 rfl rfl rfl rfl rfl ?_
      refine LWo.guardNU (t := 32) rfl h10 rfl rfl rfl rfl rfl ?_
      refine LWo.guardY (t := 23) rfl rfl rfl rfl ?_
      refine LWo.pickFM (e_bool false) rfl h10 rfl (hn := ?_)
      refine LWo.pickFM (e_bool false) rfl rfl rfl (hn := ?_)
      refine LWo.nil (hN4 (a0, a2, (o0.length : Int), false, o0) _ ⟨rfl, rfl, rfl, rfl, rfl, trivial⟩ ⟨rfl, trivial⟩ h)
    ·have h := bF h9 h
     refine LWo.guardNU (t := 27) rfl h9 rfl rfl rfl rfl rfl ?_
     refine LWo.guardNU (t := 27) rfl h9 rfl rfl rfl rfl rfl ?_
     refine LWo.guardNU (t := 27) rfl h9 rfl rfl rfl rfl rfl ?_
     refine LWo.guardY (t := 23) rfl rfl rfl rfl ?_
     refine LWo.pickFM (e_bool false) rfl h9 rfl (hn := ?_)
     refine LWo.guardY (t := 23) rfl rfl rfl rfl ?_
     refine LWo.move (e_bool false) rfl (hn := ?_)
     refine LWo.guardNU (t := 32) rfl rfl rfl rfl rfl rfl rfl ?_
     refine LWo.guardNU (t := 32) rfl rfl rfl rfl rfl rfl rfl ?_
     refine LWo.guardNU (t := 32) rfl rfl rfl rfl rfl rfl rfl ?_
     refine LWo.guardY (t := 23) rfl rfl rfl rfl ?_
     refine LWo.pickFM (e_bool false) rfl rfl rfl (hn := ?_)
     refine LWo.pickFM (e_bool false) rfl rfl rfl (hn := ?_)
     refine LWo.nil (hN4 (a0, a2, (o0.length : Int), false, o0) _ ⟨rfl, rfl, rfl, rfl, rfl, trivial⟩ ⟨rfl, trivial⟩ h)

def m_spec_ExprKind_j4 (t42 : Bool) (o1016 : (List Int)) : Option Int :=
  bif t42 then (some (-1 : Int))
  else ((at? o1016 (0 : Int)).bind fun x28 =>
  (at? o1016 (0 : Int)).bind fun x29 =>
  some x29)
def m_spec_ExprKind_j3 (t6 : Bool) (o1016 : (List Int)) : Option Int :=
  bif (!t6) then (m_spec_ExprKind_j4  true o1016)
  else (m_spec_ExprKind_j4  ((o1016.length : Int) != (1 : Int)) o1016)
def m_spec_ExprKind_j2 (k1 : (List S_impl_Column) → (List S_impl_Part) → Bool → Int → (List Int) → Option Int) (t0 : (List S_impl_Column)) (t1 : (List S_impl_Part)) (t6 : Bool) (t7 : Int) (t23 : Bool) (o1016 : (List Int)) : Option Int :=
  bif t23 then ((at? t1 t7).bind fun x19 =>
  (m_spec_l4Step t0 o1016 x19).bind fun x20 =>
  (ckI (t7 + (1 : Int))).bind fun x21 =>
  k1 t0 t1 x20.2 x21 x20.1)
  else (m_spec_ExprKind_j3  t6 o1016)
def m_spec_ExprKind_l1 : Nat → (List S_impl_Column) → (List S_impl_Part) → Bool → Int → (List Int) → Option Int
  | 0, _, _, _, _, _ => none
  | n1 + 1, t0, t1, t6, t7, o1016 =>
    bif decide (t7 < (t1.length : Int)) then (m_spec_ExprKind_j2  (m_spec_ExprKind_l1  n1) t0 t1 t6 t7 t6 o1016)
    else (m_spec_ExprKind_j2  (m_spec_ExprKind_l1  n1) t0 t1 t6 t7 false o1016)
def m_spec_ExprKind_j1 (t0 : (List S_impl_Column)) (t1 : (List S_impl_Part)) (t15 : Bool) : Option Int :=
  bif t15 then (some (-1 : Int))
  else (m_spec_ExprKind_l1  (1000000000) t0 t1 true (0 : Int) ([] : (List Int)))
def m_spec_ExprKind (a0 : (List S_impl_Column)) (a1 : (List S_impl_Part)) : Option Int :=
  (m_spec_ColumnsOk a0).bind fun x4 =>
  bif (!x4) then (m_spec_ExprKind_j1  a0 a1 true)
  else (m_spec_ExprKind_j1  a0 a1 (decide ((a1.length : Int) > (12 : Int))))
theorem c_spec_ExprKind (a0 : (List S_impl_Column)) (a1 : (List S_impl_Part)) (r : Int) (h : m_spec_ExprKind a0 a1 = some r) : Ret Try.prog f_spec_ExprKind [e_Limpl_Column a0, e_Limpl_Part a1] (e_int r) := by
  refine Does.goG [] F_spec_ExprKind rfl e_spec_ExprKind n_spec_ExprKind rfl (rvs := [.tmp 4]) rfl rfl ?_
  intro w0 ok0 lent ρ0
  refine LWP.seq_k fun N1 hN1 => ?_
  refine LWP.region (l := [_]) ?_
  refine LWo.assign (e_int (0 : Int)) rfl (hn := ?_)
  refine LWo.nil (hN1 _ ?_)
  refine LWP.seq_k fun N2 hN2 => ?_
  refine LWP.join (α := (List S_impl_Column) × (List S_impl_Part) × Bool) (fun z : (List S_impl_Column) × (List S_impl_Part) × Bool => [(0, (e_Limpl_Column z.1)), (1, (e_Limpl_Part z.2.1)), (15, (e_bool z.2.2))]) (fun z : (List S_impl_Column) × (List S_impl_Part) × Bool => []) (fun z : (List S_impl_Column) × (List S_impl_Part) × Bool => m_spec_ExprKind_j1  z.1 z.2.1 z.2.2) r (fun _ => by simp [hkeys]) ?_ ?_
  ·rintro ⟨t0, t1, t15⟩ h
   replace h : m_spec_ExprKind_j1  t0 t1 t15 = some _ := h
   refine LWP.cond_split rfl (fun h6 => ?_) (fun h6 => ?_)
   ·have h := bT h6 h
    refine LWP.seq_k fun N7 hN7 => ?_
    refine LWP.region (l := [_]) ?_
    refine LWo.assign (e_int (-1 : Int)) rfl (hn := ?_)
    refine LWo.nil (hN7 _ ?_)
    obtain rfl := Option.some.inj h
    refine LWP.ret (QG.mk (.inr rfl) (.cons (.tmp (x := (e_int (-1 : Int))) rfl) (.nil)) (RetOK.one0 (.pure rfl) (by decide)) rfl rfl)
   ·have h := bF h6 h
    refine LWP.skip (hN2 _ ?_)
    refine LWP.seq_k fun N8 hN8 => ?_
    refine LWP.region (l := [_,_]) ?_
    refine LWo.lit0 1016 u_Lint s_int z_int (hn := ?_)
    refine LWo.known 16 (.own 1016 0 ([] : (List Int)).length) rfl ?_
    refine LWo.assign (.own 1016 0 (([] : (List Int))).length) rfl (hn := ?_)
    refine LWo.nil (hN8 _ ?_)
    refine LWP.seq_k fun N9 hN9 => ?_
    refine LWP.region (l := [_]) ?_
    refine LWo.assign (e_bool true) rfl (hn := ?_)
    refine LWo.nil (hN9 _ ?_)
    refine LWP.join (α := Bool × (List Int)) (fun z : Bool × (List Int) => [(5, (.own 1016 0 (z.2).length)), (6, (e_bool z.1))]) (fun z : Bool × (List Int) => [(1016, (lob 1 e_int z.2))]) (fun z : Bool × (List Int) => m_spec_ExprKind_j3  z.1 z.2) r (fun _ => by simp [hkeys]) ?_ ?_
    ·rintro ⟨t6, o1016⟩ h
     replace h : m_spec_ExprKind_j3  t6 o1016 = some _ := h
     refine LWP.seq_k fun N22 hN22 => ?_
     refine LWP.join (α := Bool × (List Int)) (fun z : Bool × (List Int) => [(5, (.own 1016 0 (z.2).length)), (42, (e_bool z.1))]) (fun z : Bool × (List Int) => [(1016, (lob 1 e_int z.2))]) (fun z : Bool × (List Int) => m_spec_ExprKind_j4  z.1 z.2) r (fun _ => by simp [hkeys]) ?_ ?_
     ·rintro ⟨t42, o1016⟩ h
      replace h : m_spec_ExprKind_j4  t42 o1016 = some _ := h
      refine LWP.cond_split rfl (fun h25 => ?_) (fun h25 => ?_)
      ·have h := bT h25 h
       refine LWP.seq_k fun N26 hN26 => ?_
       refine LWP.region (l := [_]) ?_
       refine LWo.assign (e_int (-1 : Int)) rfl (hn := ?_)
       refine LWo.nil (hN26 _ ?_)
       obtain rfl := Option.some.inj h
       refine LWP.ret (QG.mk (.inr rfl) (.cons (.tmp (x := (e_int (-1 : Int))) rfl) (.nil)) (RetOK.one0 (.pure rfl) (by decide)) rfl rfl)
      ·have h := bF h25 h
       refine LWP.skip (hN22 _ ?_)
       refine LWP.seq_k fun N27 hN27 => ?_
       refine LWP.region (l := [_,_,_,_]) ?_
       refine LWo.move (.own 1016 0 (o1016).length) rfl (hn := ?_)
       refine bk h fun x28 e28 h => ?_
       refine LWo.indexO e28 rfl u_Lint s_int rfl rfl rfl (hn := ?_)
       refine bk h fun x29 e29 h => ?_
       refine LWo.loadO1 (e_int x29) e29 g_int rfl rfl rfl (hn := ?_)
       refine LWo.assign (e_int x29) rfl (hn := ?_)
       refine LWo.nil (hN27 _ ?_)
       obtain rfl := Option.some.inj h
       refine LWP.ret (QG.mk (.inr rfl) (.cons (.tmp (x := (e_int x29)) rfl) (.nil)) (RetOK.one0 (.pure rfl) (by decide)) rfl rfl)
     ·intro N23 hN23
      refine LWP.region (l := [_,_,_,_,_,_,_]) ?_
      refine LWo.move (e_bool t6) rfl (hn := ?_)
      refine LWo.not rfl (hn := ?_)
      refine LWo.move (e_bool (!t6)) rfl (hn := ?_)
      refine LWo.byCases (t := 38) _ rfl (fun h24 => ?_) (fun h24 => ?_)
      ·have h := bT h24 h
       refine LWo.guardNU (t := 38) rfl h24 rfl rfl rfl rfl rfl ?_
       refine LWo.guardNU (t := 38) rfl h24 rfl rfl rfl rfl rfl ?_
       refine LWo.guardNU (t := 38) rfl h24 rfl rfl rfl rfl rfl ?_
       refine LWo.pickTM (e_bool true) rfl h24 rfl (hn := ?_)
       refine LWo.nil (hN23 (true, o1016) _ ⟨rfl, rfl, trivial⟩ ⟨rfl, trivial⟩ h)
      ·have h := bF h24 h
       refine LWo.guardY (t := 38) rfl h24 rfl rfl ?_
       refine LWo.move (.own 1016 0 (o1016).length) rfl (hn := ?_)
       refine LWo.guardY (t := 38) rfl h24 rfl rfl ?_
       refine LWo.lenO u_Lint rfl (hn := ?_)
       refine LWo.guardY (t := 38) rfl h24 rfl rfl ?_
       refine LWo.int _ rfl rfl rfl (hn := ?_)
       refine LWo.pickFM (e_bool ((o1016.length : Int) != (1 : Int))) rfl h24 rfl (hn := ?_)
       refine LWo.nil (hN23 (((o1016.length : Int) != (1 : Int)), o1016) _ ⟨rfl, rfl, trivial⟩ ⟨rfl, trivial⟩ h)
    ·intro N10 hN10
     refine LWP.seq_k fun N11 hN11 => ?_
     refine LWP.region (l := [_]) ?_
     refine LWo.assign (e_int (0 : Int)) rfl (hn := ?_)
     refine LWo.nil (hN11 _ ?_)
     refine LWP.block ?_
     refine LWP.loopM (α := (List S_impl_Column) × (List S_impl_Part) × Bool × Int × (List Int)) (fun z : (List S_impl_Column) × (List S_impl_Part) × Bool × Int × (List Int) => [(0, (e_Limpl_Column z.1)), (1, (e_Limpl_Part z.2.1)), (5, (.own 1016 0 (z.2.2.2.2).length)), (6, (e_bool z.2.2.1)), (7, (e_int z.2.2.2.1))]) (fun z : (List S_impl_Column) × (List S_impl_Part) × Bool × Int × (List Int) => [(1016, (lob 1 e_int z.2.2.2.2))]) (fun n1 (z : (List S_impl_Column) × (List S_impl_Part) × Bool × Int × (List Int)) => m_spec_ExprKind_l1  n1 z.1 z.2.1 z.2.2.1 z.2.2.2.1 z.2.2.2.2) r _ (t0, t1, true, (0 : Int), ([] : (List Int))) h (fun _ => rfl) (fun _ => by simp [hkeys]) ⟨rfl, rfl, rfl, rfl, rfl, trivial⟩ ⟨rfl, trivial⟩ ?_
     rintro n1 ⟨t0, t1, t6, t7, o1016⟩ h N12 hN12
     replace h : m_spec_ExprKind_l1  (n1 + 1) t0 t1 t6 t7 o1016 = some _ := h
     refine LWP.seq_k fun N14 hN14 => ?_
     refine LWP.join (α := (List S_impl_Column) × (List S_impl_Part) × Bool × Int × Bool × (List Int)) (fun z : (List S_impl_Column) × (List S_impl_Part) × Bool × Int × Bool × (List Int) => [(0, (e_Limpl_Column z.1)), (1, (e_Limpl_Part z.2.1)), (5, (.own 1016 0 (z.2.2.2.2.2).length)), (6, (e_bool z.2.2.1)), (7, (e_int z.2.2.2.1)), (23, (e_bool z.2.2.2.2.1))]) (fun z : (List S_impl_Column) × (List S_impl_Part) × Bool × Int × Bool × (List Int) => [(1016, (lob 1 e_int z.2.2.2.2.2))]) (fun z : (List S_impl_Column) × (List S_impl_Part) × Bool × Int × Bool × (List Int) => m_spec_ExprKind_j2  (m_spec_ExprKind_l1  n1) z.1 z.2.1 z.2.2.1 z.2.2.2.1 z.2.2.2.2.1 z.2.2.2.2.2) r (fun _ => by simp [hkeys]) ?_ ?_
     ·rintro ⟨t0, t1, t6, t7, t23, o1016⟩ h
      replace h : m_spec_ExprKind_j2  (m_spec_ExprKind_l1  n1) t0 t1 t6 t7 t23 o1016 = some _ := h
      refine LWP.cond_split rfl (fun h17 => ?_) (fun h17 => ?_)
      ·have h := bT h17 h
       refine LWP.skip (hN14 _ ?_)
       refine LWP.seq_k fun N18 hN18 => ?_
       refine LWP.block ?_
       refine LWP.region (l := [_,_,_,_,_,_,_,_,_,_,_,_]) ?_
       refine LWo.move (e_Limpl_Column t0) rfl (hn := ?_)
       refine LWo.move (.own 1016 0 (o1016).length) rfl (hn := ?_)
       refine LWo.move (e_Limpl_Part t1) rfl (hn := ?_)
       refine LWo.move (e_int t7) rfl (hn := ?_)
       refine bk h fun x19 e19 h => ?_
       refine LWo.indexM (f := e_impl_Part) e19 u_Limpl_Part s_impl_Part rfl rfl (hn := ?_)
       refine LWo.loadN ((e_impl_Part x19)).cells g_impl_Part s_impl_Part rfl (Nat.le_of_ble_eq_true rfl) rfl (hn := ?_)
       refine bk h fun x20 e20 h => ?_
       refine LWo.tcallT (e := e_int) (e' := e_int) [_] 1033 rfl rfl (c_spec_l4Step _ _ _ _ e20) (fun _ => rfl) (fun _ => rfl) rfl rfl rfl rfl (fun _ h => by cases h) rfl (hn := ?_)
       refine LWo.move (.tup [(.own 1033 0 (x20.1).length), (e_bool x20.2)]) rfl (hn := ?_)
       refine LWo.extract (.own 1033 0 (x20.1).length) rfl rfl (hn := ?_)
       refine LWo.extract (e_bool x20.2) rfl rfl (hn := ?_)
       refine LWo.assign (.own 1033 0 (x20.1).length) rfl (hn := ?_)
       refine LWo.assign (e_bool x20.2) rfl (hn := ?_)
       refine LWo.nil (hN18 _ ?_)
       refine LWP.region (l := [_,_,_]) ?_
       refine LWo.move (e_int t7) rfl (hn := ?_)
       refine bk h fun x21 e21 h => ?_
       refine LWo.int _ rfl rfl (add_ck e21) (hn := ?_)
       refine LWo.assign (e_int x21) rfl (hn := ?_)
       refine LWo.rekey 5 1033 1016 rfl rfl rfl rfl rfl rfl ?_
       refine LWo.nil (hN12 (t0, t1, x20.2, x21, x20.1) _ ⟨rfl, rfl, rfl, rfl, rfl, trivial⟩ ⟨rfl, trivial⟩ h)
      ·have h := bF h17 h
       refine LWP.exit (hN10 (t6, o1016) _ ⟨rfl, rfl, trivial⟩ ⟨rfl, trivial⟩ h)
     ·intro N15 hN15
      refine LWP.region (l := [_,_,_,_,_,_,_]) ?_
      refine LWo.move (e_int t7) rfl (hn := ?_)
      refine LWo.move (e_Limpl_Part t1) rfl (hn := ?_)
      refine LWo.lenM (f := e_impl_Part) (l := t1) u_Limpl_Part rfl (hn := ?_)
      refine LWo.int _ rfl rfl rfl (hn := ?_)
      refine LWo.move (e_bool (decide (t7 < (t1.length : Int)))) rfl (hn := ?_)
      refine LWo.byCases (t := 21) _ rfl (fun h16 => ?_) (fun h16 => ?_)
      ·have h := bT h16 h
       refine LWo.guardY (t := 21) rfl h16 rfl rfl ?_
       refine LWo.move (e_bool t6) rfl (hn := ?_)
       refine LWo.pickTM (e_bool t6) rfl h16 rfl (hn := ?_)
       refine LWo.nil (hN15 (t0, t1, t6, t7, t6, o1016) _ ⟨rfl, rfl, rfl, rfl, rfl, rfl, trivial⟩ ⟨rfl, trivial⟩ h)
      ·have h := bF h16 h
       refine LWo.guardNU (t := 21) rfl h16 rfl rfl rfl rfl rfl ?_
       refine LWo.pickFM (e_bool false) rfl h16 rfl (hn := ?_)
       refine LWo.nil (hN15 (t0, t1, t6, t7, false, o1016) _ ⟨rfl, rfl, rfl, rfl, rfl, rfl, trivial⟩ ⟨rfl, trivial⟩ h)
  ·intro N3 hN3
   refine LWP.region (l := [_,_,_,_,_,_,_,_]) ?_
   refine LWo.move (e_Limpl_Column a0) rfl (hn := ?_)
   refine bk h fun x4 e4 h => ?_
   refine LWo.vcall rfl rfl (c_spec_ColumnsOk _ _ e4) (.same (.nil)) (hn := ?_)
   refine LWo.not rfl (hn := ?_)
   refine LWo.move (e_bool (!x4)) rfl (hn := ?_)
   refine LWo.byCases (t := 11) _ rfl (fun h5 => ?_) (fun h5 => ?_)
   ·have h := bT h5 h
    refine LWo.guardNU (t := 11) rfl h5 rfl rfl rfl rfl rfl ?_
    refine LWo.guardNU (t := 11) rfl h5 rfl rfl rfl rfl rfl ?_
    refine LWo.guardNU (t := 11) rfl h5 rfl rfl rfl rfl rfl ?_
    refine LWo.pickTM (e_bool true) rfl h5 rfl (hn := ?_)
    refine LWo.nil (hN3 (a0, a1, true) _ ⟨rfl, rfl, rfl, trivial⟩ trivial h)
   ·have h := bF h5 h
    refine LWo.guardY (t := 11) rfl h5 rfl rfl ?_
    refine LWo.move (e_Limpl_Part a1) rfl (hn := ?_)
    refine LWo.guardY (t := 11) rfl h5 rfl rfl ?_
    refine LWo.lenM (f := e_impl_Part) (l := a1) u_Limpl_Part rfl (hn := ?_)
    refine LWo.guardY (t := 11) rfl h5 rfl rfl ?_
    refine LWo.int _ rfl rfl rfl (hn := ?_)
    refine LWo.pickFM (e_bool (decide ((a1.length : Int) > (12 : Int)))) rfl h5 rfl (hn := ?_)
    refine LWo.nil (hN3 (a0, a1, decide ((a1.length : Int) > (12 : Int))) _ ⟨rfl, rfl, rfl, trivial⟩ trivial h)

def m_spec_BondOk_j6  : Option Bool :=
  some false
def m_spec_BondOk_j2 (t4 : Bool) : Option Bool :=
  some t4
def m_spec_BondOk_j3 (t4 : Bool) : Option Bool :=
  some t4
def m_spec_BondOk_j5  : Option Bool :=
  some true
def m_spec_BondOk_l1 : Nat → (List S_impl_Table) → S_impl_Bond → (List S_impl_Column) → Int → Option Bool
  | 0, _, _, _, _ => none
  | n1 + 1, t0, t3, t5, t6 =>
    bif decide (t6 < (t3.f_List.length : Int)) then ((at? t3.f_List t6).bind fun x54 =>
    (at? t5 x54).bind fun x55 =>
    (at? t0 t3.Of).bind fun x56 =>
    (at? t3.To t6).bind fun x57 =>
    (at? x56.Columns x57).bind fun x58 =>
    bif (x55.Kind != x58.Kind) then (some false)
    else ((ckI (t6 + (1 : Int))).bind fun x61 =>
    (m_spec_BondOk_l1  n1) t0 t3 t5 x61))
    else (m_spec_BondOk_j5  )
def m_spec_BondOk_j4 (t0 : (List S_impl_Table)) (t3 : S_impl_Bond) (t5 : (List S_impl_Column)) (t126 : Bool) : Option Bool :=
  bif t126 then (some false)
  else (m_spec_BondOk_l1  (((t3.f_List.length : Int) - (0 : Int)).toNat + 1) t0 t3 t5 (0 : Int))
def m_spec_BondOk_j1 (t0 : (List S_impl_Table)) (t3 : S_impl_Bond) (t18 : Bool) : Option Bool :=
  bif t18 then (some false)
  else ((at? t0 t3.In).bind fun x11 =>
  bif (t3.Kind == (1 : Int)) then ((m_spec_l12Columns x11.Columns t3.f_List).bind fun x17 =>
  bif x17 then (bif (t3.Of == (0 : Int)) then (bif ((t3.To.length : Int) == (0 : Int)) then (bif (!t3.Follow) then (m_spec_BondOk_j2  ((t3.E.length : Int) == (0 : Int)))
        else (m_spec_BondOk_j2  false))
      else (m_spec_BondOk_j2  false))
    else (m_spec_BondOk_j2  false))
  else (m_spec_BondOk_j2  false))
  else (bif (t3.Kind == (3 : Int)) then ((m_spec_ExprKind x11.Columns t3.E).bind fun x25 =>
    bif (x25 == (3 : Int)) then (bif ((t3.f_List.length : Int) == (0 : Int)) then (bif (t3.Of == (0 : Int)) then (bif ((t3.To.length : Int) == (0 : Int)) then (m_spec_BondOk_j3  (!t3.Follow))
          else (m_spec_BondOk_j3  false))
        else (m_spec_BondOk_j3  false))
      else (m_spec_BondOk_j3  false))
    else (m_spec_BondOk_j3  false))
  else (bif (t3.Kind == (2 : Int)) then ((ckI ((t0.length : Int) - (1 : Int))).bind fun x34 =>
      (m_spec_l1In t3.Of (0 : Int) x34).bind fun x35 =>
      bif (!x35) then (m_spec_BondOk_j4  t0 t3 x11.Columns true)
      else ((m_spec_l12Columns x11.Columns t3.f_List).bind fun x37 =>
        bif (!x37) then (m_spec_BondOk_j4  t0 t3 x11.Columns true)
        else ((at? t0 t3.Of).bind fun x39 =>
          (m_spec_l12Columns x39.Columns t3.To).bind fun x40 =>
          bif (!x40) then (m_spec_BondOk_j4  t0 t3 x11.Columns true)
          else (bif ((t3.f_List.length : Int) != (t3.To.length : Int)) then (m_spec_BondOk_j4  t0 t3 x11.Columns true)
            else (m_spec_BondOk_j4  t0 t3 x11.Columns (decide ((t3.E.length : Int) > (0 : Int))))))))
    else (m_spec_BondOk_j6  ))))
def m_spec_BondOk (a0 : (List S_impl_Table)) (a1 : S_impl_Bond) : Option Bool :=
  (m_spec_TablesOk a0).bind fun x4 =>
  bif (!x4) then (m_spec_BondOk_j1  a0 a1 true)
  else ((ckI ((a0.length : Int) - (1 : Int))).bind fun x6 =>
    (m_spec_l1In a1.In (0 : Int) x6).bind fun x7 =>
    m_spec_BondOk_j1  a0 a1 (!x7))
theorem c_spec_BondOk (a0 : (List S_impl_Table)) (a1 : S_impl_Bond) (r : Bool) (h : m_spec_BondOk a0 a1 = some r) : Ret Try.prog f_spec_BondOk [e_Limpl_Table a0, e_impl_Bond a1] (e_bool r) := by
  refine Does.goG [] F_spec_BondOk rfl e_spec_BondOk n_spec_BondOk rfl (rvs := [.tmp 4]) rfl rfl ?_
  intro w0 ok0 lent ρ0
  refine LWP.seq_k fun N1 hN1 => ?_
  refine LWP.region (l := [_,_]) ?_
  refine LWo.boxF (e_impl_Bond a1) rfl rfl rfl (hn := ?_)
  refine LWo.assign (e_bool false) rfl (hn := ?_)
  refine LWo.nil (hN1 _ ?_)
  refine LWP.seq_k fun N2 hN2 => ?_
  refine LWP.join (α := (List S_impl_Table) × S_impl_Bond × Bool) (fun z : (List S_impl_Table) × S_impl_Bond × Bool => [(0, (e_Limpl_Table z.1)), (3, (.fp (e_impl_Bond z.2.1).cells)), (18, (e_bool z.2.2))]) (fun z : (List S_impl_Table) × S_impl_Bond × Bool => []) (fun z : (List S_impl_Table) × S_impl_Bond × Bool => m_spec_BondOk_j1  z.1 z.2.1 z.2.2) r (fun _ => by simp [hkeys]) ?_ ?_
  ·rintro ⟨t0, t3, t18⟩ h
   replace h : m_spec_BondOk_j1  t0 t3 t18 = some _ := h
   refine LWP.cond_split rfl (fun h8 => ?_) (fun h8 => ?_)
   ·have h := bT h8 h
    refine LWP.seq_k fun N9 hN9 => ?_
    refine LWP.region (l := [_]) ?_
    refine LWo.assign (e_bool false) rfl (hn := ?_)
    refine LWo.nil (hN9 _ ?_)
    obtain rfl := Option.some.inj h
    refine LWP.ret (QG.mk (.inr rfl) (.cons (.tmp (x := (e_bool false)) rfl) (.nil)) (RetOK.one0 (.pure rfl) (by decide)) rfl rfl)
   ·have h := bF h8 h
    refine LWP.skip (hN2 _ ?_)
    refine LWP.seq_k fun N10 hN10 => ?_
    refine LWP.region (l := [_,_,_,_,_,_,_]) ?_
    refine LWo.move (e_Limpl_Table t0) rfl (hn := ?_)
    refine LWo.fieldAddr _ u_impl_Bond rfl s_int rfl rfl (hn := ?_)
    refine LWo.load1 (c := (e_int t3.In)) g_int rfl (hn := ?_)
    refine bk h fun x11 e11 h => ?_
    refine LWo.indexM (f := e_impl_Table) e11 u_Limpl_Table s_impl_Table rfl rfl (hn := ?_)
    refine LWo.fieldAddr _ u_impl_Table rfl s_Limpl_Column rfl rfl (hn := ?_)
    refine LWo.load1 (c := (e_Limpl_Column x11.Columns)) g_Limpl_Column rfl (hn := ?_)
    refine LWo.assign (e_Limpl_Column x11.Columns) rfl (hn := ?_)
    refine LWo.nil (hN10 _ ?_)
    refine LWP.join (α := Unit) (fun z : Unit => []) (fun z : Unit => []) (fun z : Unit => m_spec_BondOk_j6  ) r (fun _ => by simp [hkeys]) ?_ ?_
    ·rintro _ h
     replace h : m_spec_BondOk_j6   = some _ := h
     refine LWP.seq_k fun N63 hN63 => ?_
     refine LWP.region (l := [_]) ?_
     refine LWo.assign (e_bool false) rfl (hn := ?_)
     refine LWo.nil (hN63 _ ?_)
     obtain rfl := Option.some.inj h
     refine LWP.ret (QG.mk (.inr rfl) (.cons (.tmp (x := (e_bool false)) rfl) (.nil)) (RetOK.one0 (.pure rfl) (by decide)) rfl rfl)
    ·intro N12 hN12
     refine LWP.seq_k fun N13 hN13 => ?_
     refine LWP.region (l := [_,_]) ?_
     refine LWo.fieldAddr _ u_impl_Bond rfl s_int rfl rfl (hn := ?_)
     refine LWo.load1 (c := (e_int t3.Kind)) g_int rfl (hn := ?_)
     refine LWo.nil (hN13 _ ?_)
     refine LWP.block ?_
     refine LWP.seq_k fun N14 hN14 => ?_
     refine LWP.region (l := [_,_]) ?_
     refine LWo.int _ rfl rfl rfl (hn := ?_)
     refine LWo.assign (e_bool (t3.Kind == (1 : Int))) rfl (hn := ?_)
     refine LWo.nil (hN14 _ ?_)
     refine LWP.cond_split rfl (fun h15 => ?_) (fun h15 => ?_)
     ·have h := bT h15 h
      refine LWP.join (α := Bool) (fun z : Bool => [(4, (e_bool z))]) (fun z : Bool => []) (fun z : Bool => m_spec_BondOk_j2  z) r (fun _ => by simp [hkeys]) ?_ ?_
      ·rintro t4 h
       replace h : m_spec_BondOk_j2  t4 = some _ := h
       obtain rfl := Option.some.inj h
       refine LWP.ret (QG.mk (.inr rfl) (.cons (.tmp (x := (e_bool t4)) rfl) (.nil)) (RetOK.one0 (.pure rfl) (by decide)) rfl rfl)
      ·intro N16 hN16
       refine LWP.region (l := [_,_,_,_,_,_,_,_,_,_,_,_,_,_,_,_,_,_,_,_,_,_,_,_,_,_,_]) ?_
       refine LWo.move (e_Limpl_Column x11.Columns) rfl (hn := ?_)
       refine LWo.fieldAddr _ u_impl_Bond rfl s_Lint rfl rfl (hn := ?_)
       refine LWo.load1 (c := (e_Lint t3.f_List)) g_Lint rfl (hn := ?_)
       refine bk h fun x17 e17 h => ?_
       refine LWo.vcall rfl rfl (c_spec_l12Columns _ _ _ e17) (.same (.same (.nil))) (hn := ?_)
       refine LWo.move (e_bool x17) rfl (hn := ?_)
       refine LWo.byCases (t := 33) _ rfl (fun h18 => ?_) (fun h18 => ?_)
       ·have h := bT h18 h
        refine LWo.guardY (t := 33) rfl h18 rfl rfl ?_
        refine LWo.fieldAddr _ u_impl_Bond rfl s_int rfl rfl (hn := ?_)
        refine LWo.guardY (t := 33) rfl h18 rfl rfl ?_
        refine LWo.load1 (c := (e_int t3.Of)) g_int rfl (hn := ?_)
        refine LWo.guardY (t := 33) rfl h18 rfl rfl ?_
        refine LWo.int _ rfl rfl rfl (hn := ?_)
        refine LWo.pickTM (e_bool (t3.Of == (0 : Int))) rfl h18 rfl (hn := ?_)
        refine LWo.move (e_bool (t3.Of == (0 : Int))) rfl (hn := ?_)
        refine LWo.byCases (t := 38) _ rfl (fun h19 => ?_) (fun h19 => ?_)
        ·have h := bT h19 h
         refine LWo.guardY (t := 38) rfl h19 rfl rfl ?_
         refine LWo.fieldAddr _ u_impl_Bond rfl s_Lint rfl rfl (hn := ?_)
         refine LWo.guardY (t := 38) rfl h19 rfl rfl ?_
         refine LWo.load1 (c := (e_Lint t3.To)) g_Lint rfl (hn := ?_)
         refine LWo.guardY (t := 38) rfl h19 rfl rfl ?_
         refine LWo.lenM (f := e_int) (l := t3.To) u_Lint rfl (hn := ?_)
         refine LWo.guardY (t := 38) rfl h19 rfl rfl ?_
         refine LWo.int _ rfl rfl rfl (hn := ?_)
         refine LWo.pickTM (e_bool ((t3.To.length : Int) == (0 : Int))) rfl h19 rfl (hn := ?_)
         refine LWo.move (e_bool ((t3.To.length : Int) == (0 : Int))) rfl (hn := ?_)
         refine LWo.byCases (t := 44) _ rfl (fun h20 => ?_) (fun h20 => ?_)
         ·have h := bT h20 h
          refine LWo.guardY (t := 44) rfl h20 rfl rfl ?_
          refine LWo.fieldAddr _ u_impl_Bond rfl s_bool rfl rfl (hn := ?_)
          refine LWo.guardY (t := 44) rfl h20 rfl rfl ?_
          refine LWo.load1 (c := (e_bool t3.Follow)) g_bool rfl (hn := ?_)
          refine LWo.guardY (t := 44) rfl h20 rfl rfl ?_
          refine LWo.not rfl (hn := ?_)
          refine LWo.pickTM (e_bool (!t3.Follow)) rfl h20 rfl (hn := ?_)
          refine LWo.move (e_bool (!t3.Follow)) rfl (hn := ?_)
          refine LWo.byCases (t := 49) _ rfl (fun h21 => ?_) (fun h21 => ?_)
          ·have h := bT h21 h
           refine LWo.guardY (t := 49) rfl h21 rfl rfl ?_
           refine LWo.fieldAddr _ u_impl_Bond rfl s_Limpl_Part rfl rfl (hn := ?_)
           refine LWo.guardY (t := 49) rfl h21 rfl rfl ?_
           refine LWo.load1 (c := (e_Limpl_Part t3.E)) g_Limpl_Part rfl (hn := ?_)
           refine LWo.guardY (t := 49) rfl h21 rfl rfl ?_
           refine LWo.lenM (f := e_impl_Part) (l := t3.E) u_Limpl_Part rfl (hn := ?_)
           refine LWo.guardY (t := 49) rfl h21 rfl rfl ?_
           refine LWo.int _ rfl rfl rfl (hn := ?_)
           refine LWo.pickTM (e_bool ((t3.E.length : Int) == (0 : Int))) rfl h21 rfl (hn := ?_)
           refine LWo.assign (e_bool ((t3.E.length : Int) == (0 : Int))) rfl (hn := ?_)
           refine LWo.nil (hN16 ((t3.E.length : Int) == (0 : Int)) _ ⟨rfl, trivial⟩ trivial h)
          ·have h := bF h21 h
           refine LWo.guardNU (t := 49) rfl h21 rfl rfl rfl rfl rfl ?_
           refine LWo.guardNU (t := 49) rfl h21 rfl rfl rfl rfl rfl ?_
           refine LWo.guardNU (t := 49) rfl h21 rfl rfl rfl rfl rfl ?_
           refine LWo.guardNU (t := 49) rfl h21 rfl rfl rfl rfl rfl ?_
           refine LWo.pickFM (e_bool false) rfl h21 rfl (hn := ?_)
           refine LWo.assign (e_bool false) rfl (hn := ?_)
           refine LWo.nil (hN16 false _ ⟨rfl, trivial⟩ trivial h)
         ·have h := bF h20 h
          refine LWo.guardNU (t := 44) rfl h20 rfl rfl rfl rfl rfl ?_
          refine LWo.guardNU (t := 44) rfl h20 rfl rfl rfl rfl rfl ?_
          refine LWo.guardNU (t := 44) rfl h20 rfl rfl rfl rfl rfl ?_
          refine LWo.pickFM (e_bool false) rfl h20 rfl (hn := ?_)
          refine LWo.move (e_bool false) rfl (hn := ?_)
          refine LWo.guardNU (t := 49) rfl rfl rfl rfl rfl rfl rfl ?_
          refine LWo.guardNU (t := 49) rfl rfl rfl rfl rfl rfl rfl ?_
          refine LWo.guardNU (t := 49) rfl rfl rfl rfl rfl rfl rfl ?_
          refine LWo.guardNU (t := 49) rfl rfl rfl rfl rfl rfl rfl ?_
          refine LWo.pickFM (e_bool false) rfl rfl rfl (hn := ?_)
          refine LWo.assign (e_bool false) rfl (hn := ?_)
          refine LWo.nil (hN16 false _ ⟨rfl, trivial⟩ trivial h)
        ·have h := bF h19 h
         refine LWo.guardNU (t := 38) rfl h19 rfl rfl rfl rfl rfl ?_
         refine LWo.guardNU (t := 38) rfl h19 rfl rfl rfl rfl rfl ?_
         refine LWo.guardNU (t := 38) rfl h19 rfl rfl rfl rfl rfl ?_
         refine LWo.guardNU (t := 38) rfl h19 rfl rfl rfl rfl rfl ?_
         refine LWo.pickFM (e_bool false) rfl h19 rfl (hn := ?_)
         refine LWo.move (e_bool false) rfl (hn := ?_)
         refine LWo.guardNU (t := 44) rfl rfl rfl rfl rfl rfl rfl ?_
         refine LWo.guardNU (t := 44) rfl rfl rfl rfl rfl rfl rfl ?_
         refine LWo.guardNU (t := 44) rfl rfl rfl rfl rfl rfl rfl ?_
         refine LWo.pickFM (e_bool false) rfl rfl rfl (hn := ?_)
         refine LWo.move (e_bool false) rfl (hn := ?_)
         refine LWo.guardNU (t := 49) rfl rfl rfl rfl rfl rfl rfl ?_
         refine LWo.guardNU (t := 49) rfl rfl rfl rfl rfl rfl rfl ?_
         refine LWo.guardNU (t := 49) rfl rfl rfl rfl rfl rfl rfl ?_
         refine LWo.guardNU (t := 49) rfl rfl rfl rfl rfl rfl rfl ?_
         refine LWo.pickFM (e_bool false) rfl rfl rfl (hn := ?_)
         refine LWo.assign (e_bool false) rfl (hn := ?_)
         refine LWo.nil (hN16 false _ ⟨rfl, trivial⟩ trivial h)
       ·have h := bF h18 h
        refine LWo.guardNU (t := 33) rfl h18 rfl rfl rfl rfl rfl ?_
        refine LWo.guardNU (t := 33) rfl h18 rfl rfl rfl rfl rfl ?_
        refine LWo.guardNU (t := 33) rfl h18 rfl rfl rfl rfl rfl ?_
        refine LWo.pickFM (e_bool false) rfl h18 rfl (hn := ?_)
        refine LWo.move (e_bool false) rfl (hn := ?_)
        refine LWo.guardNU (t := 38) rfl rfl rfl rfl rfl rfl rfl ?_
        refine LWo.guardNU (t := 38) rfl rfl rfl rfl rfl rfl rfl ?_
        refine LWo.guardNU (t := 38) rfl rfl rfl rfl rfl rfl rfl ?_
        refine LWo.guardNU (t := 38) rfl rfl rfl rfl rfl rfl rfl ?_
        refine LWo.pickFM (e_bool false) rfl rfl rfl (hn := ?_)
        refine LWo.move (e_bool false) rfl (hn := ?_)
        refine LWo.guardNU (t := 44) rfl rfl rfl rfl rfl rfl rfl ?_
        refine LWo.guardNU (t := 44) rfl rfl rfl rfl rfl rfl rfl ?_
        refine LWo.guardNU (t := 44) rfl rfl rfl rfl rfl rfl rfl ?_
        refine LWo.pickFM (e_bool false) rfl rfl rfl (hn := ?_)
        refine LWo.move (e_bool false) rfl (hn := ?_)
        refine LWo.guardNU (t := 49) rfl rfl rfl rfl rfl rfl rfl ?_
        refine LWo.guardNU (t := 49) rfl rfl rfl rfl rfl rfl rfl ?_
        refine LWo.guardNU (t := 49) rfl rfl rfl rfl rfl rfl rfl ?_
        refine LWo.guardNU (t := 49) rfl rfl rfl rfl rfl rfl rfl ?_
        refine LWo.pickFM (e_bool false) rfl rfl rfl (hn := ?_)
        refine LWo.assign (e_bool false) rfl (hn := ?_)
        refine LWo.nil (hN16 false _ ⟨rfl, trivial⟩ trivial h)
     ·have h := bF h15 h
      refine LWP.seq_k fun N22 hN22 => ?_
      refine LWP.region (l := [_,_]) ?_
      refine LWo.int _ rfl rfl rfl (hn := ?_)
      refine LWo.assign (e_bool (t3.Kind == (3 : Int))) rfl (hn := ?_)
      refine LWo.nil (hN22 _ ?_)
      refine LWP.cond_split rfl (fun h23 => ?_) (fun h23 => ?_)
      ·have h := bT h23 h
       refine LWP.join (α := Bool) (fun z : Bool => [(4, (e_bool z))]) (fun z : Bool => []) (fun z : Bool => m_spec_BondOk_j3  z) r (fun _ => by simp [hkeys]) ?_ ?_
       ·rintro t4 h
        replace h : m_spec_BondOk_j3  t4 = some _ := h
        obtain rfl := Option.some.inj h
        refine LWP.ret (QG.mk (.inr rfl) (.cons (.tmp (x := (e_bool t4)) rfl) (.nil)) (RetOK.one0 (.pure rfl) (by decide)) rfl rfl)
       ·intro N24 hN24
        refine LWP.region (l := [_,_,_,_,_,_,_,_,_,_,_,_,_,_,_,_,_,_,_,_,_,_,_,_,_,_,_,_]) ?_
        refine LWo.move (e_Limpl_Column x11.Columns) rfl (hn := ?_)
        refine LWo.fieldAddr _ u_impl_Bond rfl s_Limpl_Part rfl rfl (hn := ?_)
        refine LWo.load1 (c := (e_Limpl_Part t3.E)) g_Limpl_Part rfl (hn := ?_)
        refine bk h fun x25 e25 h => ?_
        refine LWo.vcall rfl rfl (c_spec_ExprKind _ _ _ e25) (.same (.same (.nil))) (hn := ?_)
        refine LWo.int _ rfl rfl rfl (hn := ?_)
        refine LWo.move (e_bool (x25 == (3 : Int))) rfl (hn := ?_)
        refine LWo.byCases (t := 62) _ rfl (fun h26 => ?_) (fun h26 => ?_)
        ·have h := bT h26 h
         refine LWo.guardY (t := 62) rfl h26 rfl rfl ?_
         refine LWo.fieldAddr _ u_impl_Bond rfl s_Lint rfl rfl (hn := ?_)
         refine LWo.guardY (t := 62) rfl h26 rfl rfl ?_
         refine LWo.load1 (c := (e_Lint t3.f_List)) g_Lint rfl (hn := ?_)
         refine LWo.guardY (t := 62) rfl h26 rfl rfl ?_
         refine LWo.lenM (f := e_int) (l := t3.f_List) u_Lint rfl (hn := ?_)
         refine LWo.guardY (t := 62) rfl h26 rfl rfl ?_
         refine LWo.int _ rfl rfl rfl (hn := ?_)
         refine LWo.pickTM (e_bool ((t3.f_List.length : Int) == (0 : Int))) rfl h26 rfl (hn := ?_)
         refine LWo.move (e_bool ((t3.f_List.length : Int) == (0 : Int))) rfl (hn := ?_)
         refine LWo.byCases (t := 68) _ rfl (fun h27 => ?_) (fun h27 => ?_)
         ·have h := bT h27 h
          refine LWo.guardY (t := 68) rfl h27 rfl rfl ?_
          refine LWo.fieldAddr _ u_impl_Bond rfl s_int rfl rfl (hn := ?_)
          refine LWo.guardY (t := 68) rfl h27 rfl rfl ?_
          refine LWo.load1 (c := (e_int t3.Of)) g_int rfl (hn := ?_)
          refine LWo.guardY (t := 68) rfl h27 rfl rfl ?_
          refine LWo.int _ rfl rfl rfl (hn := ?_)
          refine LWo.pickTM (e_bool (t3.Of == (0 : Int))) rfl h27 rfl (hn := ?_)
          refine LWo.move (e_bool (t3.Of == (0 : Int))) rfl (hn := ?_)
          refine LWo.byCases (t := 73) _ rfl (fun h28 => ?_) (fun h28 => ?_)
          ·have h := bT h28 h
           refine LWo.guardY (t := 73) rfl h28 rfl rfl ?_
           refine LWo.fieldAddr _ u_impl_Bond rfl s_Lint rfl rfl (hn := ?_)
           refine LWo.guardY (t := 73) rfl h28 rfl rfl ?_
           refine LWo.load1 (c := (e_Lint t3.To)) g_Lint rfl (hn := ?_)
           refine LWo.guardY (t := 73) rfl h28 rfl rfl ?_
           refine LWo.lenM (f := e_int) (l := t3.To) u_Lint rfl (hn := ?_)
           refine LWo.guardY (t := 73) rfl h28 rfl rfl ?_
           refine LWo.int _ rfl rfl rfl (hn := ?_)
           refine LWo.pickTM (e_bool ((t3.To.length : Int) == (0 : Int))) rfl h28 rfl (hn := ?_)
           refine LWo.move (e_bool ((t3.To.length : Int) == (0 : Int))) rfl (hn := ?_)
           refine LWo.byCases (t := 79) _ rfl (fun h29 => ?_) (fun h29 => ?_)
           ·have h := bT h29 h
            refine LWo.guardY (t := 79) rfl h29 rfl rfl ?_
            refine LWo.fieldAddr _ u_impl_Bond rfl s_bool rfl rfl (hn := ?_)
            refine LWo.guardY (t := 79) rfl h29 rfl rfl ?_
            refine LWo.load1 (c := (e_bool t3.Follow)) g_bool rfl (hn := ?_)
            refine LWo.guardY (t := 79) rfl h29 rfl rfl ?_
            refine LWo.not rfl (hn := ?_)
            refine LWo.pickTM (e_bool (!t3.Follow)) rfl h29 rfl (hn := ?_)
            refine LWo.assign (e_bool (!t3.Follow)) rfl (hn := ?_)
            refine LWo.nil (hN24 (!t3.Follow) _ ⟨rfl, trivial⟩ trivial h)
           ·have h := bF h29 h
            refine LWo.guardNU (t := 79) rfl h29 rfl rfl rfl rfl rfl ?_
            refine LWo.guardNU (t := 79) rfl h29 rfl rfl rfl rfl rfl ?_
            refine LWo.guardNU (t := 79) rfl h29 rfl rfl rfl rfl rfl ?_
            refine LWo.pickFM (e_bool false) rfl h29 rfl (hn := ?_)
            refine LWo.assign (e_bool false) rfl (hn := ?_)
            refine LWo.nil (hN24 false _ ⟨rfl, trivial⟩ trivial h)
          ·have h := bF h28 h
           refine LWo.guardNU (t := 73) rfl h28 rfl rfl rfl rfl rfl ?_
           refine LWo.guardNU (t := 73) rfl h28 rfl rfl rfl rfl rfl ?_
           refine LWo.guardNU (t := 73) rfl h28 rfl rfl rfl rfl rfl ?_
           refine LWo.guardNU (t := 73) rfl h28 rfl rfl rfl rfl rfl ?_
           refine LWo.pickFM (e_bool false) rfl h28 rfl (hn := ?_)
           refine LWo.move (e_bool false) rfl (hn := ?_)
           refine LWo.guardNU (t := 79) rfl rfl rfl rfl rfl rfl rfl ?_
           refine LWo.guardNU (t := 79) rfl rfl rfl rfl rfl rfl rfl ?_
           refine LWo.guardNU (t := 79) rfl rfl rfl rfl rfl rfl rfl ?_
           refine LWo.pickFM (e_bool false) rfl rfl rfl (hn := ?_)
           refine LWo.assign (e_bool false) rfl (hn := ?_)
           refine LWo.nil (hN24 false _ ⟨rfl, trivial⟩ trivial h)
         ·have h := bF h27 h
          refine LWo.guardNU (t := 68) rfl h27 rfl rfl rfl rfl rfl ?_
          refine LWo.guardNU (t := 68) rfl h27 rfl rfl rfl rfl rfl ?_
          refine LWo.guardNU (t := 68) rfl h27 rfl rfl rfl rfl rfl ?_
          refine LWo.pickFM (e_bool false) rfl h27 rfl (hn := ?_)
          refine LWo.move (e_bool false) rfl (hn := ?_)
          refine LWo.guardNU (t := 73) rfl rfl rfl rfl rfl rfl rfl ?_
          refine LWo.guardNU (t := 73) rfl rfl rfl rfl rfl rfl rfl ?_
          refine LWo.guardNU (t := 73) rfl rfl rfl rfl rfl rfl rfl ?_
          refine LWo.guardNU (t := 73) rfl rfl rfl rfl rfl rfl rfl ?_
          refine LWo.pickFM (e_bool false) rfl rfl rfl (hn := ?_)
          refine LWo.move (e_bool false) rfl (hn := ?_)
          refine LWo.guardNU (t := 79) rfl rfl rfl rfl rfl rfl rfl ?_
          refine LWo.guardNU (t := 79) rfl rfl rfl rfl rfl rfl rfl ?_
          refine LWo.guardNU (t := 79) rfl rfl rfl rfl rfl rfl rfl ?_
          refine LWo.pickFM (e_bool false) rfl rfl rfl (hn := ?_)
          refine LWo.assign (e_bool false) rfl (hn := ?_)
          refine LWo.nil (hN24 false _ ⟨rfl, trivial⟩ trivial h)
        ·have h := bF h26 h
         refine LWo.guardNU (t := 62) rfl h26 rfl rfl rfl rfl rfl ?_
         refine LWo.guardNU (t := 62) rfl h26 rfl rfl rfl rfl rfl ?_
         refine LWo.guardNU (t := 62) rfl h26 rfl rfl rfl rfl rfl ?_
         refine LWo.guardNU (t := 62) rfl h26 rfl rfl rfl rfl rfl ?_
         refine LWo.pickFM (e_bool false) rfl h26 rfl (hn := ?_)
         refine LWo.move (e_bool false) rfl (hn := ?_)
         refine LWo.guardNU (t := 68) rfl rfl rfl rfl rfl rfl rfl ?_
         refine LWo.guardNU (t := 68) rfl rfl rfl rfl rfl rfl rfl ?_
         refine LWo.guardNU (t := 68) rfl rfl rfl rfl rfl rfl rfl ?_
         refine LWo.pickFM (e_bool false) rfl rfl rfl (hn := ?_)
         refine LWo.move (e_bool false) rfl (hn := ?_)
         refine LWo.guardNU (t := 73) rfl rfl rfl rfl rfl rfl rfl ?_
         refine LWo.guardNU (t := 73) rfl rfl rfl rfl rfl rfl rfl ?_
         refine LWo.guardNU (t := 73) rfl rfl rfl rfl rfl rfl rfl ?_
         refine LWo.guardNU (t := 73) rfl rfl rfl rfl rfl rfl rfl ?_
         refine LWo.pickFM (e_bool false) rfl rfl rfl (hn := ?_)
         refine LWo.move (e_bool false) rfl (hn := ?_)
         refine LWo.guardNU (t := 79) rfl rfl rfl rfl rfl rfl rfl ?_
         refine LWo.guardNU (t := 79) rfl rfl rfl rfl rfl rfl rfl ?_
         refine LWo.guardNU (t := 79) rfl rfl rfl rfl rfl rfl rfl ?_
         refine LWo.pickFM (e_bool false) rfl rfl rfl (hn := ?_)
         refine LWo.assign (e_bool false) rfl (hn := ?_)
         refine LWo.nil (hN24 false _ ⟨rfl, trivial⟩ trivial h)
      ·have h := bF h23 h
       refine LWP.seq_k fun N30 hN30 => ?_
       refine LWP.region (l := [_,_]) ?_
       refine LWo.int _ rfl rfl rfl (hn := ?_)
       refine LWo.assign (e_bool (t3.Kind == (2 : Int))) rfl (hn := ?_)
       refine LWo.nil (hN30 _ ?_)
       refine LWP.cond_split rfl (fun h31 => ?_) (fun h31 => ?_)
       ·have h := bT h31 h
        refine LWP.seq_k fun N32 hN32 => ?_
        refine LWP.join (α := (List S_impl_Table) × S_impl_Bond × (List S_impl_Column) × Bool) (fun z : (List S_impl_Table) × S_impl_Bond × (List S_impl_Column) × Bool => [(0, (e_Limpl_Table z.1)), (3, (.fp (e_impl_Bond z.2.1).cells)), (5, (e_Limpl_Column z.2.2.1)), (126, (e_bool z.2.2.2))]) (fun z : (List S_impl_Table) × S_impl_Bond × (List S_impl_Column) × Bool => []) (fun z : (List S_impl_Table) × S_impl_Bond × (List S_impl_Column) × Bool => m_spec_BondOk_j4  z.1 z.2.1 z.2.2.1 z.2.2.2) r (fun _ => by simp [hkeys]) ?_ ?_
        ·rintro ⟨t0, t3, t5, t126⟩ h
         replace h : m_spec_BondOk_j4  t0 t3 t5 t126 = some _ := h
         refine LWP.cond_split rfl (fun h43 => ?_) (fun h43 => ?_)
         ·have h := bT h43 h
          refine LWP.seq_k fun N44 hN44 => ?_
          refine LWP.region (l := [_]) ?_
          refine LWo.assign (e_bool false) rfl (hn := ?_)
          refine LWo.nil (hN44 _ ?_)
          obtain rfl := Option.some.inj h
          refine LWP.ret (QG.mk (.inr rfl) (.cons (.tmp (x := (e_bool false)) rfl) (.nil)) (RetOK.one0 (.pure rfl) (by decide)) rfl rfl)
         ·have h := bF h43 h
          refine LWP.skip (hN32 _ ?_)
          refine LWP.join (α := Unit) (fun z : Unit => []) (fun z : Unit => []) (fun z : Unit => m_spec_BondOk_j5  ) r (fun _ => by simp [hkeys]) ?_ ?_
          ·rintro _ h
           replace h : m_spec_BondOk_j5   = some _ := h
           refine LWP.seq_k fun N62 hN62 => ?_
           refine LWP.region (l := [_]) ?_
           refine LWo.assign (e_bool true) rfl (hn := ?_)
           refine LWo.nil (hN62 _ ?_)
           obtain rfl := Option.some.inj h
           refine LWP.ret (QG.mk (.inr rfl) (.cons (.tmp (x := (e_bool true)) rfl) (.nil)) (RetOK.one0 (.pure rfl) (by decide)) rfl rfl)
          ·intro N45 hN45
           refine LWP.seq_k fun N46 hN46 => ?_
           refine LWP.region (l := [_]) ?_
           refine LWo.assign (e_int (0 : Int)) rfl (hn := ?_)
           refine LWo.nil (hN46 _ ?_)
           refine LWP.block ?_
           refine LWP.loopM (α := (List S_impl_Table) × S_impl_Bond × (List S_impl_Column) × Int) (fun z : (List S_impl_Table) × S_impl_Bond × (List S_impl_Column) × Int => [(0, (e_Limpl_Table z.1)), (3, (.fp (e_impl_Bond z.2.1).cells)), (5, (e_Limpl_Column z.2.2.1)), (6, (e_int z.2.2.2))]) (fun z : (List S_impl_Table) × S_impl_Bond × (List S_impl_Column) × Int => []) (fun n1 (z : (List S_impl_Table) × S_impl_Bond × (List S_impl_Column) × Int) => m_spec_BondOk_l1  n1 z.1 z.2.1 z.2.2.1 z.2.2.2) r _ (t0, t3, t5, (0 : Int)) h (fun _ => rfl) (fun _ => by simp [hkeys]) ⟨rfl, rfl, rfl, rfl, trivial⟩ trivial ?_
           rintro n1 ⟨t0, t3, t5, t6⟩ h N47 hN47
           replace h : m_spec_BondOk_l1  (n1 + 1) t0 t3 t5 t6 = some _ := h
           refine LWP.seq_k fun N49 hN49 => ?_
           refine LWP.seq_k fun N50 hN50 => ?_
           refine LWP.region (l := [_,_,_,_,_]) ?_
           refine LWo.move (e_int t6) rfl (hn := ?_)
           refine LWo.fieldAddr _ u_impl_Bond rfl s_Lint rfl rfl (hn := ?_)
           refine LWo.load1 (c := (e_Lint t3.f_List)) g_Lint rfl (hn := ?_)
           refine LWo.lenM (f := e_int) (l := t3.f_List) u_Lint rfl (hn := ?_)
           refine LWo.int _ rfl rfl rfl (hn := ?_)
           refine LWo.nil (hN50 _ ?_)
           refine LWP.cond_split rfl (fun h51 => ?_) (fun h51 => ?_)
           ·have h := bT h51 h
            refine LWP.skip (hN49 _ ?_)
            refine LWP.seq_k fun N52 hN52 => ?_
            refine LWP.block ?_
            refine LWP.seq_k fun N53 hN53 => ?_
            refine bk h fun x54 e54 h => ?_
            refine bk h fun x55 e55 h => ?_
            refine bk h fun x56 e56 h => ?_
            refine bk h fun x57 e57 h => ?_
            refine bk h fun x58 e58 h => ?_
            refine LWP.drawF (l := [_,_,_,_,_,_,_,_,_,_,_,_,_,_,_,_,_,_,_,_,_,_,_,_]) [] [0, 3, 5, 6] [([5], []), ([3], []), ([135], []), ([6], []), ([136, 137], []), ([138], []), ([134, 139], []), ([140], []), ([141], []), ([0], []), ([3], []), ([144], []), ([143, 145], []), ([146], []), ([147], []), ([3], []), ([149], []), ([6], []), ([150, 151], []), ([152], []), ([148, 153], []), ([154], []), ([155], []), ([142, 156], [])] [0, 3, 5, 6, 157] [] mixed (by kernel_rfl) rfl (by decide) ?_
            refine dq 134 rfl (fun _ g u h => LWo.move (e_Limpl_Column t5) u.1 (hn := .nil (zn g))) ?_
            refine dq 135 rfl (fun _ g u h => LWo.fieldAddr _ u_impl_Bond rfl s_Lint u.1 rfl (hn := .nil (zn g))) ?_
            refine dq 136 rfl (fun _ g u h => LWo.load1 (c := (e_Lint t3.f_List)) g_Lint u.1 (hn := .nil (zn g))) ?_
            refine dq 137 rfl (fun _ g u h => LWo.move (e_int t6) u.1 (hn := .nil (zn g))) ?_
            refine dq 138 rfl (fun _ g u h => LWo.indexM (f := e_int) e54 u_Lint s_int u.1 u.2.1 (hn := .nil (zn g))) ?_
            refine dq 139 rfl (fun _ g u h => LWo.load1 (c := (e_int x54)) g_int u.1 (hn := .nil (zn g))) ?_
            refine dq 140 rfl (fun _ g u h => LWo.indexM (f := e_impl_Column) e55 u_Limpl_Column s_impl_Column u.1 u.2.1 (hn := .nil (zn g))) ?_
            refine dq 141 rfl (fun _ g u h => LWo.fieldAddr _ u_impl_Column rfl s_int u.1 rfl (hn := .nil (zn g))) ?_
            refine dq 142 rfl (fun _ g u h => LWo.load1 (c := (e_int x55.Kind)) g_int u.1 (hn := .nil (zn g))) ?_
            refine dq 143 rfl (fun _ g u h => LWo.move (e_Limpl_Table t0) u.1 (hn := .nil (zn g))) ?_
            refine dq 144 rfl (fun _ g u h => LWo.fieldAddr _ u_impl_Bond rfl s_int u.1 rfl (hn := .nil (zn g))) ?_
            refine dq 145 rfl (fun _ g u h => LWo.load1 (c := (e_int t3.Of)) g_int u.1 (hn := .nil (zn g))) ?_
            refine dq 146 rfl (fun _ g u h => LWo.indexM (f := e_impl_Table) e56 u_Limpl_Table s_impl_Table u.1 u.2.1 (hn := .nil (zn g))) ?_
            refine dq 147 rfl (fun _ g u h => LWo.fieldAddr _ u_impl_Table rfl s_Limpl_Column u.1 rfl (hn := .nil (zn g))) ?_
            refine dq 148 rfl (fun _ g u h => LWo.load1 (c := (e_Limpl_Column x56.Columns)) g_Limpl_Column u.1 (hn := .nil (zn g))) ?_
            refine dq 149 rfl (fun _ g u h => LWo.fieldAddr _ u_impl_Bond rfl s_Lint u.1 rfl (hn := .nil (zn g))) ?_
            refine dq 150 rfl (fun _ g u h => LWo.load1 (c := (e_Lint t3.To)) g_Lint u.1 (hn := .nil (zn g))) ?_
            refine dq 151 rfl (fun _ g u h => LWo.move (e_int t6) u.1 (hn := .nil (zn g))) ?_
            refine dq 152 rfl (fun _ g u h => LWo.indexM (f := e_int) e57 u_Lint s_int u.1 u.2.1 (hn := .nil (zn g))) ?_
            refine dq 153 rfl (fun _ g u h => LWo.load1 (c := (e_int x57)) g_int u.1 (hn := .nil (zn g))) ?_
            refine dq 154 rfl (fun _ g u h => LWo.indexM (f := e_impl_Column) e58 u_Limpl_Column s_impl_Column u.1 u.2.1 (hn := .nil (zn g))) ?_
            refine dq 155 rfl (fun _ g u h => LWo.fieldAddr _ u_impl_Column rfl s_int u.1 rfl (hn := .nil (zn g))) ?_
            refine dq 156 rfl (fun _ g u h => LWo.load1 (c := (e_int x58.Kind)) g_int u.1 (hn := .nil (zn g))) ?_
            refine dq 157 rfl (fun _ g u h => LWo.int _ u.1 u.2.1 rfl (hn := .nil (zn g))) ?_
            refine ⟨rfl, by kernel_rfl, hN53 _ ?_⟩
            refine LWP.cond_split rfl (fun h59 => ?_) (fun h59 => ?_)
            ·have h := bT h59 h
             refine LWP.seq_k fun N60 hN60 => ?_
             refine LWP.region (l := [_]) ?_
             refine LWo.assign (e_bool false) rfl (hn := ?_)
             refine LWo.nil (hN60 _ ?_)
             obtain rfl := Option.some.inj h
             refine LWP.ret (QG.mk (.inr rfl) (.cons (.tmp (x := (e_bool false)) rfl) (.nil)) (RetOK.one0 (.pure rfl) (by decide)) rfl rfl)
            ·have h := bF h59 h
             refine LWP.skip (hN52 _ ?_)
             refine LWP.region (l := [_,_,_]) ?_
             refine LWo.move (e_int t6) rfl (hn := ?_)
             refine bk h fun x61 e61 h => ?_
             refine LWo.int _ rfl rfl (add_ck e61) (hn := ?_)
             refine LWo.assign (e_int x61) rfl (hn := ?_)
             refine LWo.nil (hN47 (t0, t3, t5, x61) _ ⟨rfl, rfl, rfl, rfl, trivial⟩ trivial h)
           ·have h := bF h51 h
            refine LWP.exit (hN45 () _ trivial trivial h)
        ·intro N33 hN33
         refine bk h fun x34 e34 h => ?_
         refine bk h fun x35 e35 h => ?_
         refine bS ((!x35)) (fun h36 => ?_) (fun h36 => ?_)
         ·have h := bT h36 h
          refine LWP.drawF (l := [_,_,_,_,_,_,_,_,_,_,_,_,_,_,_,_,_,_,_,_,_,_,_,_,_,_,_,_,_,_,_,_,_,_,_,_,_,_,_,_,_]) [] [0, 3, 5] [([3], []), ([86], []), ([0], []), ([88], []), ([89], []), ([87, 90], []), ([91], []), ([92], []), ([5, 93], []), ([3, 93], []), ([93, 95], []), ([93, 94, 96], []), ([93, 97], []), ([93, 98], []), ([99], []), ([0, 100], []), ([3, 100], []), ([100, 102], []), ([100, 101, 103], []), ([100, 104], []), ([100, 105], []), ([3, 100], []), ([100, 107], []), ([100, 106, 108], []), ([100, 109], []), ([100, 110], []), ([111], []), ([3, 112], []), ([112, 113], []), ([112, 114], []), ([3, 112], []), ([112, 116], []), ([112, 117], []), ([112, 115, 118], []), ([112, 119], []), ([120], []), ([3, 121], []), ([121, 122], []), ([121, 123], []), ([121, 124], []), ([121, 125], [])] [0, 3, 5, 126] [] mixed (by kernel_rfl) rfl (by decide) ?_
          refine dq 86 rfl (fun _ g u h => LWo.fieldAddr _ u_impl_Bond rfl s_int u.1 rfl (hn := .nil (zn g))) ?_
          refine dq 87 rfl (fun _ g u h => LWo.load1 (c := (e_int t3.Of)) g_int u.1 (hn := .nil (zn g))) ?_
          refine dq 88 rfl (fun _ g u h => LWo.move (e_Limpl_Table t0) u.1 (hn := .nil (zn g))) ?_
          refine dq 89 rfl (fun _ g u h => LWo.lenM (f := e_impl_Table) (l := t0) u_Limpl_Table u.1 (hn := .nil (zn g))) ?_
          refine dq 90 rfl (fun _ g u h => LWo.int _ u.1 rfl (sub_ck e34) (hn := .nil (zn g))) ?_
          refine dq 91 rfl (fun _ g u h => LWo.vcall rfl (av3 u.1 rfl u.2.1) (c_spec_l1In _ _ _ _ e35) (.same (.same (.same (.nil)))) (hn := .nil (zn g))) ?_
          refine dq 92 rfl (fun _ g u h => LWo.not u.1 (hn := .nil (zn g))) ?_
          refine dq 93 rfl (fun _ g u h => LWo.move (e_bool (!x35)) u.1 (hn := .nil (zn g))) ?_
          refine dq 94 rfl (fun _ g u h => LWo.guardNU (t := 93) u.2.1 h36 rfl rfl rfl rfl rfl (.nil (zn g))) ?_
          refine dq 95 rfl (fun _ g u h => LWo.guardNU (t := 93) u.2.1 h36 rfl rfl rfl rfl rfl (.nil (zn g))) ?_
          refine dq 96 rfl (fun _ g u h => LWo.guardNU (t := 93) u.1 h36 rfl rfl rfl rfl rfl (.nil (zn g))) ?_
          refine dq 97 rfl (fun _ g u h => LWo.guardNU (t := 93) u.1 h36 rfl rfl rfl rfl rfl (.nil (zn g))) ?_
          refine dq 98 rfl (fun _ g u h => LWo.guardNU (t := 93) u.1 h36 rfl rfl rfl rfl rfl (.nil (zn g))) ?_
          refine dq 99 rfl (fun _ g u h => LWo.pickTM (e_bool true) u.1 h36 rfl (hn := .nil (zn g))) ?_
          refine dq 100 rfl (fun _ g u h => LWo.move (e_bool true) u.1 (hn := .nil (zn g))) ?_
          refine dq 101 rfl (fun _ g u h => LWo.guardNU (t := 100) u.2.1 rfl rfl rfl rfl rfl rfl (.nil (zn g))) ?_
          refine dq 102 rfl (fun _ g u h => LWo.guardNU (t := 100) u.2.1 rfl rfl rfl rfl rfl rfl (.nil (zn g))) ?_
          refine dq 103 rfl (fun _ g u h => LWo.guardNU (t := 100) u.1 rfl rfl rfl rfl rfl rfl (.nil (zn g))) ?_
          refine dq 104 rfl (fun _ g u h => LWo.guardNU (t := 100) u.1 rfl rfl rfl rfl rfl rfl (.nil (zn g))) ?_
          refine dq 105 rfl (fun _ g u h => LWo.guardNU (t := 100) u.1 rfl rfl rfl rfl rfl rfl (.nil (zn g))) ?_
          refine dq 106 rfl (fun _ g u h => LWo.guardNU (t := 100) u.1 rfl rfl rfl rfl rfl rfl (.nil (zn g))) ?_
          refine dq 107 rfl (fun _ g u h => LWo.guardNU (t := 100) u.2.1 rfl rfl rfl rfl rfl rfl (.nil (zn g))) ?_
          refine dq 108 rfl (fun _ g u h => LWo.guardNU (t := 100) u.1 rfl rfl rfl rfl rfl rfl (.nil (zn g))) ?_
          refine dq 109 rfl (fun _ g u h => LWo.guardNU (t := 100) u.1 rfl rfl rfl rfl rfl rfl (.nil (zn g))) ?_
          refine dq 110 rfl (fun _ g u h => LWo.guardNU (t := 100) u.1 rfl rfl rfl rfl rfl rfl (.nil (zn g))) ?_
          refine dq 111 rfl (fun _ g u h => LWo.pickTM (e_bool true) u.1 rfl rfl (hn := .nil (zn g))) ?_
          refine dq 112 rfl (fun _ g u h => LWo.move (e_bool true) u.1 (hn := .nil (zn g))) ?_
          refine dq 113 rfl (fun _ g u h => LWo.guardNU (t := 112) u.2.1 rfl rfl rfl rfl rfl rfl (.nil (zn g))) ?_
          refine dq 114 rfl (fun _ g u h => LWo.guardNU (t := 112) u.1 rfl rfl rfl rfl rfl rfl (.nil (zn g))) ?_
          refine dq 115 rfl (fun _ g u h => LWo.guardNU (t := 112) u.1 rfl rfl rfl rfl rfl rfl (.nil (zn g))) ?_
          refine dq 116 rfl (fun _ g u h => LWo.guardNU (t := 112) u.2.1 rfl rfl rfl rfl rfl rfl (.nil (zn g))) ?_
          refine dq 117 rfl (fun _ g u h => LWo.guardNU (t := 112) u.1 rfl rfl rfl rfl rfl rfl (.nil (zn g))) ?_
          refine dq 118 rfl (fun _ g u h => LWo.guardNU (t := 112) u.1 rfl rfl rfl rfl rfl rfl (.nil (zn g))) ?_
          refine dq 119 rfl (fun _ g u h => LWo.guardNU (t := 112) u.1 rfl rfl rfl rfl rfl rfl (.nil (zn g))) ?_
          refine dq 120 rfl (fun _ g u h => LWo.pickTM (e_bool true) u.1 rfl rfl (hn := .nil (zn g))) ?_
          refine dq 121 rfl (fun _ g u h => LWo.move (e_bool true) u.1 (hn := .nil (zn g))) ?_
          refine dq 122 rfl (fun _ g u h => LWo.guardNU (t := 121) u.2.1 rfl rfl rfl rfl rfl rfl (.nil (zn g))) ?_
          refine dq 123 rfl (fun _ g u h => LWo.guardNU (t := 121) u.1 rfl rfl rfl rfl rfl rfl (.nil (zn g))) ?_
          refine dq 124 rfl (fun _ g u h => LWo.guardNU (t := 121) u.1 rfl rfl rfl rfl rfl rfl (.nil (zn g))) ?_
          refine dq 125 rfl (fun _ g u h => LWo.guardNU (t := 121) u.1 rfl rfl rfl rfl rfl rfl (.nil (zn g))) ?_
          refine dq 126 rfl (fun _ g u h => LWo.pickTM (e_bool true) u.1 rfl rfl (hn := .nil (zn g))) ?_
          refine ⟨rfl, by kernel_rfl, hN33 (t0, t3, x11.Columns, true) _ ⟨rfl, rfl, rfl, rfl, trivial⟩ trivial h⟩
         ·have h := bF h36 h
          refine bk h fun x37 e37 h => ?_
          refine bS ((!x37)) (fun h38 => ?_) (fun h38 => ?_)
          ·have h := bT h38 h
           refine LWP.drawF (l := [_,_,_,_,_,_,_,_,_,_,_,_,_,_,_,_,_,_,_,_,_,_,_,_,_,_,_,_,_,_,_,_,_,_,_,_,_,_,_,_,_]) [] [0, 3, 5] [([3], []), ([86], []), ([0], []), ([88], []), ([89], []), ([87, 90], []), ([91], []), ([92], []), ([5, 93], []), ([3, 93], []), ([93, 95], []), ([93, 94, 96], []), ([93, 97], []), ([93, 98], []), ([99], []), ([0, 100], []), ([3, 100], []), ([100, 102], []), ([100, 101, 103], []), ([100, 104], []), ([100, 105], []), ([3, 100], []), ([100, 107], []), ([100, 106, 108], []), ([100, 109], []), ([100, 110], []), ([111], []), ([3, 112], []), ([112, 113], []), ([112, 114], []), ([3, 112], []), ([112, 116], []), ([112, 117], []), ([112, 115, 118], []), ([112, 119], []), ([120], []), ([3, 121], []), ([121, 122], []), ([121, 123], []), ([121, 124], []), ([121, 125], [])] [0, 3, 5, 126] [] mixed (by kernel_rfl) rfl (by decide) ?_
           refine dq 86 rfl (fun _ g u h => LWo.fieldAddr _ u_impl_Bond rfl s_int u.1 rfl (hn := .nil (zn g))) ?_
           refine dq 87 rfl (fun _ g u h => LWo.load1 (c := (e_int t3.Of)) g_int u.1 (hn := .nil (zn g))) ?_
           refine dq 88 rfl (fun _ g u h => LWo.move (e_Limpl_Table t0) u.1 (hn := .nil (zn g))) ?_
           refine dq 89 rfl (fun _ g u h => LWo.lenM (f := e_impl_Table) (l := t0) u_Limpl_Table u.1 (hn := .nil (zn g))) ?_
           refine dq 90 rfl (fun _ g u h => LWo.int _ u.1 rfl (sub_ck e34) (hn := .nil (zn g))) ?_
           refine dq 91 rfl (fun _ g u h => LWo.vcall rfl (av3 u.1 rfl u.2.1) (c_spec_l1In _ _ _ _ e35) (.same (.same (.same (.nil)))) (hn := .nil (zn g))) ?_
           refine dq 92 rfl (fun _ g u h => LWo.not u.1 (hn := .nil (zn g))) ?_
           refine dq 93 rfl (fun _ g u h => LWo.move (e_bool (!x35)) u.1 (hn := .nil (zn g))) ?_
           refine dq 94 rfl (fun _ g u h => LWo.guardY (t := 93) u.2.1 h36 rfl rfl (LWo.move (e_Limpl_Column x11.Columns) u.1 (hn := .nil (zn g)))) ?_
           refine dq 95 rfl (fun _ g u h => LWo.guardY (t := 93) u.2.1 h36 rfl rfl (LWo.fieldAddr _ u_impl_Bond rfl s_Lint u.1 rfl (hn := .nil (zn g)))) ?_
           refine dq 96 rfl (fun _ g u h => LWo.guardY (t := 93) u.1 h36 rfl rfl (LWo.load1 (c := (e_Lint t3.f_List)) g_Lint u.2.1 (hn := .nil (zn g)))) ?_
           refine dq 97 rfl (fun _ g u h => LWo.guardY (t := 93) u.1 h36 rfl rfl (LWo.vcall rfl (av2 u.2.1 u.2.2.1) (c_spec_l12Columns _ _ _ e37) (.same (.same (.nil))) (hn := .nil (zn g)))) ?_
           refine dq 98 rfl (fun _ g u h => LWo.guardY (t := 93) u.1 h36 rfl rfl (LWo.not u.2.1 (hn := .nil (zn g)))) ?_
           refine dq 99 rfl (fun _ g u h => LWo.pickFM (e_bool (!x37)) u.1 h36 u.2.1 (hn := .nil (zn g))) ?_
           refine dq 100 rfl (fun _ g u h => LWo.move (e_bool (!x37)) u.1 (hn := .nil (zn g))) ?_
           refine dq 101 rfl (fun _ g u h => LWo.guardNU (t := 100) u.2.1 h38 rfl rfl rfl rfl rfl (.nil (zn g))) ?_
           refine dq 102 rfl (fun _ g u h => LWo.guardNU (t := 100) u.2.1 h38 rfl rfl rfl rfl rfl (.nil (zn g))) ?_
           refine dq 103 rfl (fun _ g u h => LWo.guardNU (t := 100) u.1 h38 rfl rfl rfl rfl rfl (.nil (zn g))) ?_
           refine dq 104 rfl (fun _ g u h => LWo.guardNU (t := 100) u.1 h38 rfl rfl rfl rfl rfl (.nil (zn g))) ?_
           refine dq 105 rfl (fun _ g u h => LWo.guardNU (t := 100) u.1 h38 rfl rfl rfl rfl rfl (.nil (zn g))) ?_
           refine dq 106 rfl (fun _ g u h => LWo.guardNU (t := 100) u.1 h38 rfl rfl rfl rfl rfl (.nil (zn g))) ?_
           refine dq 107 rfl (fun _ g u h => LWo.guardNU (t := 100) u.2.1 h38 rfl rfl rfl rfl rfl (.nil (zn g))) ?_
           refine dq 108 rfl (fun _ g u h => LWo.guardNU (t := 100) u.1 h38 rfl rfl rfl rfl rfl (.nil (zn g))) ?_
           refine dq 109 rfl (fun _ g u h => LWo.guardNU (t := 100) u.1 h38 rfl rfl rfl rfl rfl (.nil (zn g))) ?_
           refine dq 110 rfl (fun _ g u h => LWo.guardNU (t := 100) u.1 h38 rfl rfl rfl rfl rfl (.nil (zn g))) ?_
           refine dq 111 rfl (fun _ g u h => LWo.pickTM (e_bool true) u.1 h38 rfl (hn := .nil (zn g))) ?_
           refine dq 112 rfl (fun _ g u h => LWo.move (e_bool true) u.1 (hn := .nil (zn g))) ?_
           refine dq 113 rfl (fun _ g u h => LWo.guardNU (t := 112) u.2.1 rfl rfl rfl rfl rfl rfl (.nil (zn g))) ?_
           refine dq 114 rfl (fun _ g u h => LWo.guardNU (t := 112) u.1 rfl rfl rfl rfl rfl rfl (.nil (zn g))) ?_
           refine dq 115 rfl (fun _ g u h => LWo.guardNU (t := 112) u.1 rfl rfl rfl rfl rfl rfl (.nil (zn g))) ?_
           refine dq 116 rfl (fun _ g u h => LWo.guardNU (t := 112) u.2.1 rfl rfl rfl rfl rfl rfl (.nil (zn g))) ?_
           refine dq 117 rfl (fun _ g u h => LWo.guardNU (t := 112) u.1 rfl rfl rfl rfl rfl rfl (.nil (zn g))) ?_
           refine dq 118 rfl (fun _ g u h => LWo.guardNU (t := 112) u.1 rfl rfl rfl rfl rfl rfl (.nil (zn g))) ?_
           refine dq 119 rfl (fun _ g u h => LWo.guardNU (t := 112) u.1 rfl rfl rfl rfl rfl rfl (.nil (zn g))) ?_
           refine dq 120 rfl (fun _ g u h => LWo.pickTM (e_bool true) u.1 rfl rfl (hn := .nil (zn g))) ?_
           refine dq 121 rfl (fun _ g u h => LWo.move (e_bool true) u.1 (hn := .nil (zn g))) ?_
           refine dq 122 rfl (fun _ g u h => LWo.guardNU (t := 121) u.2.1 rfl rfl rfl rfl rfl rfl (.nil (zn g))) ?_
           refine dq 123 rfl (fun _ g u h => LWo.guardNU (t := 121) u.1 rfl rfl rfl rfl rfl rfl (.nil (zn g))) ?_
           refine dq 124 rfl (fun _ g u h => LWo.guardNU (t := 121) u.1 rfl rfl rfl rfl rfl rfl (.nil (zn g))) ?_
           refine dq 125 rfl (fun _ g u h => LWo.guardNU (t := 121) u.1 rfl rfl rfl rfl rfl rfl (.nil (zn g))) ?_
           refine dq 126 rfl (fun _ g u h => LWo.pickTM (e_bool true) u.1 rfl rfl (hn := .nil (zn g))) ?_
           refine ⟨rfl, by kernel_rfl, hN33 (t0, t3, x11.Columns, true) _ ⟨rfl, rfl, rfl, rfl, trivial⟩ trivial h⟩
          ·have h := bF h38 h
           refine bk h fun x39 e39 h => ?_
           refine bk h fun x40 e40 h => ?_
           refine bS ((!x40)) (fun h41 => ?_) (fun h41 => ?_)
           ·have h := bT h41 h
            refine LWP.drawF (l := [_,_,_,_,_,_,_,_,_,_,_,_,_,_,_,_,_,_,_,_,_,_,_,_,_,_,_,_,_,_,_,_,_,_,_,_,_,_,_,_,_]) [] [0, 3, 5] [([3], []), ([86], []), ([0], []), ([88], []), ([89], []), ([87, 90], []), ([91], []), ([92], []), ([5, 93], []), ([3, 93], []), ([93, 95], []), ([93, 94, 96], []), ([93, 97], []), ([93, 98], []), ([99], []), ([0, 100], []), ([3, 100], []), ([100, 102], []), ([100, 101, 103], []), ([100, 104], []), ([100, 105], []), ([3, 100], []), ([100, 107], []), ([100, 106, 108], []), ([100, 109], []), ([100, 110], []), ([111], []), ([3, 112], []), ([112, 113], []), ([112, 114], []), ([3, 112], []), ([112, 116], []), ([112, 117], []), ([112, 115, 118], []), ([112, 119], []), ([120], []), ([3, 121], []), ([121, 122], []), ([121, 123], []), ([121, 124], []), ([121, 125], [])] [0, 3, 5, 126] [] mixed (by kernel_rfl) rfl (by decide) ?_
            refine dq 86 rfl (fun _ g u h => LWo.fieldAddr _ u_impl_Bond rfl s_int u.1 rfl (hn := .nil (zn g))) ?_
            refine dq 87 rfl (fun _ g u h => LWo.load1 (c := (e_int t3.Of)) g_int u.1 (hn := .nil (zn g))) ?_
            refine dq 88 rfl (fun _ g u h => LWo.move (e_Limpl_Table t0) u.1 (hn := .nil (zn g))) ?_
            refine dq 89 rfl (fun _ g u h => LWo.lenM (f := e_impl_Table) (l := t0) u_Limpl_Table u.1 (hn := .nil (zn g))) ?_
            refine dq 90 rfl (fun _ g u h => LWo.int _ u.1 rfl (sub_ck e34) (hn := .nil (zn g))) ?_
            refine dq 91 rfl (fun _ g u h => LWo.vcall rfl (av3 u.1 rfl u.2.1) (c_spec_l1In _ _ _ _ e35) (.same (.same (.same (.nil)))) (hn := .nil (zn g))) ?_
            refine dq 92 rfl (fun _ g u h => LWo.not u.1 (hn := .nil (zn g))) ?_
            refine dq 93 rfl (fun _ g u h => LWo.move (e_bool (!x35)) u.1 (hn := .nil (zn g))) ?_
            refine dq 94 rfl (fun _ g u h => LWo.guardY (t := 93) u.2.1 h36 rfl rfl (LWo.move (e_Limpl_Column x11.Columns) u.1 (hn := .nil (zn g)))) ?_
            refine dq 95 rfl (fun _ g u h => LWo.guardY (t := 93) u.2.1 h36 rfl rfl (LWo.fieldAddr _ u_impl_Bond rfl s_Lint u.1 rfl (hn := .nil (zn g)))) ?_
            refine dq 96 rfl (fun _ g u h => LWo.guardY (t := 93) u.1 h36 rfl rfl (LWo.load1 (c := (e_Lint t3.f_List)) g_Lint u.2.1 (hn := .nil (zn g)))) ?_
            refine dq 97 rfl (fun _ g u h => LWo.guardY (t := 93) u.1 h36 rfl rfl (LWo.vcall rfl (av2 u.2.1 u.2.2.1) (c_spec_l12Columns _ _ _ e37) (.same (.same (.nil))) (hn := .nil (zn g)))) ?_
            refine dq 98 rfl (fun _ g u h => LWo.guardY (t := 93) u.1 h36 rfl rfl (LWo.not u.2.1 (hn := .nil (zn g)))) ?_
            refine dq 99 rfl (fun _ g u h => LWo.pickFM (e_bool (!x37)) u.1 h36 u.2.1 (hn := .nil (zn g))) ?_
            refine dq 100 rfl (fun _ g u h => LWo.move (e_bool (!x37)) u.1 (hn := .nil (zn g))) ?_
            refine dq 101 rfl (fun _ g u h => LWo.guardY (t := 100) u.2.1 h38 rfl rfl (LWo.move (e_Limpl_Table t0) u.1 (hn := .nil (zn g)))) ?_
            refine dq 102 rfl (fun _ g u h => LWo.guardY (t := 100) u.2.1 h38 rfl rfl (LWo.fieldAddr _ u_impl_Bond rfl s_int u.1 rfl (hn := .nil (zn g)))) ?_
            refine dq 103 rfl (fun _ g u h => LWo.guardY (t := 100) u.1 h38 rfl rfl (LWo.load1 (c := (e_int t3.Of)) g_int u.2.1 (hn := .nil (zn g)))) ?_
            refine dq 104 rfl (fun _ g u h => LWo.guardY (t := 100) u.1 h38 rfl rfl (LWo.indexM (f := e_impl_Table) e39 u_Limpl_Table s_impl_Table u.2.1 u.2.2.1 (hn := .nil (zn g)))) ?_
            refine dq 105 rfl (fun _ g u h => LWo.guardY (t := 100) u.1 h38 rfl rfl (LWo.fieldAddr _ u_impl_Table rfl s_Limpl_Column u.2.1 rfl (hn := .nil (zn g)))) ?_
            refine dq 106 rfl (fun _ g u h => LWo.guardY (t := 100) u.1 h38 rfl rfl (LWo.load1 (c := (e_Limpl_Column x39.Columns)) g_Limpl_Column u.2.1 (hn := .nil (zn g)))) ?_
            refine dq 107 rfl (fun _ g u h => LWo.guardY (t := 100) u.2.1 h38 rfl rfl (LWo.fieldAddr _ u_impl_Bond rfl s_Lint u.1 rfl (hn := .nil (zn g)))) ?_
            refine dq 108 rfl (fun _ g u h => LWo.guardY (t := 100) u.1 h38 rfl rfl (LWo.load1 (c := (e_Lint t3.To)) g_Lint u.2.1 (hn := .nil (zn g)))) ?_
            refine dq 109 rfl (fun _ g u h => LWo.guardY (t := 100) u.1 h38 rfl rfl (LWo.vcall rfl (av2 u.2.1 u.2.2.1) (c_spec_l12Columns _ _ _ e40) (.same (.same (.nil))) (hn := .nil (zn g)))) ?_
            refine dq 110 rfl (fun _ g u h => LWo.guardY (t := 100) u.1 h38 rfl rfl (LWo.not u.2.1 (hn := .nil (zn g)))) ?_
            refine dq 111 rfl (fun _ g u h => LWo.pickFM (e_bool (!x40)) u.1 h38 u.2.1 (hn := .nil (zn g))) ?_
            refine dq 112 rfl (fun _ g u h => LWo.move (e_bool (!x40)) u.1 (hn := .nil (zn g))) ?_
            refine dq 113 rfl (fun _ g u h => LWo.guardNU (t := 112) u.2.1 h41 rfl rfl rfl rfl rfl (.nil (zn g))) ?_
            refine dq 114 rfl (fun _ g u h => LWo.guardNU (t := 112) u.1 h41 rfl rfl rfl rfl rfl (.nil (zn g))) ?_
            refine dq 115 rfl (fun _ g u h => LWo.guardNU (t := 112) u.1 h41 rfl rfl rfl rfl rfl (.nil (zn g))) ?_
            refine dq 116 rfl (fun _ g u h => LWo.guardNU (t := 112) u.2.1 h41 rfl rfl rfl rfl rfl (.nil (zn g))) ?_
            refine dq 117 rfl (fun _ g u h => LWo.guardNU (t := 112) u.1 h41 rfl rfl rfl rfl rfl (.nil (zn g))) ?_
            refine dq 118 rfl (fun _ g u h => LWo.guardNU (t := 112) u.1 h41 rfl rfl rfl rfl rfl (.nil (zn g))) ?_
            refine dq 119 rfl (fun _ g u h => LWo.guardNU (t := 112) u.1 h41 rfl rfl rfl rfl rfl (.nil (zn g))) ?_
            refine dq 120 rfl (fun _ g u h => LWo.pickTM (e_bool true) u.1 h41 rfl (hn := .nil (zn g))) ?_
            refine dq 121 rfl (fun _ g u h => LWo.move (e_bool true) u.1 (hn := .nil (zn g))) ?_
            refine dq 122 rfl (fun _ g u h => LWo.guardNU (t := 121) u.2.1 rfl rfl rfl rfl rfl rfl (.nil (zn g))) ?_
            refine dq 123 rfl (fun _ g u h => LWo.guardNU (t := 121) u.1 rfl rfl rfl rfl rfl rfl (.nil (zn g))) ?_
            refine dq 124 rfl (fun _ g u h => LWo.guardNU (t := 121) u.1 rfl rfl rfl rfl rfl rfl (.nil (zn g))) ?_
            refine dq 125 rfl (fun _ g u h => LWo.guardNU (t := 121) u.1 rfl rfl rfl rfl rfl rfl (.nil (zn g))) ?_
            refine dq 126 rfl (fun _ g u h => LWo.pickTM (e_bool true) u.1 rfl rfl (hn := .nil (zn g))) ?_
            refine ⟨rfl, by kernel_rfl, hN33 (t0, t3, x11.Columns, true) _ ⟨rfl, rfl, rfl, rfl, trivial⟩ trivial h⟩
           ·have h := bF h41 h
            refine bS (((t3.f_List.length : Int) != (t3.To.length : Int))) (fun h42 => ?_) (fun h42 => ?_)
            ·have h := bT h42 h
             refine LWP.drawF (l := [_,_,_,_,_,_,_,_,_,_,_,_,_,_,_,_,_,_,_,_,_,_,_,_,_,_,_,_,_,_,_,_,_,_,_,_,_,_,_,_,_]) [] [0, 3, 5] [([3], []), ([86], []), ([0], []), ([88], []), ([89], []), ([87, 90], []), ([91], []), ([92], []), ([5, 93], []), ([3, 93], []), ([93, 95], []), ([93, 94, 96], []), ([93, 97], []), ([93, 98], []), ([99], []), ([0, 100], []), ([3, 100], []), ([100, 102], []), ([100, 101, 103], []), ([100, 104], []), ([100, 105], []), ([3, 100], []), ([100, 107], []), ([100, 106, 108], []), ([100, 109], []), ([100, 110], []), ([111], []), ([3, 112], []), ([112, 113], []), ([112, 114], []), ([3, 112], []), ([112, 116], []), ([112, 117], []), ([112, 115, 118], []), ([112, 119], []), ([120], []), ([3, 121], []), ([121, 122], []), ([121, 123], []), ([121, 124], []), ([121, 125], [])] [0, 3, 5, 126] [] mixed (by kernel_rfl) rfl (by decide) ?_
             refine dq 86 rfl (fun _ g u h => LWo.fieldAddr _ u_impl_Bond rfl s_int u.1 rfl (hn := .nil (zn g))) ?_
             refine dq 87 rfl (fun _ g u h => LWo.load1 (c := (e_int t3.Of)) g_int u.1 (hn := .nil (zn g))) ?_
             refine dq 88 rfl (fun _ g u h => LWo.move (e_Limpl_Table t0) u.1 (hn := .nil (zn g))) ?_
             refine dq 89 rfl (fun _ g u h => LWo.lenM (f := e_impl_Table) (l := t0) u_Limpl_Table u.1 (hn := .nil (zn g))) ?_
             refine dq 90 rfl (fun _ g u h => LWo.int _ u.1 rfl (sub_ck e34) (hn := .nil (zn g))) ?_
             refine dq 91 rfl (fun _ g u h => LWo.vcall rfl (av3 u.1 rfl u.2.1) (c_spec_l1In _ _ _ _ e35) (.same (.same (.same (.nil)))) (hn := .nil (zn g))) ?_
             refine dq 92 rfl (fun _ g u h => LWo.not u.1 (hn := .nil (zn g))) ?_
             refine dq 93 rfl (fun _ g u h => LWo.move (e_bool (!x35)) u.1 (hn := .nil (zn g))) ?_
             refine dq 94 rfl (fun _ g u h => LWo.guardY (t := 93) u.2.1 h36 rfl rfl (LWo.move (e_Limpl_Column x11.Columns) u.1 (hn := .nil (zn g)))) ?_
             refine dq 95 rfl (fun _ g u h => LWo.guardY (t := 93) u.2.1 h36 rfl rfl (LWo.fieldAddr _ u_impl_Bond rfl s_Lint u.1 rfl (hn := .nil (zn g)))) ?_
             refine dq 96 rfl (fun _ g u h => LWo.guardY (t := 93) u.1 h36 rfl rfl (LWo.load1 (c := (e_Lint t3.f_List)) g_Lint u.2.1 (hn := .nil (zn g)))) ?_
             refine dq 97 rfl (fun _ g u h => LWo.guardY (t := 93) u.1 h36 rfl rfl (LWo.vcall rfl (av2 u.2.1 u.2.2.1) (c_spec_l12Columns _ _ _ e37) (.same (.same (.nil))) (hn := .nil (zn g)))) ?_
             refine dq 98 rfl (fun _ g u h => LWo.guardY (t := 93) u.1 h36 rfl rfl (LWo.not u.2.1 (hn := .nil (zn g)))) ?_
             refine dq 99 rfl (fun _ g u h => LWo.pickFM (e_bool (!x37)) u.1 h36 u.2.1 (hn := .nil (zn g))) ?_
             refine dq 100 rfl (fun _ g u h => LWo.move (e_bool (!x37)) u.1 (hn := .nil (zn g))) ?_
             refine dq 101 rfl (fun _ g u h => LWo.guardY (t := 100) u.2.1 h38 rfl rfl (LWo.move (e_Limpl_Table t0) u.1 (hn := .nil (zn g)))) ?_
             refine dq 102 rfl (fun _ g u h => LWo.guardY (t := 100) u.2.1 h38 rfl rfl (LWo.fieldAddr _ u_impl_Bond rfl s_int u.1 rfl (hn := .nil (zn g)))) ?_
             refine dq 103 rfl (fun _ g u h => LWo.guardY (t := 100) u.1 h38 rfl rfl (LWo.load1 (c := (e_int t3.Of)) g_int u.2.1 (hn := .nil (zn g)))) ?_
             refine dq 104 rfl (fun _ g u h => LWo.guardY (t := 100) u.1 h38 rfl rfl (LWo.indexM (f := e_impl_Table) e39 u_Limpl_Table s_impl_Table u.2.1 u.2.2.1 (hn := .nil (zn g)))) ?_
             refine dq 105 rfl (fun _ g u h => LWo.guardY (t := 100) u.1 h38 rfl rfl (LWo.fieldAddr _ u_impl_Table rfl s_Limpl_Column u.2.1 rfl (hn := .nil (zn g)))) ?_
             refine dq 106 rfl (fun _ g u h => LWo.guardY (t := 100) u.1 h38 rfl rfl (LWo.load1 (c := (e_Limpl_Column x39.Columns)) g_Limpl_Column u.2.1 (hn := .nil (zn g)))) ?_
             refine dq 107 rfl (fun _ g u h => LWo.guardY (t := 100) u.2.1 h38 rfl rfl (LWo.fieldAddr _ u_impl_Bond rfl s_Lint u.1 rfl (hn := .nil (zn g)))) ?_
             refine dq 108 rfl (fun _ g u h => LWo.guardY (t := 100) u.1 h38 rfl rfl (LWo.load1 (c := (e_Lint t3.To)) g_Lint u.2.1 (hn := .nil (zn g)))) ?_
             refine dq 109 rfl (fun _ g u h => LWo.guardY (t := 100) u.1 h38 rfl rfl (LWo.vcall rfl (av2 u.2.1 u.2.2.1) (c_spec_l12Columns _ _ _ e40) (.same (.same (.nil))) (hn := .nil (zn g)))) ?_
             refine dq 110 rfl (fun _ g u h => LWo.guardY (t := 100) u.1 h38 rfl rfl (LWo.not u.2.1 (hn := .nil (zn g)))) ?_
             refine dq 111 rfl (fun _ g u h => LWo.pickFM (e_bool (!x40)) u.1 h38 u.2.1 (hn := .nil (zn g))) ?_
             refine dq 112 rfl (fun _ g u h => LWo.move (e_bool (!x40)) u.1 (hn := .nil (zn g))) ?_
             refine dq 113 rfl (fun _ g u h => LWo.guardY (t := 112) u.2.1 h41 rfl rfl (LWo.fieldAddr _ u_impl_Bond rfl s_Lint u.1 rfl (hn := .nil (zn g)))) ?_
             refine dq 114 rfl (fun _ g u h => LWo.guardY (t := 112) u.1 h41 rfl rfl (LWo.load1 (c := (e_Lint t3.f_List)) g_Lint u.2.1 (hn := .nil (zn g)))) ?_
             refine dq 115 rfl (fun _ g u h => LWo.guardY (t := 112) u.1 h41 rfl rfl (LWo.lenM (f := e_int) (l := t3.f_List) u_Lint u.2.1 (hn := .nil (zn g)))) ?_
             refine dq 116 rfl (fun _ g u h => LWo.guardY (t := 112) u.2.1 h41 rfl rfl (LWo.fieldAddr _ u_impl_Bond rfl s_Lint u.1 rfl (hn := .nil (zn g)))) ?_
             refine dq 117 rfl (fun _ g u h => LWo.guardY (t := 112) u.1 h41 rfl rfl (LWo.load1 (c := (e_Lint t3.To)) g_Lint u.2.1 (hn := .nil (zn g)))) ?_
             refine dq 118 rfl (fun _ g u h => LWo.guardY (t := 112) u.1 h41 rfl rfl (LWo.lenM (f := e_int) (l := t3.To) u_Lint u.2.1 (hn := .nil (zn g)))) ?_
             refine dq 119 rfl (fun _ g u h => LWo.guardY (t := 112) u.1 h41 rfl rfl (LWo.int _ u.2.1 u.2.2.1 rfl (hn := .nil (zn g)))) ?_
             refine dq 120 rfl (fun _ g u h => LWo.pickFM (e_bool ((t3.f_List.length : Int) != (t3.To.length : Int))) u.1 h41 u.2.1 (hn := .nil (zn g))) ?_
             refine dq 121 rfl (fun _ g u h => LWo.move (e_bool ((t3.f_List.length : Int) != (t3.To.length : Int))) u.1 (hn := .nil (zn g))) ?_
             refine dq 122 rfl (fun _ g u h => LWo.guardNU (t := 121) u.2.1 h42 rfl rfl rfl rfl rfl (.nil (zn g))) ?_
             refine dq 123 rfl (fun _ g u h => LWo.guardNU (t := 121) u.1 h42 rfl rfl rfl rfl rfl (.nil (zn g))) ?_
             refine dq 124 rfl (fun _ g u h => LWo.guardNU (t := 121) u.1 h42 rfl rfl rfl rfl rfl (.nil (zn g))) ?_
             refine dq 125 rfl (fun _ g u h => LWo.guardNU (t := 121) u.1 h42 rfl rfl rfl rfl rfl (.nil (zn g))) ?_
             refine dq 126 rfl (fun _ g u h => LWo.pickTM (e_bool true) u.1 h42 rfl (hn := .nil (zn g))) ?_
             refine ⟨rfl, by kernel_rfl, hN33 (t0, t3, x11.Columns, true) _ ⟨rfl, rfl, rfl, rfl, trivial⟩ trivial h⟩
            ·have h := bF h42 h
             refine LWP.drawF (l := [_,_,_,_,_,_,_,_,_,_,_,_,_,_,_,_,_,_,_,_,_,_,_,_,_,_,_,_,_,_,_,_,_,_,_,_,_,_,_,_,_]) [] [0, 3, 5] [([3], []), ([86], []), ([0], []), ([88], []), ([89], []), ([87, 90], []), ([91], []), ([92], []), ([5, 93], []), ([3, 93], []), ([93, 95], []), ([93, 94, 96], []), ([93, 97], []), ([93, 98], []), ([99], []), ([0, 100], []), ([3, 100], []), ([100, 102], []), ([100, 101, 103], []), ([100, 104], []), ([100, 105], []), ([3, 100], []), ([100, 107], []), ([100, 106, 108], []), ([100, 109], []), ([100, 110], []), ([111], []), ([3, 112], []), ([112, 113], []), ([112, 114], []), ([3, 112], []), ([112, 116], []), ([112, 117], []), ([112, 115, 118], []), ([112, 119], []), ([120], []), ([3, 121], []), ([121, 122], []), ([121, 123], []), ([121, 124], []), ([121, 125], [])] [0, 3, 5, 126] [] mixed (by kernel_rfl) rfl (by decide) ?_
             refine dq 86 rfl (fun _ g u h => LWo.fieldAddr _ u_impl_Bond rfl s_int u.1 rfl (hn := .nil (zn g))) ?_
             refine dq 87 rfl (fun _ g u h => LWo.load1 (c := (e_int t3.Of)) g_int u.1 (hn := .nil (zn g))) ?_
             refine dq 88 rfl (fun _ g u h => LWo.move (e_Limpl_Table t0) u.1 (hn := .nil (zn g))) ?_
             refine dq 89 rfl (fun _ g u h => LWo.lenM (f := e_impl_Table) (l := t0) u_Limpl_Table u.1 (hn := .nil (zn g))) ?_
             refine dq 90 rfl (fun _ g u h => LWo.int _ u.1 rfl (sub_ck e34) (hn := .nil (zn g))) ?_
             refine dq 91 rfl (fun _ g u h => LWo.vcall rfl (av3 u.1 rfl u.2.1) (c_spec_l1In _ _ _ _ e35) (.same (.same (.same (.nil)))) (hn := .nil (zn g))) ?_
             refine dq 92 rfl (fun _ g u h => LWo.not u.1 (hn := .nil (zn g))) ?_
             refine dq 93 rfl (fun _ g u h => LWo.move (e_bool (!x35)) u.1 (hn := .nil (zn g))) ?_
             refine dq 94 rfl (fun _ g u h => LWo.guardY (t := 93) u.2.1 h36 rfl rfl (LWo.move (e_Limpl_Column x11.Columns) u.1 (hn := .nil (zn g)))) ?_
             refine dq 95 rfl (fun _ g u h => LWo.guardY (t := 93) u.2.1 h36 rfl rfl (LWo.fieldAddr _ u_impl_Bond rfl s_Lint u.1 rfl (hn := .nil (zn g)))) ?_
             refine dq 96 rfl (fun _ g u h => LWo.guardY (t := 93) u.1 h36 rfl rfl (LWo.load1 (c := (e_Lint t3.f_List)) g_Lint u.2.1 (hn := .nil (zn g)))) ?_
             refine dq 97 rfl (fun _ g u h => LWo.guardY (t := 93) u.1 h36 rfl rfl (LWo.vcall rfl (av2 u.2.1 u.2.2.1) (c_spec_l12Columns _ _ _ e37) (.same (.same (.nil))) (hn := .nil (zn g)))) ?_
             refine dq 98 rfl (fun _ g u h => LWo.guardY (t := 93) u.1 h36 rfl rfl (LWo.not u.2.1 (hn := .nil (zn g)))) ?_
             refine dq 99 rfl (fun _ g u h => LWo.pickFM (e_bool (!x37)) u.1 h36 u.2.1 (hn := .nil (zn g))) ?_
             refine dq 100 rfl (fun _ g u h => LWo.move (e_bool (!x37)) u.1 (hn := .nil (zn g))) ?_
             refine dq 101 rfl (fun _ g u h => LWo.guardY (t := 100) u.2.1 h38 rfl rfl (LWo.move (e_Limpl_Table t0) u.1 (hn := .nil (zn g)))) ?_
             refine dq 102 rfl (fun _ g u h => LWo.guardY (t := 100) u.2.1 h38 rfl rfl (LWo.fieldAddr _ u_impl_Bond rfl s_int u.1 rfl (hn := .nil (zn g)))) ?_
             refine dq 103 rfl (fun _ g u h => LWo.guardY (t := 100) u.1 h38 rfl rfl (LWo.load1 (c := (e_int t3.Of)) g_int u.2.1 (hn := .nil (zn g)))) ?_
             refine dq 104 rfl (fun _ g u h => LWo.guardY (t := 100) u.1 h38 rfl rfl (LWo.indexM (f := e_impl_Table) e39 u_Limpl_Table s_impl_Table u.2.1 u.2.2.1 (hn := .nil (zn g)))) ?_
             refine dq 105 rfl (fun _ g u h => LWo.guardY (t := 100) u.1 h38 rfl rfl (LWo.fieldAddr _ u_impl_Table rfl s_Limpl_Column u.2.1 rfl (hn := .nil (zn g)))) ?_
             refine dq 106 rfl (fun _ g u h => LWo.guardY (t := 100) u.1 h38 rfl rfl (LWo.load1 (c := (e_Limpl_Column x39.Columns)) g_Limpl_Column u.2.1 (hn := .nil (zn g)))) ?_
             refine dq 107 rfl (fun _ g u h => LWo.guardY (t := 100) u.2.1 h38 rfl rfl (LWo.fieldAddr _ u_impl_Bond rfl s_Lint u.1 rfl (hn := .nil (zn g)))) ?_
             refine dq 108 rfl (fun _ g u h => LWo.guardY (t := 100) u.1 h38 rfl rfl (LWo.load1 (c := (e_Lint t3.To)) g_Lint u.2.1 (hn := .nil (zn g)))) ?_
             refine dq 109 rfl (fun _ g u h => LWo.guardY (t := 100) u.1 h38 rfl rfl (LWo.vcall rfl (av2 u.2.1 u.2.2.1) (c_spec_l12Columns _ _ _ e40) (.same (.same (.nil))) (hn := .nil (zn g)))) ?_
             refine dq 110 rfl (fun _ g u h => LWo.guardY (t := 100) u.1 h38 rfl rfl (LWo.not u.2.1 (hn := .nil (zn g)))) ?_
             refine dq 111 rfl (fun _ g u h => LWo.pickFM (e_bool (!x40)) u.1 h38 u.2.1 (hn := .nil (zn g))) ?_
             refine dq 112 rfl (fun _ g u h => LWo.move (e_bool (!x40)) u.1 (hn := .nil (zn g))) ?_
             refine dq 113 rfl (fun _ g u h => LWo.guardY (t := 112) u.2.1 h41 rfl rfl (LWo.fieldAddr _ u_impl_Bond rfl s_Lint u.1 rfl (hn := .nil (zn g)))) ?_
             refine dq 114 rfl (fun _ g u h => LWo.guardY (t := 112) u.1 h41 rfl rfl (LWo.load1 (c := (e_Lint t3.f_List)) g_Lint u.2.1 (hn := .nil (zn g)))) ?_
             refine dq 115 rfl (fun _ g u h => LWo.guardY (t := 112) u.1 h41 rfl rfl (LWo.lenM (f := e_int) (l := t3.f_List) u_Lint u.2.1 (hn := .nil (zn g)))) ?_
             refine dq 116 rfl (fun _ g u h => LWo.guardY (t := 112) u.2.1 h41 rfl rfl (LWo.fieldAddr _ u_impl_Bond rfl s_Lint u.1 rfl (hn := .nil (zn g)))) ?_
             refine dq 117 rfl (fun _ g u h => LWo.guardY (t := 112) u.1 h41 rfl rfl (LWo.load1 (c := (e_Lint t3.To)) g_Lint u.2.1 (hn := .nil (zn g)))) ?_
             refine dq 118 rfl (fun _ g u h => LWo.guardY (t := 112) u.1 h41 rfl rfl (LWo.lenM (f := e_int) (l := t3.To) u_Lint u.2.1 (hn := .nil (zn g)))) ?_
             refine dq 119 rfl (fun _ g u h => LWo.guardY (t := 112) u.1 h41 rfl rfl (LWo.int _ u.2.1 u.2.2.1 rfl (hn := .nil (zn g)))) ?_
             refine dq 120 rfl (fun _ g u h => LWo.pickFM (e_bool ((t3.f_List.length : Int) != (t3.To.length : Int))) u.1 h41 u.2.1 (hn := .nil (zn g))) ?_
             refine dq 121 rfl (fun _ g u h => LWo.move (e_bool ((t3.f_List.length : Int) != (t3.To.length : Int))) u.1 (hn := .nil (zn g))) ?_
             refine dq 122 rfl (fun _ g u h => LWo.guardY (t := 121) u.2.1 h42 rfl rfl (LWo.fieldAddr _ u_impl_Bond rfl s_Limpl_Part u.1 rfl (hn := .nil (zn g)))) ?_
             refine dq 123 rfl (fun _ g u h => LWo.guardY (t := 121) u.1 h42 rfl rfl (LWo.load1 (c := (e_Limpl_Part t3.E)) g_Limpl_Part u.2.1 (hn := .nil (zn g)))) ?_
             refine dq 124 rfl (fun _ g u h => LWo.guardY (t := 121) u.1 h42 rfl rfl (LWo.lenM (f := e_impl_Part) (l := t3.E) u_Limpl_Part u.2.1 (hn := .nil (zn g)))) ?_
             refine dq 125 rfl (fun _ g u h => LWo.guardY (t := 121) u.1 h42 rfl rfl (LWo.int _ u.2.1 rfl rfl (hn := .nil (zn g)))) ?_
             refine dq 126 rfl (fun _ g u h => LWo.pickFM (e_bool (decide ((t3.E.length : Int) > (0 : Int)))) u.1 h42 u.2.1 (hn := .nil (zn g))) ?_
             refine ⟨rfl, by kernel_rfl, hN33 (t0, t3, x11.Columns, decide ((t3.E.length : Int) > (0 : Int))) _ ⟨rfl, rfl, rfl, rfl, trivial⟩ trivial h⟩
       ·have h := bF h31 h
        refine LWP.skip (hN12 () _ trivial trivial h)
  ·intro N3 hN3
   refine LWP.region (l := [_,_,_,_,_,_,_,_,_,_,_,_]) ?_
   refine LWo.move (e_Limpl_Table a0) rfl (hn := ?_)
   refine bk h fun x4 e4 h => ?_
   refine LWo.vcall rfl rfl (c_spec_TablesOk _ _ e4) (.same (.nil)) (hn := ?_)
   refine LWo.not rfl (hn := ?_)
   refine LWo.move (e_bool (!x4)) rfl (hn := ?_)
   refine LWo.byCases (t := 10) _ rfl (fun h5 => ?_) (fun h5 => ?_)
   ·have h := bT h5 h
    refine LWo.guardNU (t := 10) rfl h5 rfl rfl rfl rfl rfl ?_
    refine LWo.guardNU (t := 10) rfl h5 rfl rfl rfl rfl rfl ?_
    refine LWo.guardNU (t := 10) rfl h5 rfl rfl rfl rfl rfl ?_
    refine LWo.guardNU (t := 10) rfl h5 rfl rfl rfl rfl rfl ?_
    refine LWo.guardNU (t := 10) rfl h5 rfl rfl rfl rfl rfl ?_
    refine LWo.guardNU (t := 10) rfl h5 rfl rfl rfl rfl rfl ?_
    refine LWo.guardNU (t := 10) rfl h5 rfl rfl rfl rfl rfl ?_
    refine LWo.pickTM (e_bool true) rfl h5 rfl (hn := ?_)
    refine LWo.nil (hN3 (a0, a1, true) _ ⟨rfl, rfl, rfl, trivial⟩ trivial h)
   ·have h := bF h5 h
    refine LWo.guardY (t := 10) rfl h5 rfl rfl ?_
    refine LWo.fieldAddr _ u_impl_Bond rfl s_int rfl rfl (hn := ?_)
    refine LWo.guardY (t := 10) rfl h5 rfl rfl ?_
    refine LWo.load1 (c := (e_int a1.In)) g_int rfl (hn := ?_)
    refine LWo.guardY (t := 10) rfl h5 rfl rfl ?_
    refine LWo.move (e_Limpl_Table a0) rfl (hn := ?_)
    refine LWo.guardY (t := 10) rfl h5 rfl rfl ?_
    refine LWo.lenM (f := e_impl_Table) (l := a0) u_Limpl_Table rfl (hn := ?_)
    refine bk h fun x6 e6 h => ?_
    refine LWo.guardY (t := 10) rfl h5 rfl rfl ?_
    refine LWo.int _ rfl rfl (sub_ck e6) (hn := ?_)
    refine bk h fun x7 e7 h => ?_
    refine LWo.guardY (t := 10) rfl h5 rfl rfl ?_
    refine LWo.vcall rfl rfl (c_spec_l1In _ _ _ _ e7) (.same (.same (.same (.nil)))) (hn := ?_)
    refine LWo.guardY (t := 10) rfl h5 rfl rfl ?_
    refine LWo.not rfl (hn := ?_)
    refine LWo.pickFM (e_bool (!x7)) rfl h5 rfl (hn := ?_)
    refine LWo.nil (hN3 (a0, a1, (!x7)) _ ⟨rfl, rfl, rfl, trivial⟩ trivial h)
end Go.Proofs.Ytgepipglchpabaa
