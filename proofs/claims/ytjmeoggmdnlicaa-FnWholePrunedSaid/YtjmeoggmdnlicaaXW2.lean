/- Mirrors of functions, and that the functions return what the mirrors say. -/
import Derived.Test.YtjmeoggmdnlicaaXW1
set_option linter.unusedVariables false
set_option linter.unusedSimpArgs false
set_option linter.unnecessarySimpa false
set_option maxHeartbeats 4000000
namespace Go.Proofs.Ytjmeoggmdnlicaa
open Go.Proofs Go.Lift Go.RowKit
def m_impl_RowsOk_1 (a0 : (List S_impl_Value)) (a1 : (List S_impl_Column)) : Option Bool :=
  (m_impl_RowFits a1 a0).bind fun x3 =>
  some (!x3)
theorem c_impl_RowsOk_1 (a0 : (List S_impl_Value)) (a1 : (List S_impl_Column)) (r : Bool) (h : m_impl_RowsOk_1 a0 a1 = some r) : Ret Try.prog f_impl_RowsOk_1 [e_Limpl_Value a0, .fp (e_Limpl_Column a1).cells] (e_bool r) := by
  refine Does.goG [] F_impl_RowsOk_1 rfl e_impl_RowsOk_1 n_impl_RowsOk_1 rfl (rvs := [.tmp 3]) rfl rfl ?_; intro w0 ok0 lent ρ0; refine .seq_k fun N1 hN1 => ?_; refine .region (l := [_]) (.assign (e_bool false) rfl (hn := .nil (hN1 _ ?_))); refine .seq_k fun N2 hN2 => ?_; refine .region (l := [_,_,_,_,_]) (.load1 (c := (e_Limpl_Column a1)) g_Limpl_Column rfl (hn := .move (e_Limpl_Value a0) rfl (hn := bk h fun x3 e3 h => ?_))); refine .vcall rfl rfl (c_impl_RowFits _ _ _ e3) (.same (.same (.nil))) (hn := ?_); refine .not rfl (hn := ?_); refine .assign (e_bool (!x3)) rfl (hn := .nil (hN2 _ ?_)); obtain rfl := so h; refine .ret .p

def m_slices_IndexFunc_LLimpl_Value_Limpl_Value_j1 (p1 : (List S_impl_Value) → Option Bool)  : Option Int :=
  some (-1 : Int)
def m_slices_IndexFunc_LLimpl_Value_Limpl_Value_l1 (p1 : (List S_impl_Value) → Option Bool) : Nat → (List (List S_impl_Value)) → Int → Int → Option Int
  | 0, _, _, _ => none
  | n1 + 1, t0, t7, t8 =>
    bif decide (t8 < t7) then ((at? t0 t8).bind fun x12 =>
    (p1 x12).bind fun x13 =>
    bif x13 then (some t8)
    else ((ckI (t8 + (1 : Int))).bind fun x16 =>
    (m_slices_IndexFunc_LLimpl_Value_Limpl_Value_l1 p1 n1) t0 t7 x16))
    else (m_slices_IndexFunc_LLimpl_Value_Limpl_Value_j1 p1 )
def m_slices_IndexFunc_LLimpl_Value_Limpl_Value (a0 : (List (List S_impl_Value))) (p1 : (List S_impl_Value) → Option Bool) : Option Int :=
  m_slices_IndexFunc_LLimpl_Value_Limpl_Value_l1 p1 (((a0.length : Int) - (0 : Int)).toNat + 1) a0 (a0.length : Int) (0 : Int)
theorem c_slices_IndexFunc_LLimpl_Value_Limpl_Value (a0 : (List (List S_impl_Value))) (p1 : (List S_impl_Value) → Option Bool) (f1 : FuncId) (q1 : List LV) (hq1 : ∀ k, LV.at?.atL k q1 = false) (hf1 : ∀ a0 v, p1 a0 = some v → Ret Try.prog f1 (e_Limpl_Value a0 :: q1) (e_bool v)) (r : Int) (h : m_slices_IndexFunc_LLimpl_Value_Limpl_Value a0 p1 = some r) : Ret Try.prog f_slices_IndexFunc_LLimpl_Value_Limpl_Value [e_LLimpl_Value a0, .clo f1 q1] (e_int r) := by
  refine Does.goG [] F_slices_IndexFunc_LLimpl_Value_Limpl_Value rfl e_slices_IndexFunc_LLimpl_Value_Limpl_Value n_slices_IndexFunc_LLimpl_Value_Limpl_Value rfl (rvs := [.tmp 4]) rfl rfl ?_; intro w0 ok0 lent ρ0; refine .seq_k fun N1 hN1 => ?_; refine .region (l := [_]) (.assign (e_int (0 : Int)) rfl (hn := .nil (hN1 _ ?_))); refine .join (α := Unit) (fun z : Unit => []) (fun z : Unit => []) (fun z : Unit => m_slices_IndexFunc_LLimpl_Value_Limpl_Value_j1 p1 ) r (fun _ => by simp [hkeys]) ?_ ?_
  ·rintro _ h; replace h : m_slices_IndexFunc_LLimpl_Value_Limpl_Value_j1 p1  = some _ := h; refine .seq_k fun N17 hN17 => ?_; refine .region (l := [_]) (.assign (e_int (-1 : Int)) rfl (hn := .nil (hN17 _ ?_))); obtain rfl := so h; refine .ret .p
  ·intro N2 hN2; refine .seq_k fun N3 hN3 => ?_; refine .region (l := [_,_,_]) (.move (e_LLimpl_Value a0) rfl (hn := .lenM (f := e_Limpl_Value) (l := a0) u_LLimpl_Value rfl (hn := ?_))); refine .move (e_int (0 : Int)) rfl (hn := .nil (hN3 _ ?_)); refine .block ?_; refine .loopM (α := (List (List S_impl_Value)) × Int × Int) (fun z : (List (List S_impl_Value)) × Int × Int => [(0, (e_LLimpl_Value z.1)), (1, (.clo f1 q1)), (7, (e_int z.2.1)), (8, (e_int z.2.2))]) (fun z : (List (List S_impl_Value)) × Int × Int => []) (fun n1 (z : (List (List S_impl_Value)) × Int × Int) => m_slices_IndexFunc_LLimpl_Value_Limpl_Value_l1 p1 n1 z.1 z.2.1 z.2.2) r _ (a0, (a0.length : Int), (0 : Int)) h (fun _ => rfl) (fun _ => by simp [hkeys]) ⟨rfl, rfl, rfl, rfl, trivial⟩ trivial ?_; rintro n1 ⟨t0, t7, t8⟩ h N4 hN4; replace h : m_slices_IndexFunc_LLimpl_Value_Limpl_Value_l1 p1 (n1 + 1) t0 t7 t8 = some _ := h; refine .seq_k fun N6 hN6 => ?_; refine .region (l := [_]) (.int _ rfl rfl rfl (hn := .nil (hN6 _ ?_))); refine .seq_k fun N7 hN7 => ?_; refine .cond_split rfl (fun h8 => ?_) (fun h8 => ?_)
   ·have h := bT h8 h; refine .skip (hN7 _ ?_); refine .seq_k fun N9 hN9 => ?_; refine .block ?_; refine .seq_k fun N10 hN10 => ?_; refine .region (l := [_,_]) (.move (e_int t8) rfl (hn := .assign (e_int t8) rfl (hn := .nil (hN10 _ ?_)))); refine .seq_k fun N11 hN11 => ?_; refine .region (l := [_,_,_,_,_,_]) (.move (.clo f1 q1) rfl (hn := .move (e_LLimpl_Value t0) rfl (hn := .move (e_int t8) rfl (hn := bk h fun x12 e12 h => ?_)))); refine .indexM (f := e_Limpl_Value) e12 u_LLimpl_Value s_Limpl_Value rfl rfl (hn := ?_); refine .load1 (c := (e_Limpl_Value x12)) g_Limpl_Value rfl (hn := bk h fun x13 e13 h => ?_); refine .vcall rfl rfl (hf1 _ _ e13) .refl (hn := ?_); refine .nil (hN11 _ ?_); refine .cond_split rfl (fun h14 => ?_) (fun h14 => ?_)
    ·have h := bT h14 h; refine .seq_k fun N15 hN15 => ?_; refine .region (l := [_,_]) (.move (e_int t8) rfl (hn := .assign (e_int t8) rfl (hn := .nil (hN15 _ ?_)))); obtain rfl := so h; refine .ret .p
    ·have h := bF h14 h; refine .skip (hN9 _ ?_); refine .region (l := [_,_]) (bk h fun x16 e16 h => ?_); refine .int _ rfl rfl (add_ck e16) (hn := .move (e_int x16) rfl (hn := .nil (hN4 (t0, t7, x16) _ ⟨rfl, rfl, rfl, rfl, trivial⟩ trivial h)))
   ·have h := bF h8 h; refine .exit (hN2 () _ trivial trivial h)

def m_slices_ContainsFunc_LLimpl_Value_Limpl_Value (a0 : (List (List S_impl_Value))) (p1 : (List S_impl_Value) → Option Bool) : Option Bool :=
  (m_slices_IndexFunc_LLimpl_Value_Limpl_Value a0 p1).bind fun x3 =>
  some (decide (x3 ≥ (0 : Int)))
theorem c_slices_ContainsFunc_LLimpl_Value_Limpl_Value (a0 : (List (List S_impl_Value))) (p1 : (List S_impl_Value) → Option Bool) (f1 : FuncId) (q1 : List LV) (hq1 : ∀ k, LV.at?.atL k q1 = false) (hf1 : ∀ a0 v, p1 a0 = some v → Ret Try.prog f1 (e_Limpl_Value a0 :: q1) (e_bool v)) (r : Bool) (h : m_slices_ContainsFunc_LLimpl_Value_Limpl_Value a0 p1 = some r) : Ret Try.prog f_slices_ContainsFunc_LLimpl_Value_Limpl_Value [e_LLimpl_Value a0, .clo f1 q1] (e_bool r) := by
  refine Does.goG [] F_slices_ContainsFunc_LLimpl_Value_Limpl_Value rfl e_slices_ContainsFunc_LLimpl_Value_Limpl_Value n_slices_ContainsFunc_LLimpl_Value_Limpl_Value rfl (rvs := [.tmp 4]) rfl rfl ?_; intro w0 ok0 lent ρ0; refine .seq_k fun N1 hN1 => ?_; refine .region (l := [_]) (.assign (e_bool false) rfl (hn := .nil (hN1 _ ?_))); refine .seq_k fun N2 hN2 => ?_; refine .region (l := [_,_,_,_,_]) (.move (e_LLimpl_Value a0) rfl (hn := .move (.clo f1 q1) rfl (hn := bk h fun x3 e3 h => ?_))); refine .vcall rfl rfl (c_slices_IndexFunc_LLimpl_Value_Limpl_Value _ _ f1 q1 hq1 hf1 _ e3) (.same (.same (.nil))) (hn := ?_); refine .int _ rfl rfl rfl (hn := .assign (e_bool (decide (x3 ≥ (0 : Int)))) rfl (hn := .nil (hN2 _ ?_))); obtain rfl := so h; refine .ret .p

def m_impl_RowsOk_j1 (t4 : Bool) : Option Bool :=
  some t4
def m_impl_RowsOk (a0 : (List S_impl_Column)) (a1 : (List (List S_impl_Value))) : Option Bool :=
  (m_impl_ColumnsOk a0).bind fun x3 =>
  bif x3 then ((m_slices_ContainsFunc_LLimpl_Value_Limpl_Value a1 (fun b0_ => m_impl_RowsOk_1 b0_ a0)).bind fun x5 =>
    m_impl_RowsOk_j1  (!x5))
  else (m_impl_RowsOk_j1  false)
theorem c_impl_RowsOk (a0 : (List S_impl_Column)) (a1 : (List (List S_impl_Value))) (r : Bool) (h : m_impl_RowsOk a0 a1 = some r) : Ret Try.prog f_impl_RowsOk [e_Limpl_Column a0, e_LLimpl_Value a1] (e_bool r) := by
  refine Does.goG [] F_impl_RowsOk rfl e_impl_RowsOk n_impl_RowsOk rfl (rvs := [.tmp 4]) rfl rfl ?_; intro w0 ok0 lent ρ0; refine .seq_k fun N1 hN1 => ?_; refine .region (l := [_,_]) (.boxF (e_Limpl_Column a0) rfl rfl rfl (hn := .assign (e_bool false) rfl (hn := .nil (hN1 _ ?_)))); refine .join (α := Bool) (fun z : Bool => [(4, (e_bool z))]) (fun z : Bool => []) (fun z : Bool => m_impl_RowsOk_j1  z) r (fun _ => by simp [hkeys]) ?_ ?_
  ·rintro t4 h; replace h : m_impl_RowsOk_j1  t4 = some _ := h; obtain rfl := so h; refine .ret .p
  ·intro N2 hN2; refine .region (l := [_,_,_,_,_,_,_,_,_]) (.load1 (c := (e_Limpl_Column a0)) g_Limpl_Column rfl (hn := bk h fun x3 e3 h => ?_)); refine .vcall rfl rfl (c_impl_ColumnsOk _ _ e3) (.same (.nil)) (hn := ?_); refine .move (e_bool x3) rfl (hn := .byCases (t := 7) _ rfl (fun h4 => ?_) (fun h4 => ?_))
   ·have h := bT h4 h; refine .gY 7 h4 (.move (e_LLimpl_Value a1) rfl (hn := .gY 7 h4 (.makeFuncM [(.fp (e_Limpl_Column a0).cells)] rfl rfl (hn := ?_)))); refine bk h fun x5 e5 h => ?_; refine .gY 7 h4 (.vcall rfl rfl (c_slices_ContainsFunc_LLimpl_Value_Limpl_Value _ _ f_impl_RowsOk_1 [(.fp (e_Limpl_Column a0).cells)] (fun _ => rfl) (fun b0_ v hv => c_impl_RowsOk_1 b0_ a0 v hv) _ e5) (.same (.same (.nil))) (hn := ?_)); refine .gY 7 h4 (.not rfl (hn := ?_)); refine .pickTM (e_bool (!x5)) rfl h4 rfl (hn := .assign (e_bool (!x5)) rfl (hn := .nil (hN2 (!x5) _ ⟨rfl, trivial⟩ trivial h)))
   ·have h := bF h4 h; refine .gN 7 h4 (.gN 7 h4 (.gN 7 h4 (.gN 7 h4 (.pickFM (e_bool false) rfl h4 rfl (hn := .assign (e_bool false) rfl (hn := .nil (hN2 false _ ⟨rfl, trivial⟩ trivial h)))))))

def m_impl_rising_j2  : Option Bool :=
  some true
def m_impl_rising_j1 (k1 : (List Int) → Int → Int → (List Int) → Int → Int → Option Bool) (t0 : (List Int)) (t1 : Int) (t2 : Int) (t9 : (List Int)) (t10 : Int) (t11 : Int) (t33 : Bool) : Option Bool :=
  bif t33 then (some false)
  else ((ckI (t11 + (1 : Int))).bind fun x20 =>
  k1 t0 t1 t2 t9 t10 x20)
def m_impl_rising_l1 : Nat → (List Int) → Int → Int → (List Int) → Int → Int → Option Bool
  | 0, _, _, _, _, _, _ => none
  | n1 + 1, t0, t1, t2, t9, t10, t11 =>
    bif decide (t11 < t10) then ((at? t9 t11).bind fun x11 =>
    (m_impl_between x11 t1 t2).bind fun x13 =>
    bif (!x13) then (m_impl_rising_j1  (m_impl_rising_l1  n1) t0 t1 t2 t9 t10 t11 true)
    else (bif decide (t11 > (0 : Int)) then ((ckI (t11 - (1 : Int))).bind fun x16 =>
        (at? t0 x16).bind fun x17 =>
        m_impl_rising_j1  (m_impl_rising_l1  n1) t0 t1 t2 t9 t10 t11 (decide (x17 ≥ x11)))
      else (m_impl_rising_j1  (m_impl_rising_l1  n1) t0 t1 t2 t9 t10 t11 false)))
    else (m_impl_rising_j2  )
def m_impl_rising (a0 : (List Int)) (a1 : Int) (a2 : Int) : Option Bool :=
  m_impl_rising_l1  (((a0.length : Int) - (0 : Int)).toNat + 1) a0 a1 a2 a0 (a0.length : Int) (0 : Int)
theorem c_impl_rising (a0 : (List Int)) (a1 : Int) (a2 : Int) (r : Bool) (h : m_impl_rising a0 a1 a2 = some r) : Ret Try.prog f_impl_rising [e_Lint a0, e_int a1, e_int a2] (e_bool r) := by
  refine Does.goG [] F_impl_rising rfl e_impl_rising n_impl_rising rfl (rvs := [.tmp 6]) rfl rfl ?_; intro w0 ok0 lent ρ0; refine .seq_k fun N1 hN1 => ?_; refine .region (l := [_]) (.assign (e_bool false) rfl (hn := .nil (hN1 _ ?_))); refine .join (α := Unit) (fun z : Unit => []) (fun z : Unit => []) (fun z : Unit => m_impl_rising_j2  ) r (fun _ => by simp [hkeys]) ?_ ?_
  ·rintro _ h; replace h : m_impl_rising_j2   = some _ := h; refine .seq_k fun N21 hN21 => ?_; refine .region (l := [_]) (.assign (e_bool true) rfl (hn := .nil (hN21 _ ?_))); obtain rfl := so h; refine .ret .p
  ·intro N2 hN2; refine .seq_k fun N3 hN3 => ?_; refine .region (l := [_,_,_]) (.move (e_Lint a0) rfl (hn := .lenM (f := e_int) (l := a0) u_Lint rfl (hn := ?_))); refine .move (e_int (0 : Int)) rfl (hn := .nil (hN3 _ ?_)); refine .block ?_; refine .loopM (α := (List Int) × Int × Int × (List Int) × Int × Int) (fun z : (List Int) × Int × Int × (List Int) × Int × Int => [(0, (e_Lint z.1)), (1, (e_int z.2.1)), (2, (e_int z.2.2.1)), (9, (e_Lint z.2.2.2.1)), (10, (e_int z.2.2.2.2.1)), (11, (e_int z.2.2.2.2.2))]) (fun z : (List Int) × Int × Int × (List Int) × Int × Int => []) (fun n1 (z : (List Int) × Int × Int × (List Int) × Int × Int) => m_impl_rising_l1  n1 z.1 z.2.1 z.2.2.1 z.2.2.2.1 z.2.2.2.2.1 z.2.2.2.2.2) r _ (a0, a1, a2, a0, (a0.length : Int), (0 : Int)) h (fun _ => rfl) (fun _ => by simp [hkeys]) ⟨rfl, rfl, rfl, rfl, rfl, rfl, trivial⟩ trivial ?_; rintro n1 ⟨t0, t1, t2, t9, t10, t11⟩ h N4 hN4; replace h : m_impl_rising_l1  (n1 + 1) t0 t1 t2 t9 t10 t11 = some _ := h; refine .seq_k fun N6 hN6 => ?_; refine .region (l := [_]) (.int _ rfl rfl rfl (hn := .nil (hN6 _ ?_))); refine .seq_k fun N7 hN7 => ?_; refine .cond_split rfl (fun h8 => ?_) (fun h8 => ?_)
   ·have h := bT h8 h; refine .skip (hN7 _ ?_); refine .seq_k fun N9 hN9 => ?_; refine .block ?_; refine .seq_k fun N10 hN10 => ?_; refine .region (l := [_,_,_,_,_]) (.move (e_int t11) rfl (hn := bk h fun x11 e11 h => ?_)); refine .indexM (f := e_int) e11 u_Lint s_int rfl rfl (hn := ?_); refine .load1 (c := (e_int x11)) g_int rfl (hn := .assign (e_int t11) rfl (hn := .assign (e_int x11) rfl (hn := .nil (hN10 _ ?_)))); refine .join (α := (List Int) × Int × Int × (List Int) × Int × Int × Bool) (fun z : (List Int) × Int × Int × (List Int) × Int × Int × Bool => [(0, (e_Lint z.1)), (1, (e_int z.2.1)), (2, (e_int z.2.2.1)), (9, (e_Lint z.2.2.2.1)), (10, (e_int z.2.2.2.2.1)), (11, (e_int z.2.2.2.2.2.1)), (33, (e_bool z.2.2.2.2.2.2))]) (fun z : (List Int) × Int × Int × (List Int) × Int × Int × Bool => []) (fun z : (List Int) × Int × Int × (List Int) × Int × Int × Bool => m_impl_rising_j1  (m_impl_rising_l1  n1) z.1 z.2.1 z.2.2.1 z.2.2.2.1 z.2.2.2.2.1 z.2.2.2.2.2.1 z.2.2.2.2.2.2) r (fun _ => by simp [hkeys]) ?_ ?_
    ·rintro ⟨t0, t1, t2, t9, t10, t11, t33⟩ h; replace h : m_impl_rising_j1  (m_impl_rising_l1  n1) t0 t1 t2 t9 t10 t11 t33 = some _ := h; refine .cond_split rfl (fun h18 => ?_) (fun h18 => ?_)
     ·have h := bT h18 h; refine .seq_k fun N19 hN19 => ?_; refine .region (l := [_]) (.assign (e_bool false) rfl (hn := .nil (hN19 _ ?_))); obtain rfl := so h; refine .ret .p
     ·have h := bF h18 h; refine .skip (hN9 _ ?_); refine .region (l := [_,_]) (bk h fun x20 e20 h => ?_); refine .int _ rfl rfl (add_ck e20) (hn := .move (e_int x20) rfl (hn := .nil (hN4 (t0, t1, t2, t9, t10, x20) _ ⟨rfl, rfl, rfl, rfl, rfl, rfl, trivial⟩ trivial h)))
    ·intro N12 hN12; refine .region (l := [_,_,_,_,_,_,_,_,_,_,_,_,_,_,_,_,_,_]) (.move (e_int x11) rfl (hn := .move (e_int t1) rfl (hn := .move (e_int t2) rfl (hn := bk h fun x13 e13 h => ?_)))); refine .vcall rfl rfl (c_impl_between _ _ _ _ e13) (.same (.same (.same (.nil)))) (hn := ?_); refine .not rfl (hn := ?_); refine .move (e_bool (!x13)) rfl (hn := .byCases (t := 21) _ rfl (fun h14 => ?_) (fun h14 => ?_))
     ·have h := bT h14 h; refine .gN 21 h14 (.gN 21 h14 (.gN 21 h14 (.gU 24 (.gU 24 (.gU 24 (.gU 24 (.gU 24 (.gU 24 (.gU 24 (.gN 21 h14 (.pickTM (e_bool true) rfl h14 rfl (hn := .nil (hN12 (t0, t1, t2, t9, t10, t11, true) _ ⟨rfl, rfl, rfl, rfl, rfl, rfl, rfl, trivial⟩ trivial h)))))))))))))
     ·have h := bF h14 h; refine .gY 21 h14 (.move (e_int t11) rfl (hn := .gY 21 h14 (.int _ rfl rfl rfl (hn := .gY 21 h14 (.move (e_bool (decide (t11 > (0 : Int)))) rfl (hn := .byCases (t := 24) _ rfl (fun h15 => ?_) (fun h15 => ?_)))))))
      ·have h := bT h15 h; refine .gY 24 h15 (.move (e_Lint t0) rfl (hn := .gY 24 h15 (.move (e_int t11) rfl (hn := bk h fun x16 e16 h => ?_)))); refine .gY 24 h15 (.int _ rfl rfl (sub_ck e16) (hn := bk h fun x17 e17 h => ?_)); refine .gY 24 h15 (.indexM (f := e_int) e17 u_Lint s_int rfl rfl (hn := ?_)); refine .gY 24 h15 (.load1 (c := (e_int x17)) g_int rfl (hn := .gY 24 h15 (.move (e_int x11) rfl (hn := .gY 24 h15 (.int _ rfl rfl rfl (hn := .gY 21 h14 (.pickTM (e_bool (decide (x17 ≥ x11))) rfl h15 rfl (hn := .pickFM (e_bool (decide (x17 ≥ x11))) rfl h14 rfl (hn := .nil (hN12 (t0, t1, t2, t9, t10, t11, decide (x17 ≥ x11)) _ ⟨rfl, rfl, rfl, rfl, rfl, rfl, rfl, trivial⟩ trivial h))))))))))
      ·have h := bF h15 h; refine .gN 24 h15 (.gN 24 h15 (.gN 24 h15 (.gN 24 h15 (.gN 24 h15 (.gN 24 h15 (.gN 24 h15 (.gY 21 h14 (.pickFM (e_bool false) rfl h15 rfl (hn := .pickFM (e_bool false) rfl h14 rfl (hn := .nil (hN12 (t0, t1, t2, t9, t10, t11, false) _ ⟨rfl, rfl, rfl, rfl, rfl, rfl, rfl, trivial⟩ trivial h)))))))))))
   ·have h := bF h8 h; refine .exit (hN2 () _ trivial trivial h)

def m_impl_CutsOk_j1 (t2 : Bool) : Option Bool :=
  some t2
def m_impl_CutsOk (a0 : (List Int)) : Option Bool :=
  bif decide ((a0.length : Int) ≤ (4 : Int)) then ((m_impl_rising a0 (-9999 : Int) (9999 : Int)).bind fun x4 =>
    m_impl_CutsOk_j1  x4)
  else (m_impl_CutsOk_j1  false)
theorem c_impl_CutsOk (a0 : (List Int)) (r : Bool) (h : m_impl_CutsOk a0 = some r) : Ret Try.prog f_impl_CutsOk [e_Lint a0] (e_bool r) := by
  refine Does.goG [] F_impl_CutsOk rfl e_impl_CutsOk n_impl_CutsOk rfl (rvs := [.tmp 2]) rfl rfl ?_; intro w0 ok0 lent ρ0; refine .seq_k fun N1 hN1 => ?_; refine .region (l := [_]) (.assign (e_bool false) rfl (hn := .nil (hN1 _ ?_))); refine .join (α := Bool) (fun z : Bool => [(2, (e_bool z))]) (fun z : Bool => []) (fun z : Bool => m_impl_CutsOk_j1  z) r (fun _ => by simp [hkeys]) ?_ ?_
  ·rintro t2 h; replace h : m_impl_CutsOk_j1  t2 = some _ := h; obtain rfl := so h; refine .ret .p
  ·intro N2 hN2; refine .region (l := [_,_,_,_,_,_,_,_]) (.move (e_Lint a0) rfl (hn := .lenM (f := e_int) (l := a0) u_Lint rfl (hn := ?_))); refine .int _ rfl rfl rfl (hn := .move (e_bool (decide ((a0.length : Int) ≤ (4 : Int)))) rfl (hn := .byCases (t := 6) _ rfl (fun h3 => ?_) (fun h3 => ?_)))
   ·have h := bT h3 h; refine .gY 6 h3 (.move (e_Lint a0) rfl (hn := bk h fun x4 e4 h => ?_)); refine .gY 6 h3 (.vcall rfl rfl (c_impl_rising _ _ _ _ e4) (.same (.same (.same (.nil)))) (hn := ?_)); refine .pickTM (e_bool x4) rfl h3 rfl (hn := .assign (e_bool x4) rfl (hn := .nil (hN2 x4 _ ⟨rfl, trivial⟩ trivial h)))
   ·have h := bF h3 h; refine .gN 6 h3 (.gN 6 h3 (.pickFM (e_bool false) rfl h3 rfl (hn := .assign (e_bool false) rfl (hn := .nil (hN2 false _ ⟨rfl, trivial⟩ trivial h)))))

def m_impl_partsOk_j1 (t8 : Bool) : Option Bool :=
  some t8
def m_impl_partsOk (a0 : (List S_impl_Column)) (a1 : (List (List S_impl_Value))) (a2 : Int) (a3 : (List Int)) : Option Bool :=
  (m_impl_ColumnsOk a0).bind fun x3 =>
  bif x3 then ((m_impl_RowsOk a0 a1).bind fun x5 =>
    bif x5 then ((ckI ((a0.length : Int) - (1 : Int))).bind fun x7 =>
      (m_impl_between a2 (0 : Int) x7).bind fun x8 =>
      bif x8 then ((at? a0 a2).bind fun x10 =>
        bif (x10.Kind == (1 : Int)) then ((m_impl_CutsOk a3).bind fun x12 =>
          m_impl_partsOk_j1  x12)
        else (m_impl_partsOk_j1  false))
      else (m_impl_partsOk_j1  false))
    else (m_impl_partsOk_j1  false))
  else (m_impl_partsOk_j1  false)
theorem c_impl_partsOk (a0 : (List S_impl_Column)) (a1 : (List (List S_impl_Value))) (a2 : Int) (a3 : (List Int)) (r : Bool) (h : m_impl_partsOk a0 a1 a2 a3 = some r) : Ret Try.prog f_impl_partsOk [e_Limpl_Column a0, e_LLimpl_Value a1, e_int a2, e_Lint a3] (e_bool r) := by
  refine Does.goG [] F_impl_partsOk rfl e_impl_partsOk n_impl_partsOk rfl (rvs := [.tmp 8]) rfl rfl ?_; intro w0 ok0 lent ρ0; refine .seq_k fun N1 hN1 => ?_; refine .region (l := [_]) (.assign (e_bool false) rfl (hn := .nil (hN1 _ ?_))); refine .join (α := Bool) (fun z : Bool => [(8, (e_bool z))]) (fun z : Bool => []) (fun z : Bool => m_impl_partsOk_j1  z) r (fun _ => by simp [hkeys]) ?_ ?_
  ·rintro t8 h; replace h : m_impl_partsOk_j1  t8 = some _ := h; obtain rfl := so h; refine .ret .p
  ·intro N2 hN2; refine .region (l := [_,_,_,_,_,_,_,_,_,_,_,_,_,_,_,_,_,_,_,_,_,_,_,_,_,_,_]) (.move (e_Limpl_Column a0) rfl (hn := bk h fun x3 e3 h => ?_)); refine .vcall rfl rfl (c_impl_ColumnsOk _ _ e3) (.same (.nil)) (hn := ?_); refine .move (e_bool x3) rfl (hn := .byCases (t := 11) _ rfl (fun h4 => ?_) (fun h4 => ?_))
   ·have h := bT h4 h; refine .gY 11 h4 (.move (e_Limpl_Column a0) rfl (hn := .gY 11 h4 (.move (e_LLimpl_Value a1) rfl (hn := bk h fun x5 e5 h => ?_)))); refine .gY 11 h4 (.vcall rfl rfl (c_impl_RowsOk _ _ _ e5) (.same (.same (.nil))) (hn := ?_)); refine .pickTM (e_bool x5) rfl h4 rfl (hn := .move (e_bool x5) rfl (hn := .byCases (t := 16) _ rfl (fun h6 => ?_) (fun h6 => ?_)))
    ·have h := bT h6 h; refine .gY 16 h6 (.move (e_int a2) rfl (hn := .gY 16 h6 (.move (e_Limpl_Column a0) rfl (hn := .gY 16 h6 (.lenM (f := e_impl_Column) (l := a0) u_Limpl_Column rfl (hn := ?_)))))); refine bk h fun x7 e7 h => ?_; refine .gY 16 h6 (.int _ rfl rfl (sub_ck e7) (hn := bk h fun x8 e8 h => ?_)); refine .gY 16 h6 (.vcall rfl rfl (c_impl_between _ _ _ _ e8) (.same (.same (.same (.nil)))) (hn := ?_)); refine .pickTM (e_bool x8) rfl h6 rfl (hn := .move (e_bool x8) rfl (hn := .byCases (t := 23) _ rfl (fun h9 => ?_) (fun h9 => ?_)))
     ·have h := bT h9 h; refine .gY 23 h9 (.move (e_Limpl_Column a0) rfl (hn := .gY 23 h9 (.move (e_int a2) rfl (hn := bk h fun x10 e10 h => ?_)))); refine .gY 23 h9 (.indexM (f := e_impl_Column) e10 u_Limpl_Column s_impl_Column rfl rfl (hn := ?_)); refine .gY 23 h9 (.fieldAddr _ u_impl_Column rfl s_int rfl rfl (hn := .gY 23 h9 (.load1 (c := (e_int x10.Kind)) g_int rfl (hn := .gY 23 h9 (.int _ rfl rfl rfl (hn := .pickTM (e_bool (x10.Kind == (1 : Int))) rfl h9 rfl (hn := .move (e_bool (x10.Kind == (1 : Int))) rfl (hn := .byCases (t := 31) _ rfl (fun h11 => ?_) (fun h11 => ?_)))))))))
      ·have h := bT h11 h; refine .gY 31 h11 (.move (e_Lint a3) rfl (hn := bk h fun x12 e12 h => ?_)); refine .gY 31 h11 (.vcall rfl rfl (c_impl_CutsOk _ _ e12) (.same (.nil)) (hn := ?_)); refine .pickTM (e_bool x12) rfl h11 rfl (hn := .assign (e_bool x12) rfl (hn := .nil (hN2 x12 _ ⟨rfl, trivial⟩ trivial h)))
      ·have h := bF h11 h; refine .gN 31 h11 (.gN 31 h11 (.pickFM (e_bool false) rfl h11 rfl (hn := .assign (e_bool false) rfl (hn := .nil (hN2 false _ ⟨rfl, trivial⟩ trivial h)))))
     ·have h := bF h9 h; refine .gN 23 h9 (.gN 23 h9 (.gN 23 h9 (.gN 23 h9 (.gN 23 h9 (.gN 23 h9 (.pickFM (e_bool false) rfl h9 rfl (hn := .move (e_bool false) rfl (hn := .gN 31 rfl (.gN 31 rfl (.pickFM (e_bool false) rfl rfl rfl (hn := .assign (e_bool false) rfl (hn := .nil (hN2 false _ ⟨rfl, trivial⟩ trivial h)))))))))))))
    ·have h := bF h6 h; refine .gN 16 h6 (.gN 16 h6 (.gN 16 h6 (.gN 16 h6 (.gN 16 h6 (.pickFM (e_bool false) rfl h6 rfl (hn := .move (e_bool false) rfl (hn := .gN 23 rfl (.gN 23 rfl (.gN 23 rfl (.gN 23 rfl (.gN 23 rfl (.gN 23 rfl (.pickFM (e_bool false) rfl rfl rfl (hn := .move (e_bool false) rfl (hn := .gN 31 rfl (.gN 31 rfl (.pickFM (e_bool false) rfl rfl rfl (hn := .assign (e_bool false) rfl (hn := .nil (hN2 false _ ⟨rfl, trivial⟩ trivial h))))))))))))))))))))
   ·have h := bF h4 h; refine .gN 11 h4 (.gN 11 h4 (.gN 11 h4 (.pickFM (e_bool false) rfl h4 rfl (hn := .move (e_bool false) rfl (hn := .gN 16 rfl (.gN 16 rfl (.gN 16 rfl (.gN 16 rfl (.gN 16 rfl (.pickFM (e_bool false) rfl rfl rfl (hn := .move (e_bool false) rfl (hn := .gN 23 rfl (.gN 23 rfl (.gN 23 rfl (.gN 23 rfl (.gN 23 rfl (.gN 23 rfl (.pickFM (e_bool false) rfl rfl rfl (hn := .move (e_bool false) rfl (hn := .gN 31 rfl (.gN 31 rfl (.pickFM (e_bool false) rfl rfl rfl (hn := .assign (e_bool false) rfl (hn := .nil (hN2 false _ ⟨rfl, trivial⟩ trivial h)))))))))))))))))))))))))

def m_slices_Clone_Lint_int (a0 : (List Int)) : Option (List Int) :=
  nilM a0 fun b4 =>
  bif b4 then (some ([] : (List Int)))
  else ((app? ([] : (List Int)) a0).bind fun x8 =>
  some x8)
theorem c_slices_Clone_Lint_int (a0 : (List Int)) (r : (List Int)) (h : m_slices_Clone_Lint_int a0 = some r) : Ret Try.prog f_slices_Clone_Lint_int [e_Lint a0] (.nw 1 (r.map e_int) false) := by
  refine Does.goG [] F_slices_Clone_Lint_int rfl e_slices_Clone_Lint_int n_slices_Clone_Lint_int rfl (rvs := [.tmp 2]) rfl rfl ?_; intro w0 ok0 lent ρ0; refine .seq_k fun N1 hN1 => ?_; refine .region (l := [_]) (.assign _ rfl (hn := .ownNil 2 1002 1 rfl rfl rfl ?_)); refine .known 2 (.own 1002 0 ([] : (List Int)).length) rfl ?_; refine .nil (hN1 _ ?_); refine .seq_k fun N2 hN2 => ?_; refine .seq_k fun N3 hN3 => ?_; refine .region (l := [_,_]) (.move (e_Lint a0) rfl (hn := .nilEq (f := e_int) u_Lint rfl rfl (hn := fun b4 e4 => nkb h b4 e4 fun h => ?_))); refine .nil (hN3 _ ?_); refine .cond_split rfl (fun h5 => ?_) (fun h5 => ?_)
  ·have h := bT h5 h; refine .seq_k fun N6 hN6 => ?_; refine .region (l := [_]) (.assign _ rfl (hn := .ownNil 2 1002 1 rfl rfl rfl ?_)); refine .known 2 (.own 1002 0 ([] : (List Int)).length) rfl ?_; refine .nil (hN6 _ ?_); obtain rfl := so h; refine .ret (QG.mk (.inr rfl) (.cons (.tmp (x := (.own 1002 0 (([] : (List Int))).length)) rfl) (.nil)) (RetOK.one0 (.nwM rfl rfl) (by decide)) rfl rfl)
  ·have h := bF h5 h; refine .skip (hN2 _ ?_); refine .seq_k fun N7 hN7 => ?_; refine .region (l := [_,_,_,_]) (.lit0 1005 u_Lint s_int z_int (hn := ?_)); refine .known 5 (.own 1005 0 ([] : (List Int)).length) rfl ?_; refine .move (e_Lint a0) rfl (hn := bk h fun x8 e8 h => ?_); refine .appendM (f := e_int) e8 rfl u_Lint u_Lint (fun _ h => by cases h) s_int i_int rfl rfl rfl (.sl rfl) rfl rfl (hn := ?_); refine .assign (.own 1005 0 (x8).length) rfl (hn := .nil (hN7 _ ?_)); obtain rfl := so h; refine .ret (QG.mk (.inr rfl) (.cons (.tmp (x := (.own 1005 0 (x8).length)) rfl) (.nil)) (RetOK.one0 (.nwM rfl rfl) (by decide)) rfl rfl)

def m_impl_below_1 (a0 : Int) (a1 : Int) : Option Bool :=
  some (decide (a0 > a1))
theorem c_impl_below_1 (a0 : Int) (a1 : Int) (r : Bool) (h : m_impl_below_1 a0 a1 = some r) : Ret Try.prog f_impl_below_1 [e_int a0, .fp (e_int a1).cells] (e_bool r) := by
  refine Does.goG [] F_impl_below_1 rfl e_impl_below_1 n_impl_below_1 rfl (rvs := [.tmp 3]) rfl rfl ?_; intro w0 ok0 lent ρ0; refine .seq_k fun N1 hN1 => ?_; refine .region (l := [_]) (.assign (e_bool false) rfl (hn := .nil (hN1 _ ?_))); refine .seq_k fun N2 hN2 => ?_; refine .region (l := [_,_,_,_]) (.move (e_int a0) rfl (hn := .load1 (c := (e_int a1)) g_int rfl (hn := .int _ rfl rfl rfl (hn := .assign (e_bool (decide (a0 > a1))) rfl (hn := .nil (hN2 _ ?_)))))); obtain rfl := so h; refine .ret .p

def m_slices_IndexFunc_Lint_int_j1 (p1 : Int → Option Bool)  : Option Int :=
  some (-1 : Int)
def m_slices_IndexFunc_Lint_int_l1 (p1 : Int → Option Bool) : Nat → (List Int) → Int → Int → Option Int
  | 0, _, _, _ => none
  | n1 + 1, t0, t7, t8 =>
    bif decide (t8 < t7) then ((at? t0 t8).bind fun x12 =>
    (p1 x12).bind fun x13 =>
    bif x13 then (some t8)
    else ((ckI (t8 + (1 : Int))).bind fun x16 =>
    (m_slices_IndexFunc_Lint_int_l1 p1 n1) t0 t7 x16))
    else (m_slices_IndexFunc_Lint_int_j1 p1 )
def m_slices_IndexFunc_Lint_int (a0 : (List Int)) (p1 : Int → Option Bool) : Option Int :=
  m_slices_IndexFunc_Lint_int_l1 p1 (((a0.length : Int) - (0 : Int)).toNat + 1) a0 (a0.length : Int) (0 : Int)
theorem c_slices_IndexFunc_Lint_int (a0 : (List Int)) (p1 : Int → Option Bool) (f1 : FuncId) (q1 : List LV) (hq1 : ∀ k, LV.at?.atL k q1 = false) (hf1 : ∀ a0 v, p1 a0 = some v → Ret Try.prog f1 (e_int a0 :: q1) (e_bool v)) (r : Int) (h : m_slices_IndexFunc_Lint_int a0 p1 = some r) : Ret Try.prog f_slices_IndexFunc_Lint_int [e_Lint a0, .clo f1 q1] (e_int r) := by
  refine Does.goG [] F_slices_IndexFunc_Lint_int rfl e_slices_IndexFunc_Lint_int n_slices_IndexFunc_Lint_int rfl (rvs := [.tmp 4]) rfl rfl ?_; intro w0 ok0 lent ρ0; refine .seq_k fun N1 hN1 => ?_; refine .region (l := [_]) (.assign (e_int (0 : Int)) rfl (hn := .nil (hN1 _ ?_))); refine .join (α := Unit) (fun z : Unit => []) (fun z : Unit => []) (fun z : Unit => m_slices_IndexFunc_Lint_int_j1 p1 ) r (fun _ => by simp [hkeys]) ?_ ?_
  ·rintro _ h; replace h : m_slices_IndexFunc_Lint_int_j1 p1  = some _ := h; refine .seq_k fun N17 hN17 => ?_; refine .region (l := [_]) (.assign (e_int (-1 : Int)) rfl (hn := .nil (hN17 _ ?_))); obtain rfl := so h; refine .ret .p
  ·intro N2 hN2; refine .seq_k fun N3 hN3 => ?_; refine .region (l := [_,_,_]) (.move (e_Lint a0) rfl (hn := .lenM (f := e_int) (l := a0) u_Lint rfl (hn := ?_))); refine .move (e_int (0 : Int)) rfl (hn := .nil (hN3 _ ?_)); refine .block ?_; refine .loopM (α := (List Int) × Int × Int) (fun z : (List Int) × Int × Int => [(0, (e_Lint z.1)), (1, (.clo f1 q1)), (7, (e_int z.2.1)), (8, (e_int z.2.2))]) (fun z : (List Int) × Int × Int => []) (fun n1 (z : (List Int) × Int × Int) => m_slices_IndexFunc_Lint_int_l1 p1 n1 z.1 z.2.1 z.2.2) r _ (a0, (a0.length : Int), (0 : Int)) h (fun _ => rfl) (fun _ => by simp [hkeys]) ⟨rfl, rfl, rfl, rfl, trivial⟩ trivial ?_; rintro n1 ⟨t0, t7, t8⟩ h N4 hN4; replace h : m_slices_IndexFunc_Lint_int_l1 p1 (n1 + 1) t0 t7 t8 = some _ := h; refine .seq_k fun N6 hN6 => ?_; refine .region (l := [_]) (.int _ rfl rfl rfl (hn := .nil (hN6 _ ?_))); refine .seq_k fun N7 hN7 => ?_; refine .cond_split rfl (fun h8 => ?_) (fun h8 => ?_)
   ·have h := bT h8 h; refine .skip (hN7 _ ?_); refine .seq_k fun N9 hN9 => ?_; refine .block ?_; refine .seq_k fun N10 hN10 => ?_; refine .region (l := [_,_]) (.move (e_int t8) rfl (hn := .assign (e_int t8) rfl (hn := .nil (hN10 _ ?_)))); refine .seq_k fun N11 hN11 => ?_; refine .region (l := [_,_,_,_,_,_]) (.move (.clo f1 q1) rfl (hn := .move (e_Lint t0) rfl (hn := .move (e_int t8) rfl (hn := bk h fun x12 e12 h => ?_)))); refine .indexM (f := e_int) e12 u_Lint s_int rfl rfl (hn := ?_); refine .load1 (c := (e_int x12)) g_int rfl (hn := bk h fun x13 e13 h => ?_); refine .vcall rfl rfl (hf1 _ _ e13) .refl (hn := ?_); refine .nil (hN11 _ ?_); refine .cond_split rfl (fun h14 => ?_) (fun h14 => ?_)
    ·have h := bT h14 h; refine .seq_k fun N15 hN15 => ?_; refine .region (l := [_,_]) (.move (e_int t8) rfl (hn := .assign (e_int t8) rfl (hn := .nil (hN15 _ ?_)))); obtain rfl := so h; refine .ret .p
    ·have h := bF h14 h; refine .skip (hN9 _ ?_); refine .region (l := [_,_]) (bk h fun x16 e16 h => ?_); refine .int _ rfl rfl (add_ck e16) (hn := .move (e_int x16) rfl (hn := .nil (hN4 (t0, t7, x16) _ ⟨rfl, rfl, rfl, rfl, trivial⟩ trivial h)))
   ·have h := bF h8 h; refine .exit (hN2 () _ trivial trivial h)

def m_slices_DeleteFunc_Lint_int_j2 (p1 : Int → Option Bool) (t5 : Int) (o1000 : (List Int)) : Option (List Int) :=
  (rng? t5 ((o1000).length : Int) ((o1000).length)).bind fun u30 =>
  (rng? (0 : Int) t5 ((o1000).length)).bind fun u32 =>
  (leN ((t5).toNat) (o1000.take (0 + (t5).toNat)).length).bind fun u33 =>
  some ((o1000.take (0 + (t5).toNat)).take ((t5).toNat))
def m_slices_DeleteFunc_Lint_int_j1 (p1 : Int → Option Bool) (k1 : Int → Int → (List Int) → Option (List Int)) (t5 : Int) (t6 : Int) (o1000 : (List Int)) : Option (List Int) :=
  (ckI (t6 + (1 : Int))).bind fun x28 =>
  k1 t5 x28 o1000
def m_slices_DeleteFunc_Lint_int_l1 (p1 : Int → Option Bool) : Nat → Int → Int → (List Int) → Option (List Int)
  | 0, _, _, _ => none
  | n1 + 1, t5, t6, o1000 =>
    bif decide (t6 < (o1000.length : Int)) then ((at? o1000 t6).bind fun x18 =>
    (at? o1000 t6).bind fun x19 =>
    (p1 x19).bind fun x21 =>
    bif (!x21) then ((at? o1000 t5).bind fun x24 =>
      (at? o1000 t5).bind fun x25 =>
      lt (x19) fun y26 =>
      (ckI (t5 + (1 : Int))).bind fun x27 =>
      m_slices_DeleteFunc_Lint_int_j1 p1 (m_slices_DeleteFunc_Lint_int_l1 p1 n1) x27 t6 (o1000.set (t5).toNat y26))
    else (m_slices_DeleteFunc_Lint_int_j1 p1 (m_slices_DeleteFunc_Lint_int_l1 p1 n1) t5 t6 o1000))
    else (m_slices_DeleteFunc_Lint_int_j2 p1 t5 o1000)
def m_slices_DeleteFunc_Lint_int (o0 : (List Int)) (p1 : Int → Option Bool) : Option (List Int) :=
  (m_slices_IndexFunc_Lint_int o0 p1).bind fun x3 =>
  bif (x3 == (-1 : Int)) then (some o0)
  else ((ckI (x3 + (1 : Int))).bind fun x10 =>
  m_slices_DeleteFunc_Lint_int_l1 p1 (((o0.length : Int) - x10).toNat + 1) x3 x10 o0)
theorem c_slices_DeleteFunc_Lint_int (o0 : (List Int)) (p1 : Int → Option Bool) (f1 : FuncId) (q1 : List LV) (hq1 : ∀ k, LV.at?.atL k q1 = false) (hf1 : ∀ a0 v, p1 a0 = some v → Ret Try.prog f1 (e_int a0 :: q1) (e_bool v)) (r : (List Int)) (h : m_slices_DeleteFunc_Lint_int o0 p1 = some r) : Does Try.prog f_slices_DeleteFunc_Lint_int [.own 0 0 o0.length, .clo f1 q1] [(0, (lob 1 e_int o0))] (fun x hh => x = .nw 1 (r.map e_int) false ∧ hh = []) := by
  refine Does.goG [0] F_slices_DeleteFunc_Lint_int rfl e_slices_DeleteFunc_Lint_int n_slices_DeleteFunc_Lint_int rfl (rvs := [.tmp 4]) rfl rfl ?_; intro w0 ok0 lent ρ0; refine .rekey 0 0 1000 rfl rfl rfl rfl rfl rfl ?_; refine .tell [(0, (.own 1000 0 (o0).length)), (1, (.clo f1 q1))] [(1000, (lob 1 e_int o0))] ⟨rfl, get_kill_of (get_kill_of rfl (hq1 1000)) (hq1 0), trivial⟩ ⟨rfl, trivial⟩ (by simp [hkeys]) ?_; refine .seq_k fun N1 hN1 => ?_; refine .region (l := [_]) (.assign _ rfl (hn := .ownNil 4 1004 1 rfl rfl rfl ?_)); refine .known 1 (.clo f1 q1) (get_kill_of rfl (hq1 1004)) ?_; refine .known 4 (.own 1004 0 ([] : (List Int)).length) rfl ?_; refine .nil (hN1 _ ?_); refine .seq_k fun N2 hN2 => ?_; refine .region (l := [_,_,_,_]) (.move (.own 1000 0 (o0).length) rfl (hn := .move (.clo f1 q1) rfl (hn := bk h fun x3 e3 h => ?_))); refine .wcall rfl rfl (c_slices_IndexFunc_Lint_int _ _ f1 q1 hq1 hf1 _ e3) (.viewM rfl rfl rfl (.same (.nil))) rfl (hn := ?_); refine .assign (e_int x3) rfl (hn := .nil (hN2 _ ?_)); refine .seq_k fun N4 hN4 => ?_; refine .seq_k fun N5 hN5 => ?_; refine .region (l := [_,_]) (.move (e_int x3) rfl (hn := .int _ rfl rfl rfl (hn := .nil (hN5 _ ?_)))); refine .cond_split rfl (fun h6 => ?_) (fun h6 => ?_)
  ·have h := bT h6 h; refine .seq_k fun N7 hN7 => ?_; refine .region (l := [_,_]) (.move (.own 1000 0 (o0).length) rfl (hn := .assign (.own 1000 0 (o0).length) rfl (hn := .nil (hN7 _ ?_)))); obtain rfl := so h; refine .ret (QG.mk (.inr rfl) (.cons (.tmp (x := (.own 1000 0 (o0).length)) rfl) (.nil)) (RetOK.one0 (.nwM rfl rfl) (by decide)) rfl rfl)
  ·have h := bF h6 h; refine .skip (hN4 _ ?_); refine .join (α := Int × (List Int)) (fun z : Int × (List Int) => [(0, (.own 1000 0 (z.2).length)), (5, (e_int z.1))]) (fun z : Int × (List Int) => [(1000, (lob 1 e_int z.2))]) (fun z : Int × (List Int) => m_slices_DeleteFunc_Lint_int_j2 p1 z.1 z.2) r (fun _ => by simp [hkeys]) ?_ ?_
   ·rintro ⟨t5, o1000⟩ h; replace h : m_slices_DeleteFunc_Lint_int_j2 p1 t5 o1000 = some _ := h; refine .seq_k fun N29 hN29 => ?_; refine .region (l := [_,_,_,_]) (.move (.own 1000 0 (o1000).length) rfl (hn := .move (e_int t5) rfl (hn := bk h fun u30 e30 h => ?_))); refine .cutOM e30 u_Lint s_int rfl rfl ⟨_, rfl⟩ rfl (hn := ?_); refine .clearO (f := e_int) (l := o1000) none u_Lint z_int rfl rfl rfl rfl rfl (hn := ?_); refine .nil (hN29 _ ?_); refine .seq_k fun N31 hN31 => ?_; refine .region (l := [_,_,_,_]) (.move (.own 1000 0 ((o1000).length)) rfl (hn := .move (e_int t5) rfl (hn := bk h fun u32 e32 h => ?_))); refine .cutOM e32 u_Lint s_int rfl rfl rfl ⟨_, rfl⟩ (hn := ?_); refine .assign (.own 1000 0 ((t5).toNat)) rfl (hn := .nil (hN31 _ ?_)); refine bk h fun u33 e33 h => ?_; obtain rfl := so h; refine .ret (QG.mk (.inr rfl) (.cons (.tmp (x := (.own 1000 0 ((t5).toNat))) rfl) (.nil)) (RetOK.one0 (.nwT (leN_b e33) rfl) (by decide)) rfl rfl)
   ·intro N8 hN8; refine .seq_k fun N9 hN9 => ?_; refine .region (l := [_,_,_]) (.move (e_int x3) rfl (hn := bk h fun x10 e10 h => ?_)); refine .int _ rfl rfl (add_ck e10) (hn := .assign (e_int x10) rfl (hn := .nil (hN9 _ ?_))); refine .block ?_; refine .loopM (α := Int × Int × (List Int)) (fun z : Int × Int × (List Int) => [(0, (.own 1000 0 (z.2.2).length)), (1, (.clo f1 q1)), (5, (e_int z.1)), (6, (e_int z.2.1))]) (fun z : Int × Int × (List Int) => [(1000, (lob 1 e_int z.2.2))]) (fun n1 (z : Int × Int × (List Int)) => m_slices_DeleteFunc_Lint_int_l1 p1 n1 z.1 z.2.1 z.2.2) r _ (x3, x10, o0) h (fun _ => rfl) (fun _ => by simp [hkeys]) ⟨rfl, rfl, rfl, rfl, trivial⟩ ⟨rfl, trivial⟩ ?_; rintro n1 ⟨t5, t6, o1000⟩ h N11 hN11; replace h : m_slices_DeleteFunc_Lint_int_l1 p1 (n1 + 1) t5 t6 o1000 = some _ := h; refine .seq_k fun N13 hN13 => ?_; refine .seq_k fun N14 hN14 => ?_; refine .region (l := [_,_,_,_]) (.move (e_int t6) rfl (hn := .move (.own 1000 0 (o1000).length) rfl (hn := .lenO u_Lint rfl (hn := ?_)))); refine .int _ rfl rfl rfl (hn := .nil (hN14 _ ?_)); refine .cond_split rfl (fun h15 => ?_) (fun h15 => ?_)
    ·have h := bT h15 h; refine .skip (hN13 _ ?_); refine .join (α := Int × Int × (List Int)) (fun z : Int × Int × (List Int) => [(0, (.own 1000 0 (z.2.2).length)), (1, (.clo f1 q1)), (5, (e_int z.1)), (6, (e_int z.2.1))]) (fun z : Int × Int × (List Int) => [(1000, (lob 1 e_int z.2.2))]) (fun z : Int × Int × (List Int) => m_slices_DeleteFunc_Lint_int_j1 p1 (m_slices_DeleteFunc_Lint_int_l1 p1 n1) z.1 z.2.1 z.2.2) r (fun _ => by simp [hkeys]) ?_ ?_
     ·rintro ⟨t5, t6, o1000⟩ h; replace h : m_slices_DeleteFunc_Lint_int_j1 p1 (m_slices_DeleteFunc_Lint_int_l1 p1 n1) t5 t6 o1000 = some _ := h; refine .region (l := [_,_,_]) (.move (e_int t6) rfl (hn := bk h fun x28 e28 h => ?_)); refine .int _ rfl rfl (add_ck e28) (hn := .assign (e_int x28) rfl (hn := .nil (hN11 (t5, x28, o1000) _ ⟨rfl, rfl, rfl, rfl, trivial⟩ ⟨rfl, trivial⟩ h)))
     ·intro N16 hN16; refine .block ?_; refine .seq_k fun N17 hN17 => ?_; refine .region (l := [_,_,_,_,_]) (.move (.own 1000 0 (o1000).length) rfl (hn := .move (e_int t6) rfl (hn := bk h fun x18 e18 h => ?_))); refine .indexO e18 rfl u_Lint s_int rfl rfl rfl (hn := ?_); refine bk h fun x19 e19 h => ?_; refine .loadO1 (e_int x19) e19 g_int rfl rfl rfl (hn := ?_); refine .assign (e_int x19) rfl (hn := .nil (hN17 _ ?_)); refine .seq_k fun N20 hN20 => ?_; refine .region (l := [_,_,_,_]) (.move (.clo f1 q1) rfl (hn := .move (e_int x19) rfl (hn := bk h fun x21 e21 h => ?_))); refine .vcall rfl rfl (hf1 _ _ e21) .refl (hn := ?_); refine .not rfl (hn := ?_); refine .nil (hN20 _ ?_); refine .cond_split rfl (fun h22 => ?_) (fun h22 => ?_)
      ·have h := bT h22 h; refine .seq_k fun N23 hN23 => ?_; refine .region (l := [_,_,_,_,_]) (.move (.own 1000 0 (o1000).length) rfl (hn := .move (e_int t5) rfl (hn := .move (e_int x19) rfl (hn := bk h fun x24 e24 h => ?_)))); refine .indexO e24 rfl u_Lint s_int rfl rfl rfl (hn := ?_); refine bk h fun x25 e25 h => ?_; refine lk h fun y26 e26 h => ?_; refine .storeO y26 e25 s_int rfl rfl rfl rfl rfl rfl rfl (by rw [e26]; rfl) (hn := ?_); refine .nil (hN23 _ ?_); refine .region (l := [_,_,_]) (.move (e_int t5) rfl (hn := bk h fun x27 e27 h => ?_)); refine .int _ rfl rfl (add_ck e27) (hn := .assign (e_int x27) rfl (hn := .nil (hN16 (x27, t6, (o1000.set (t5).toNat y26)) _ ⟨(congrArg (LV.own 1000 0) List.length_set.symm), rfl, rfl, rfl, trivial⟩ ⟨rfl, trivial⟩ h)))
      ·have h := bF h22 h; refine .skip (hN16 (t5, t6, o1000) _ ⟨rfl, rfl, rfl, rfl, trivial⟩ ⟨rfl, trivial⟩ h)
    ·have h := bF h15 h; refine .exit (hN8 (t5, o1000) _ ⟨rfl, rfl, trivial⟩ ⟨rfl, trivial⟩ h)

def m_impl_below (a0 : (List Int)) (a1 : Int) : Option Int :=
  (m_slices_Clone_Lint_int a0).bind fun x3 =>
  (m_slices_DeleteFunc_Lint_int x3 (fun b0_ => m_impl_below_1 b0_ a1)).bind fun x4 =>
  some (x4.length : Int)
theorem c_impl_below (a0 : (List Int)) (a1 : Int) (r : Int) (h : m_impl_below a0 a1 = some r) : Ret Try.prog f_impl_below [e_Lint a0, e_int a1] (e_int r) := by
  refine Does.goG [] F_impl_below rfl e_impl_below n_impl_below rfl (rvs := [.tmp 4]) rfl rfl ?_; intro w0 ok0 lent ρ0; refine .seq_k fun N1 hN1 => ?_; refine .region (l := [_,_]) (.boxF (e_int a1) rfl rfl rfl (hn := .assign (e_int (0 : Int)) rfl (hn := .nil (hN1 _ ?_)))); refine .seq_k fun N2 hN2 => ?_; refine .region (l := [_,_,_,_,_,_]) (.move (e_Lint a0) rfl (hn := bk h fun x3 e3 h => ?_)); refine .ncall (e := e_int) 1006 rfl rfl (c_slices_Clone_Lint_int _ _ e3) (.same (.nil)) rfl (hn := ?_); refine .makeFuncM [(.fp (e_int a1).cells)] rfl rfl (hn := ?_); refine bk h fun x4 e4 h => ?_; refine .tcallN (e := e_int) (e' := e_int) 1008 rfl rfl (c_slices_DeleteFunc_Lint_int _ _ f_impl_below_1 [(.fp (e_int a1).cells)] (fun _ => rfl) (fun b0_ v hv => c_impl_below_1 b0_ a1 v hv) _ e4) (fun _ => rfl) rfl rfl rfl rfl (hn := ?_); refine .lenO u_Lint rfl (hn := ?_); refine .assign (e_int (x4.length : Int)) rfl (hn := .nil (hN2 _ ?_)); obtain rfl := so h; refine .ret .p

def m_impl_PartOf_j1 (t0 : (List Int)) (t3 : S_impl_Value) (t5 : Bool) : Option Int :=
  bif t5 then (some (-1 : Int))
  else (bif (t3.Kind == (0 : Int)) then (some (0 : Int))
    else (bif (t3.Kind == (1 : Int)) then ((m_impl_below t0 t3.N).bind fun x15 =>
        some x15)
      else (some (-1 : Int))))
def m_impl_PartOf (a0 : (List Int)) (a1 : S_impl_Value) : Option Int :=
  (m_impl_CutsOk a0).bind fun x4 =>
  bif (!x4) then (m_impl_PartOf_j1  a0 a1 true)
  else ((m_impl_Value_ok a1).bind fun x6 =>
    m_impl_PartOf_j1  a0 a1 (!x6))
theorem c_impl_PartOf (a0 : (List Int)) (a1 : S_impl_Value) (r : Int) (h : m_impl_PartOf a0 a1 = some r) : Ret Try.prog f_impl_PartOf [e_Lint a0, e_impl_Value a1] (e_int r) := by
  refine Does.goG [] F_impl_PartOf rfl e_impl_PartOf n_impl_PartOf rfl (rvs := [.tmp 4]) rfl rfl ?_; intro w0 ok0 lent ρ0; refine .seq_k fun N1 hN1 => ?_; refine .region (l := [_,_]) (.boxF (e_impl_Value a1) rfl rfl rfl (hn := .assign (e_int (0 : Int)) rfl (hn := .nil (hN1 _ ?_)))); refine .seq_k fun N2 hN2 => ?_; refine .block ?_; refine .join (α := (List Int) × S_impl_Value × Bool) (fun z : (List Int) × S_impl_Value × Bool => [(0, (e_Lint z.1)), (3, (.fp (e_impl_Value z.2.1).cells)), (5, (e_bool z.2.2))]) (fun z : (List Int) × S_impl_Value × Bool => []) (fun z : (List Int) × S_impl_Value × Bool => m_impl_PartOf_j1  z.1 z.2.1 z.2.2) r (fun _ => by simp [hkeys]) ?_ ?_
  ·rintro ⟨t0, t3, t5⟩ h; replace h : m_impl_PartOf_j1  t0 t3 t5 = some _ := h; refine .cond_split rfl (fun h7 => ?_) (fun h7 => ?_)
   ·have h := bT h7 h; refine .seq_k fun N8 hN8 => ?_; refine .region (l := [_]) (.assign (e_int (-1 : Int)) rfl (hn := .nil (hN8 _ ?_))); obtain rfl := so h; refine .ret .p
   ·have h := bF h7 h; refine .seq_k fun N9 hN9 => ?_; refine .region (l := [_,_,_,_]) (.fieldAddr _ u_impl_Value rfl s_int rfl rfl (hn := .load1 (c := (e_int t3.Kind)) g_int rfl (hn := .int _ rfl rfl rfl (hn := .assign (e_bool (t3.Kind == (0 : Int))) rfl (hn := .nil (hN9 _ ?_)))))); refine .cond_split rfl (fun h10 => ?_) (fun h10 => ?_)
    ·have h := bT h10 h; refine .seq_k fun N11 hN11 => ?_; refine .region (l := [_]) (.assign (e_int (0 : Int)) rfl (hn := .nil (hN11 _ ?_))); obtain rfl := so h; refine .ret .p
    ·have h := bF h10 h; refine .seq_k fun N12 hN12 => ?_; refine .region (l := [_,_,_,_]) (.fieldAddr _ u_impl_Value rfl s_int rfl rfl (hn := .load1 (c := (e_int t3.Kind)) g_int rfl (hn := .int _ rfl rfl rfl (hn := .assign (e_bool (t3.Kind == (1 : Int))) rfl (hn := .nil (hN12 _ ?_)))))); refine .cond_split rfl (fun h13 => ?_) (fun h13 => ?_)
     ·have h := bT h13 h; refine .seq_k fun N14 hN14 => ?_; refine .region (l := [_,_,_,_,_]) (.move (e_Lint t0) rfl (hn := .fieldAddr _ u_impl_Value rfl s_int rfl rfl (hn := .load1 (c := (e_int t3.N)) g_int rfl (hn := bk h fun x15 e15 h => ?_)))); refine .vcall rfl rfl (c_impl_below _ _ _ e15) (.same (.same (.nil))) (hn := ?_); refine .assign (e_int x15) rfl (hn := .nil (hN14 _ ?_)); obtain rfl := so h; refine .ret .p
     ·have h := bF h13 h; refine .skip (hN2 _ ?_); refine .seq_k fun N16 hN16 => ?_; refine .region (l := [_]) (.assign (e_int (-1 : Int)) rfl (hn := .nil (hN16 _ ?_))); obtain rfl := so h; refine .ret .p
  ·intro N3 hN3; refine .region (l := [_,_,_,_,_,_,_,_,_]) (.move (e_Lint a0) rfl (hn := bk h fun x4 e4 h => ?_)); refine .vcall rfl rfl (c_impl_CutsOk _ _ e4) (.same (.nil)) (hn := ?_); refine .not rfl (hn := ?_); refine .move (e_bool (!x4)) rfl (hn := .byCases (t := 9) _ rfl (fun h5 => ?_) (fun h5 => ?_))
   ·have h := bT h5 h; refine .gN 9 h5 (.gN 9 h5 (.gN 9 h5 (.pickTM (e_bool true) rfl h5 rfl (hn := .assign (e_bool true) rfl (hn := .nil (hN3 (a0, a1, true) _ ⟨rfl, rfl, rfl, trivial⟩ trivial h))))))
   ·have h := bF h5 h; refine .gY 9 h5 (.loadN ((e_impl_Value a1)).cells g_impl_Value s_impl_Value rfl (Nat.le_of_ble_eq_true rfl) rfl (hn := ?_)); refine bk h fun x6 e6 h => ?_; refine .gY 9 h5 (.vcall rfl rfl (c_impl_Value_ok _ _ e6) (.same (.nil)) (hn := ?_)); refine .gY 9 h5 (.not rfl (hn := ?_)); refine .pickFM (e_bool (!x6)) rfl h5 rfl (hn := .assign (e_bool (!x6)) rfl (hn := .nil (hN3 (a0, a1, (!x6)) _ ⟨rfl, rfl, rfl, trivial⟩ trivial h)))

theorem cc_slices_Clip_Limpl_Value_impl_Value (xs : List LV) : Does Try.prog f_slices_Clip_Limpl_Value_impl_Value [.own 0 0 xs.length] [(0, { kind := .fro, sz := 3, elems := xs })] (fun r h => r = .nw 3 xs false ∧ h = []) := by
  refine Does.go [0] F_slices_Clip_Limpl_Value_impl_Value rfl e_slices_Clip_Limpl_Value_impl_Value n_slices_Clip_Limpl_Value_impl_Value rfl (ts := [2]) rfl rfl rfl ?_; intro w0 ok0 lent ρ0; refine .seq_k fun N1 hN1 => ?_; refine .region (l := [_]) (.assign _ rfl (hn := .nil (hN1 _ ?_))); refine .seq_k fun N2 hN2 => ?_; refine .region (l := [_,_,_,_,_,_,_]) (.move _ rfl (hn := .move _ rfl (hn := .len u_Limpl_Value rfl (hn := ?_)))); refine .move _ rfl (hn := .len u_Limpl_Value rfl (hn := ?_)); refine .cutOwn (l := 0) (h := xs.length) u_Limpl_Value s_impl_Value rfl rfl rfl rfl ⟨_, rfl⟩ ⟨_, _, rfl, Nat.le_refl _, Nat.le_refl _⟩ (.inr (by simp)) (Nat.zero_le _) (Nat.le_refl _) rfl rfl (hn := ?_); refine .assign _ rfl (hn := .nil (hN2 _ ?_)); refine .ret (QRet.own1 (.inr rfl) rfl rfl rfl rfl (by simp) ⟨?_, rfl⟩); clear hN1 hN2; exact congrArg (fun l => LV.nw 3 l false) (by simp)
def m_slices_Clip_Limpl_Value_impl_Value_o (o0 : List S_impl_Value) : Option (List S_impl_Value) := some o0
theorem c_slices_Clip_Limpl_Value_impl_Value_o (o0 : List S_impl_Value) (r : List S_impl_Value) (h : m_slices_Clip_Limpl_Value_impl_Value_o o0 = some r) : Does Try.prog f_slices_Clip_Limpl_Value_impl_Value [.own 0 0 o0.length] [(0, lob 3 e_impl_Value o0)] (fun x hh => x = .nw 3 (r.map e_impl_Value) false ∧ hh = []) := by
  cases h; have := cc_slices_Clip_Limpl_Value_impl_Value (o0.map e_impl_Value); rw [List.length_map] at this; exact this



def m_slices_Clip_Limpl_Value_impl_Value (a0 : (List S_impl_Value)) : Option (List S_impl_Value) :=
  (cut3? a0 (0 : Int) (a0.length : Int) (a0.length : Int)).bind fun x3 =>
  some x3
theorem c_slices_Clip_Limpl_Value_impl_Value (a0 : (List S_impl_Value)) (r : (List S_impl_Value)) (h : m_slices_Clip_Limpl_Value_impl_Value a0 = some r) : Ret Try.prog f_slices_Clip_Limpl_Value_impl_Value [e_Limpl_Value a0] (e_Limpl_Value r) := by
  refine Does.goG [] F_slices_Clip_Limpl_Value_impl_Value rfl e_slices_Clip_Limpl_Value_impl_Value n_slices_Clip_Limpl_Value_impl_Value rfl (rvs := [.tmp 2]) rfl rfl ?_; intro w0 ok0 lent ρ0; refine .seq_k fun N1 hN1 => ?_; refine .region (l := [_]) (.assign _ rfl (hn := .weakT 2 (e_Limpl_Value ([] : (List S_impl_Value))) rfl .nil ?_)); refine .nil (hN1 _ ?_); refine .seq_k fun N2 hN2 => ?_; refine .region (l := [_,_,_,_,_,_,_]) (.move (e_Limpl_Value a0) rfl (hn := .move (e_Limpl_Value a0) rfl (hn := .lenM (f := e_impl_Value) (l := a0) u_Limpl_Value rfl (hn := ?_)))); refine .move (e_Limpl_Value a0) rfl (hn := .lenM (f := e_impl_Value) (l := a0) u_Limpl_Value rfl (hn := ?_)); refine bk h fun x3 e3 h => ?_; refine .cutM3 (f := e_impl_Value) e3 u_Limpl_Value s_impl_Value rfl rfl ⟨_, rfl⟩ ⟨_, rfl⟩ (hn := ?_); refine .assign (e_Limpl_Value x3) rfl (hn := .nil (hN2 _ ?_)); obtain rfl := so h; refine .ret .p

def m_impl_clone_impl_Value (a0 : (List S_impl_Value)) : Option (List S_impl_Value) :=
  bif ((a0.length : Int) == (0 : Int)) then (some ([] : (List S_impl_Value)))
  else ((appN? a0).bind fun x7 =>
  (m_slices_Clip_Limpl_Value_impl_Value_o x7).bind fun x8 =>
  some x8)
theorem c_impl_clone_impl_Value (a0 : (List S_impl_Value)) (r : (List S_impl_Value)) (h : m_impl_clone_impl_Value a0 = some r) : Ret Try.prog f_impl_clone_impl_Value [e_Limpl_Value a0] (.nw 3 (r.map e_impl_Value) false) := by
  refine Does.goG [] F_impl_clone_impl_Value rfl e_impl_clone_impl_Value n_impl_clone_impl_Value rfl (rvs := [.tmp 2]) rfl rfl ?_; intro w0 ok0 lent ρ0; refine .seq_k fun N1 hN1 => ?_; refine .region (l := [_]) (.assign _ rfl (hn := .ownNil 2 1002 3 rfl rfl rfl ?_)); refine .known 2 (.own 1002 0 ([] : (List S_impl_Value)).length) rfl ?_; refine .nil (hN1 _ ?_); refine .seq_k fun N2 hN2 => ?_; refine .seq_k fun N3 hN3 => ?_; refine .region (l := [_,_,_]) (.move (e_Limpl_Value a0) rfl (hn := .lenM (f := e_impl_Value) (l := a0) u_Limpl_Value rfl (hn := ?_))); refine .int _ rfl rfl rfl (hn := .nil (hN3 _ ?_)); refine .cond_split rfl (fun h4 => ?_) (fun h4 => ?_)
  ·have h := bT h4 h; refine .seq_k fun N5 hN5 => ?_; refine .region (l := [_]) (.assign _ rfl (hn := .ownNil 2 1002 3 rfl rfl rfl ?_)); refine .known 2 (.own 1002 0 ([] : (List S_impl_Value)).length) rfl ?_; refine .nil (hN5 _ ?_); obtain rfl := so h; refine .ret (QG.mk (.inr rfl) (.cons (.tmp (x := (.own 1002 0 (([] : (List S_impl_Value))).length)) rfl) (.nil)) (RetOK.one0 (.nwM rfl rfl) (by decide)) rfl rfl)
  ·have h := bF h4 h; refine .skip (hN2 _ ?_); refine .seq_k fun N6 hN6 => ?_; refine .region (l := [_,_,_,_]) (.move (e_Limpl_Value a0) rfl (hn := bk h fun x7 e7 h => ?_)); refine .appendC (f := e_impl_Value) 1007 e7 u_Limpl_Value u_Limpl_Value (fun _ h => by cases h) i_impl_Value rfl rfl (.sl rfl) (fun _ => rfl) rfl rfl (hn := ?_); refine bk h fun x8 e8 h => ?_; refine .tcallN (e := e_impl_Value) (e' := e_impl_Value) 1008 rfl rfl (c_slices_Clip_Limpl_Value_impl_Value_o _ _ e8) (fun _ => rfl) rfl rfl rfl rfl (hn := ?_); refine .assign (.own 1008 0 (x8).length) rfl (hn := .nil (hN6 _ ?_)); obtain rfl := so h; refine .ret (QG.mk (.inr rfl) (.cons (.tmp (x := (.own 1008 0 (x8).length)) rfl) (.nil)) (RetOK.one0 (.nwM rfl rfl) (by decide)) rfl rfl)

theorem cc_slices_Clip_LLimpl_Value_Limpl_Value (xs : List LV) : Does Try.prog f_slices_Clip_LLimpl_Value_Limpl_Value [.own 0 0 xs.length] [(0, { kind := .fro, sz := 1, elems := xs })] (fun r h => r = .nw 1 xs false ∧ h = []) := by
  refine Does.go [0] F_slices_Clip_LLimpl_Value_Limpl_Value rfl e_slices_Clip_LLimpl_Value_Limpl_Value n_slices_Clip_LLimpl_Value_Limpl_Value rfl (ts := [2]) rfl rfl rfl ?_; intro w0 ok0 lent ρ0; refine .seq_k fun N1 hN1 => ?_; refine .region (l := [_]) (.assign _ rfl (hn := .nil (hN1 _ ?_))); refine .seq_k fun N2 hN2 => ?_; refine .region (l := [_,_,_,_,_,_,_]) (.move _ rfl (hn := .move _ rfl (hn := .len u_LLimpl_Value rfl (hn := ?_)))); refine .move _ rfl (hn := .len u_LLimpl_Value rfl (hn := ?_)); refine .cutOwn (l := 0) (h := xs.length) u_LLimpl_Value s_Limpl_Value rfl rfl rfl rfl ⟨_, rfl⟩ ⟨_, _, rfl, Nat.le_refl _, Nat.le_refl _⟩ (.inr (by simp)) (Nat.zero_le _) (Nat.le_refl _) rfl rfl (hn := ?_); refine .assign _ rfl (hn := .nil (hN2 _ ?_)); refine .ret (QRet.own1 (.inr rfl) rfl rfl rfl rfl (by simp) ⟨?_, rfl⟩); clear hN1 hN2; exact congrArg (fun l => LV.nw 1 l false) (by simp)
def m_slices_Clip_LLimpl_Value_Limpl_Value_o (o0 : List (List S_impl_Value)) : Option (List (List S_impl_Value)) := some o0
theorem c_slices_Clip_LLimpl_Value_Limpl_Value_o (o0 : List (List S_impl_Value)) (r : List (List S_impl_Value)) (h : m_slices_Clip_LLimpl_Value_Limpl_Value_o o0 = some r) : Does Try.prog f_slices_Clip_LLimpl_Value_Limpl_Value [.own 0 0 o0.length] [(0, lob 1 e_Limpl_Value o0)] (fun x hh => x = .nw 1 (r.map e_Limpl_Value) false ∧ hh = []) := by
  cases h; have := cc_slices_Clip_LLimpl_Value_Limpl_Value (o0.map e_Limpl_Value); rw [List.length_map] at this; exact this



def m_slices_Clip_LLimpl_Value_Limpl_Value (a0 : (List (List S_impl_Value))) : Option (List (List S_impl_Value)) :=
  (cut3? a0 (0 : Int) (a0.length : Int) (a0.length : Int)).bind fun x3 =>
  some x3
theorem c_slices_Clip_LLimpl_Value_Limpl_Value (a0 : (List (List S_impl_Value))) (r : (List (List S_impl_Value))) (h : m_slices_Clip_LLimpl_Value_Limpl_Value a0 = some r) : Ret Try.prog f_slices_Clip_LLimpl_Value_Limpl_Value [e_LLimpl_Value a0] (e_LLimpl_Value r) := by
  refine Does.goG [] F_slices_Clip_LLimpl_Value_Limpl_Value rfl e_slices_Clip_LLimpl_Value_Limpl_Value n_slices_Clip_LLimpl_Value_Limpl_Value rfl (rvs := [.tmp 2]) rfl rfl ?_; intro w0 ok0 lent ρ0; refine .seq_k fun N1 hN1 => ?_; refine .region (l := [_]) (.assign _ rfl (hn := .weakT 2 (e_LLimpl_Value ([] : (List (List S_impl_Value)))) rfl .nil ?_)); refine .nil (hN1 _ ?_); refine .seq_k fun N2 hN2 => ?_; refine .region (l := [_,_,_,_,_,_,_]) (.move (e_LLimpl_Value a0) rfl (hn := .move (e_LLimpl_Value a0) rfl (hn := .lenM (f := e_Limpl_Value) (l := a0) u_LLimpl_Value rfl (hn := ?_)))); refine .move (e_LLimpl_Value a0) rfl (hn := .lenM (f := e_Limpl_Value) (l := a0) u_LLimpl_Value rfl (hn := ?_)); refine bk h fun x3 e3 h => ?_; refine .cutM3 (f := e_Limpl_Value) e3 u_LLimpl_Value s_Limpl_Value rfl rfl ⟨_, rfl⟩ ⟨_, rfl⟩ (hn := ?_); refine .assign (e_LLimpl_Value x3) rfl (hn := .nil (hN2 _ ?_)); obtain rfl := so h; refine .ret .p

def m_impl_rowsCopy_j1 (o1003 : (List (List S_impl_Value))) : Option (List (List S_impl_Value)) :=
  (m_slices_Clip_LLimpl_Value_Limpl_Value_o o1003).bind fun x17 =>
  some x17
def m_impl_rowsCopy_l1 : Nat → (List (List S_impl_Value)) → Int → Int → (List (List S_impl_Value)) → Option (List (List S_impl_Value))
  | 0, _, _, _, _ => none
  | n1 + 1, t6, t7, t8, o1003 =>
    bif decide (t8 < t7) then ((at? t6 t8).bind fun x12 =>
    (m_impl_clone_impl_Value x12).bind fun x13 =>
    (app? o1003 ([x13] : (List (List S_impl_Value)))).bind fun x14 =>
    (ckI (t8 + (1 : Int))).bind fun x15 =>
    (m_impl_rowsCopy_l1  n1) t6 t7 x15 x14)
    else (m_impl_rowsCopy_j1  o1003)
def m_impl_rowsCopy (a0 : (List (List S_impl_Value))) : Option (List (List S_impl_Value)) :=
  m_impl_rowsCopy_l1  (((a0.length : Int) - (0 : Int)).toNat + 1) a0 (a0.length : Int) (0 : Int) ([] : (List (List S_impl_Value)))
theorem c_impl_rowsCopy (a0 : (List (List S_impl_Value))) (r : (List (List S_impl_Value))) (h : m_impl_rowsCopy a0 = some r) : Ret Try.prog f_impl_rowsCopy [e_LLimpl_Value a0] (.nw 1 (r.map e_Limpl_Value) false) := by
  refine Does.goG [] F_impl_rowsCopy rfl e_impl_rowsCopy n_impl_rowsCopy rfl (rvs := [.tmp 2]) rfl rfl ?_; intro w0 ok0 lent ρ0; refine .seq_k fun N1 hN1 => ?_; refine .region (l := [_]) (.assign _ rfl (hn := .ownNil 2 1002 1 rfl rfl rfl ?_)); refine .known 2 (.own 1002 0 ([] : (List (List S_impl_Value))).length) rfl ?_; refine .nil (hN1 _ ?_); refine .seq_k fun N2 hN2 => ?_; refine .region (l := [_]) (.assign _ rfl (hn := .ownNil 3 1003 1 rfl rfl rfl ?_)); refine .known 3 (.own 1003 0 ([] : (List (List S_impl_Value))).length) rfl ?_; refine .nil (hN2 _ ?_); refine .join (α := (List (List S_impl_Value))) (fun z : (List (List S_impl_Value)) => [(3, (.own 1003 0 (z).length))]) (fun z : (List (List S_impl_Value)) => [(1003, (lob 1 e_Limpl_Value z))]) (fun z : (List (List S_impl_Value)) => m_impl_rowsCopy_j1  z) r (fun _ => by simp [hkeys]) ?_ ?_
  ·rintro o1003 h; replace h : m_impl_rowsCopy_j1  o1003 = some _ := h; refine .seq_k fun N16 hN16 => ?_; refine .region (l := [_,_,_]) (.move (.own 1003 0 (o1003).length) rfl (hn := bk h fun x17 e17 h => ?_)); refine .tcallN (e := e_Limpl_Value) (e' := e_Limpl_Value) 1019 rfl rfl (c_slices_Clip_LLimpl_Value_Limpl_Value_o _ _ e17) (fun _ => rfl) rfl rfl rfl rfl (hn := ?_); refine .assign (.own 1019 0 (x17).length) rfl (hn := .nil (hN16 _ ?_)); obtain rfl := so h; refine .ret (QG.mk (.inr rfl) (.cons (.tmp (x := (.own 1019 0 (x17).length)) rfl) (.nil)) (RetOK.one0 (.nwM rfl rfl) (by decide)) rfl rfl)
  ·intro N3 hN3; refine .seq_k fun N4 hN4 => ?_; refine .region (l := [_,_,_]) (.move (e_LLimpl_Value a0) rfl (hn := .lenM (f := e_Limpl_Value) (l := a0) u_LLimpl_Value rfl (hn := ?_))); refine .move (e_int (0 : Int)) rfl (hn := .nil (hN4 _ ?_)); refine .block ?_; refine .loopM (α := (List (List S_impl_Value)) × Int × Int × (List (List S_impl_Value))) (fun z : (List (List S_impl_Value)) × Int × Int × (List (List S_impl_Value)) => [(3, (.own 1003 0 (z.2.2.2).length)), (6, (e_LLimpl_Value z.1)), (7, (e_int z.2.1)), (8, (e_int z.2.2.1))]) (fun z : (List (List S_impl_Value)) × Int × Int × (List (List S_impl_Value)) => [(1003, (lob 1 e_Limpl_Value z.2.2.2))]) (fun n1 (z : (List (List S_impl_Value)) × Int × Int × (List (List S_impl_Value))) => m_impl_rowsCopy_l1  n1 z.1 z.2.1 z.2.2.1 z.2.2.2) r _ (a0, (a0.length : Int), (0 : Int), ([] : (List (List S_impl_Value)))) h (fun _ => rfl) (fun _ => by simp [hkeys]) ⟨rfl, rfl, rfl, rfl, trivial⟩ ⟨rfl, trivial⟩ ?_; rintro n1 ⟨t6, t7, t8, o1003⟩ h N5 hN5; replace h : m_impl_rowsCopy_l1  (n1 + 1) t6 t7 t8 o1003 = some _ := h; refine .seq_k fun N7 hN7 => ?_; refine .region (l := [_]) (.int _ rfl rfl rfl (hn := .nil (hN7 _ ?_))); refine .seq_k fun N8 hN8 => ?_; refine .cond_split rfl (fun h9 => ?_) (fun h9 => ?_)
   ·have h := bT h9 h; refine .skip (hN8 _ ?_); refine .seq_k fun N10 hN10 => ?_; refine .block ?_; refine .seq_k fun N11 hN11 => ?_; refine .region (l := [_,_,_]) (bk h fun x12 e12 h => ?_); refine .indexM (f := e_Limpl_Value) e12 u_LLimpl_Value s_Limpl_Value rfl rfl (hn := ?_); refine .load1 (c := (e_Limpl_Value x12)) g_Limpl_Value rfl (hn := .assign (e_Limpl_Value x12) rfl (hn := .nil (hN11 _ ?_))); refine .region (l := [_,_,_,_,_,_]) (.move (.own 1003 0 (o1003).length) rfl (hn := .move (e_Limpl_Value x12) rfl (hn := bk h fun x13 e13 h => ?_))); refine .vcall rfl rfl (c_impl_clone_impl_Value _ _ e13) (.same (.nil)) (hn := ?_); refine .lit (ops := [_]) [(e_Limpl_Value x13)] u_LLimpl_Value s_Limpl_Value z_Limpl_Value rfl rfl rfl rfl rfl rfl (hn := ?_); refine bk h fun x14 e14 h => ?_; refine .appendM (f := e_Limpl_Value) e14 rfl u_LLimpl_Value u_LLimpl_Value (fun _ h => by cases h) s_Limpl_Value i_Limpl_Value rfl rfl rfl (.sl rfl) rfl rfl (hn := ?_); refine .assign (.own 1003 0 (x14).length) rfl (hn := .nil (hN10 _ ?_)); refine .region (l := [_,_]) (bk h fun x15 e15 h => ?_); refine .int _ rfl rfl (add_ck e15) (hn := .move (e_int x15) rfl (hn := .nil (hN5 (t6, t7, x15, x14) _ ⟨rfl, rfl, rfl, rfl, trivial⟩ ⟨rfl, trivial⟩ h)))
   ·have h := bF h9 h; refine .exit (hN3 o1003 _ ⟨rfl, trivial⟩ ⟨rfl, trivial⟩ h)

def m_impl_partsOf_j2 (o1015 : (List (List (List S_impl_Value)))) : Option (List (List (List S_impl_Value))) :=
  some o1015
def m_impl_partsOf_l2 : Nat → Int → Int → (List (List (List S_impl_Value))) → Option (List (List (List S_impl_Value)))
  | 0, _, _, _ => none
  | n2 + 1, t40, t41, o1015 =>
    bif decide (t41 < t40) then ((at? o1015 t41).bind fun x32 =>
    (at? o1015 t41).bind fun x33 =>
    (m_impl_rowsCopy x33).bind fun x34 =>
    (at? o1015 t41).bind fun x35 =>
    (ckI (t41 + (1 : Int))).bind fun x36 =>
    (m_impl_partsOf_l2  n2) t40 x36 (o1015.set (t41).toNat (x34 : (List (List S_impl_Value)))))
    else (m_impl_partsOf_j2  o1015)
def m_impl_partsOf_j1 (o1015 : (List (List (List S_impl_Value)))) : Option (List (List (List S_impl_Value))) :=
  m_impl_partsOf_l2  (((o1015.length : Int) - (0 : Int)).toNat + 1) (o1015.length : Int) (0 : Int) o1015
def m_impl_partsOf_l1 : Nat → Int → (List Int) → (List (List S_impl_Value)) → Int → Int → (List (List (List S_impl_Value))) → Option (List (List (List S_impl_Value)))
  | 0, _, _, _, _, _, _ => none
  | n1 + 1, t1, t2, t16, t17, t18, o1015 =>
    bif decide (t18 < t17) then ((at? t16 t18).bind fun x14 =>
    (at? x14 t1).bind fun x16 =>
    (m_impl_PartOf t2 x16).bind fun x17 =>
    (at? o1015 x17).bind fun x18 =>
    (at? o1015 x17).bind fun x19 =>
    (app? x19 ([x14] : (List (List S_impl_Value)))).bind fun x20 =>
    (at? o1015 x17).bind fun x21 =>
    (ckI (t18 + (1 : Int))).bind fun x22 =>
    (m_impl_partsOf_l1  n1) t1 t2 t16 t17 x22 (o1015.set (x17).toNat (x20 : (List (List S_impl_Value)))))
    else (m_impl_partsOf_j1  o1015)
def m_impl_partsOf (a0 : (List (List S_impl_Value))) (a1 : Int) (a2 : (List Int)) : Option (List (List (List S_impl_Value))) :=
  (ckI ((a2.length : Int) + (1 : Int))).bind fun x3 =>
  (mk2? x3 x3 ([] : (List (List S_impl_Value)))).bind fun x4 =>
  m_impl_partsOf_l1  (((a0.length : Int) - (0 : Int)).toNat + 1) a1 a2 a0 (a0.length : Int) (0 : Int) x4
theorem c_impl_partsOf (a0 : (List (List S_impl_Value))) (a1 : Int) (a2 : (List Int)) (r : (List (List (List S_impl_Value)))) (h : m_impl_partsOf a0 a1 a2 = some r) : Ret Try.prog f_impl_partsOf [e_LLimpl_Value a0, e_int a1, e_Lint a2] (.nw 1 (r.map e_LLimpl_Value) false) := by
  refine Does.goG [] F_impl_partsOf rfl e_impl_partsOf n_impl_partsOf rfl (rvs := [.tmp 6]) rfl rfl ?_; intro w0 ok0 lent ρ0; refine .seq_k fun N1 hN1 => ?_; refine .region (l := [_]) (.assign _ rfl (hn := .ownNil 6 1006 1 rfl rfl rfl ?_)); refine .mix0 (sz := 1) em_LLimpl_Value 1006 rfl ?_; refine .known 6 (.own 1006 0 ([] : (List (List (List S_impl_Value)))).length) rfl ?_; refine .nil (hN1 _ ?_); refine .seq_k fun N2 hN2 => ?_; refine .region (l := [_,_,_,_,_]) (.move (e_Lint a2) rfl (hn := .lenM (f := e_int) (l := a2) u_Lint rfl (hn := ?_))); refine bk h fun x3 e3 h => ?_; refine .int _ rfl rfl (add_ck e3) (hn := bk h fun x4 e4 h => ?_); refine .makeMW (zs := [.slice none 0 0]) (f := em_LLimpl_Value) (y := []) 1015 e4 u_LLLimpl_Value i_LLimpl_Value rfl rfl rfl (fun _ => (.cons .nilnw .nil)) rfl rfl rfl rfl (hn := ?_); refine .assign (.own 1015 0 (x4).length) rfl (hn := .nil (hN2 _ ?_)); refine .join (α := (List (List (List S_impl_Value)))) (fun z : (List (List (List S_impl_Value))) => [(7, (.own 1015 0 (z).length))]) (fun z : (List (List (List S_impl_Value))) => [(1015, (mob 1 em_LLimpl_Value z))]) (fun z : (List (List (List S_impl_Value))) => m_impl_partsOf_j1  z) r (fun _ => by simp [hkeys]) ?_ ?_
  ·rintro o1015 h; replace h : m_impl_partsOf_j1  o1015 = some _ := h; refine .join (α := (List (List (List S_impl_Value)))) (fun z : (List (List (List S_impl_Value))) => [(7, (.own 1015 0 (z).length))]) (fun z : (List (List (List S_impl_Value))) => [(1015, (mob 1 em_LLimpl_Value z))]) (fun z : (List (List (List S_impl_Value))) => m_impl_partsOf_j2  z) r (fun _ => by simp [hkeys]) ?_ ?_
   ·rintro o1015 h; replace h : m_impl_partsOf_j2  o1015 = some _ := h; refine .seq_k fun N37 hN37 => ?_; refine .region (l := [_,_]) (.move (.own 1015 0 (o1015).length) rfl (hn := .assign (.own 1015 0 (o1015).length) rfl (hn := .nil (hN37 _ ?_)))); refine .melt (e := e_LLimpl_Value) 1015 rfl (fun _ => (.cons (.nw _ _) .nil)) ?_; obtain rfl := so h; refine .ret (QG.mk (.inr rfl) (.cons (.tmp (x := (.own 1015 0 (o1015).length)) rfl) (.nil)) (RetOK.one0 (.nwM rfl rfl) (by decide)) rfl rfl)
   ·intro N23 hN23; refine .seq_k fun N24 hN24 => ?_; refine .region (l := [_,_,_]) (.move (.own 1015 0 (o1015).length) rfl (hn := .lenO u_LLLimpl_Value rfl (hn := ?_))); refine .move (e_int (0 : Int)) rfl (hn := .nil (hN24 _ ?_)); refine .block ?_; refine .loopM (α := Int × Int × (List (List (List S_impl_Value)))) (fun z : Int × Int × (List (List (List S_impl_Value))) => [(7, (.own 1015 0 (z.2.2).length)), (40, (e_int z.1)), (41, (e_int z.2.1))]) (fun z : Int × Int × (List (List (List S_impl_Value))) => [(1015, (mob 1 em_LLimpl_Value z.2.2))]) (fun n2 (z : Int × Int × (List (List (List S_impl_Value)))) => m_impl_partsOf_l2  n2 z.1 z.2.1 z.2.2) r _ ((o1015.length : Int), (0 : Int), o1015) h (fun _ => rfl) (fun _ => by simp [hkeys]) ⟨rfl, rfl, rfl, trivial⟩ ⟨rfl, trivial⟩ ?_; rintro n2 ⟨t40, t41, o1015⟩ h N25 hN25; replace h : m_impl_partsOf_l2  (n2 + 1) t40 t41 o1015 = some _ := h; refine .seq_k fun N27 hN27 => ?_; refine .region (l := [_]) (.int _ rfl rfl rfl (hn := .nil (hN27 _ ?_))); refine .seq_k fun N28 hN28 => ?_; refine .cond_split rfl (fun h29 => ?_) (fun h29 => ?_)
    ·have h := bT h29 h; refine .skip (hN28 _ ?_); refine .seq_k fun N30 hN30 => ?_; refine .block ?_; refine .seq_k fun N31 hN31 => ?_; refine .region (l := [_,_]) (.move (e_int t41) rfl (hn := .assign (e_int t41) rfl (hn := .nil (hN31 _ ?_)))); refine .region (l := [_,_,_,_,_,_,_,_,_]) (.move (.own 1015 0 (o1015).length) rfl (hn := .move (e_int t41) rfl (hn := .move (.own 1015 0 (o1015).length) rfl (hn := .move (e_int t41) rfl (hn := bk h fun x32 e32 h => ?_))))); refine .indexMx e32 rfl u_LLLimpl_Value s_LLimpl_Value rfl rfl rfl (hn := ?_); refine bk h fun x33 e33 h => ?_; refine .takeMM (f := em_LLimpl_Value) (g := e_Limpl_Value) (ys := x33) (j := 0) 1015 1049 (.own 1049 0 x33.length) e33 rfl rfl rfl rfl rfl rfl ?_; refine .loadMs (.own 1049 0 x33.length) e33 g_LLimpl_Value rfl rfl rfl rfl (hn := ?_); refine bk h fun x34 e34 h => ?_; refine .junkMM (j := 0) (k2 := 1049) 1015 (.junk) e33 rfl rfl rfl (fun _ => rfl) rfl ?_; refine .frzL (f := e_Limpl_Value) (l := x33) [49] 1049 rfl rfl ⟨rfl, trivial⟩ ?_; refine .ncall (e := e_Limpl_Value) 1050 rfl rfl (c_impl_rowsCopy _ _ e34) (.same (.nil)) rfl (hn := ?_); refine bk h fun x35 e35 h => ?_; refine .indexMs e35 rfl u_LLLimpl_Value s_LLimpl_Value rfl rfl rfl (hn := ?_); refine .storeMB (ks := [1050]) (zs := [.nw 1 (x34.map e_Limpl_Value) false]) (x34 : (List (List S_impl_Value))) e33 s_LLimpl_Value rfl rfl rfl rfl (.cons (.own (obj := (lob 1 e_Limpl_Value x34)) rfl rfl rfl (List.length_map _).symm) .nil) (by decide) rfl rfl rfl (fun _ => rfl) (hn := ?_); refine .nil (hN30 _ ?_); refine .region (l := [_,_]) (bk h fun x36 e36 h => ?_); refine .int _ rfl rfl (add_ck e36) (hn := .move (e_int x36) rfl (hn := .nil (hN25 (t40, x36, (o1015.set (t41).toNat (x34 : (List (List S_impl_Value))))) _ ⟨(congrArg (LV.own 1015 0) List.length_set.symm), rfl, rfl, trivial⟩ ⟨rfl, trivial⟩ h)))
    ·have h := bF h29 h; refine .exit (hN23 o1015 _ ⟨rfl, trivial⟩ ⟨rfl, trivial⟩ h)
  ·intro N5 hN5; refine .seq_k fun N6 hN6 => ?_; refine .region (l := [_,_,_]) (.move (e_LLimpl_Value a0) rfl (hn := .lenM (f := e_Limpl_Value) (l := a0) u_LLimpl_Value rfl (hn := ?_))); refine .move (e_int (0 : Int)) rfl (hn := .nil (hN6 _ ?_)); refine .block ?_; refine .loopM (α := Int × (List Int) × (List (List S_impl_Value)) × Int × Int × (List (List (List S_impl_Value)))) (fun z : Int × (List Int) × (List (List S_impl_Value)) × Int × Int × (List (List (List S_impl_Value))) => [(1, (e_int z.1)), (2, (e_Lint z.2.1)), (7, (.own 1015 0 (z.2.2.2.2.2).length)), (16, (e_LLimpl_Value z.2.2.1)), (17, (e_int z.2.2.2.1)), (18, (e_int z.2.2.2.2.1))]) (fun z : Int × (List Int) × (List (List S_impl_Value)) × Int × Int × (List (List (List S_impl_Value))) => [(1015, (mob 1 em_LLimpl_Value z.2.2.2.2.2))]) (fun n1 (z : Int × (List Int) × (List (List S_impl_Value)) × Int × Int × (List (List (List S_impl_Value)))) => m_impl_partsOf_l1  n1 z.1 z.2.1 z.2.2.1 z.2.2.2.1 z.2.2.2.2.1 z.2.2.2.2.2) r _ (a1, a2, a0, (a0.length : Int), (0 : Int), x4) h (fun _ => rfl) (fun _ => by simp [hkeys]) ⟨rfl, rfl, rfl, rfl, rfl, rfl, trivial⟩ ⟨rfl, trivial⟩ ?_; rintro n1 ⟨t1, t2, t16, t17, t18, o1015⟩ h N7 hN7; replace h : m_impl_partsOf_l1  (n1 + 1) t1 t2 t16 t17 t18 o1015 = some _ := h; refine .seq_k fun N9 hN9 => ?_; refine .region (l := [_]) (.int _ rfl rfl rfl (hn := .nil (hN9 _ ?_))); refine .seq_k fun N10 hN10 => ?_; refine .cond_split rfl (fun h11 => ?_) (fun h11 => ?_)
   ·have h := bT h11 h; refine .skip (hN10 _ ?_); refine .seq_k fun N12 hN12 => ?_; refine .block ?_; refine .seq_k fun N13 hN13 => ?_; refine .region (l := [_,_,_]) (bk h fun x14 e14 h => ?_); refine .indexM (f := e_Limpl_Value) e14 u_LLimpl_Value s_Limpl_Value rfl rfl (hn := ?_); refine .load1 (c := (e_Limpl_Value x14)) g_Limpl_Value rfl (hn := .assign (e_Limpl_Value x14) rfl (hn := .nil (hN13 _ ?_))); refine .seq_k fun N15 hN15 => ?_; refine .region (l := [_,_,_,_,_,_,_]) (.move (e_Lint t2) rfl (hn := .move (e_Limpl_Value x14) rfl (hn := .move (e_int t1) rfl (hn := bk h fun x16 e16 h => ?_)))); refine .indexM (f := e_impl_Value) e16 u_Limpl_Value s_impl_Value rfl rfl (hn := ?_); refine .loadN ((e_impl_Value x16)).cells g_impl_Value s_impl_Value rfl (Nat.le_of_ble_eq_true rfl) rfl (hn := ?_); refine bk h fun x17 e17 h => ?_; refine .vcall rfl rfl (c_impl_PartOf _ _ _ e17) (.same (.same (.nil))) (hn := ?_); refine .assign (e_int x17) rfl (hn := .nil (hN15 _ ?_)); refine .region (l := [_,_,_,_,_,_,_,_,_,_,_]) (.move (.own 1015 0 (o1015).length) rfl (hn := .move (e_int x17) rfl (hn := .move (.own 1015 0 (o1015).length) rfl (hn := .move (e_int x17) rfl (hn := bk h fun x18 e18 h => ?_))))); refine .indexMx e18 rfl u_LLLimpl_Value s_LLimpl_Value rfl rfl rfl (hn := ?_); refine bk h fun x19 e19 h => ?_; refine .takeMM (f := em_LLimpl_Value) (g := e_Limpl_Value) (ys := x19) (j := 0) 1015 1033 (.own 1033 0 x19.length) e19 rfl rfl rfl rfl rfl rfl ?_; refine .loadMs (.own 1033 0 x19.length) e19 g_LLimpl_Value rfl rfl rfl rfl (hn := ?_); refine .move (e_Limpl_Value x14) rfl (hn := .lit (ops := [_]) [(e_Limpl_Value x14)] u_LLimpl_Value s_Limpl_Value z_Limpl_Value rfl rfl rfl rfl rfl rfl (hn := ?_)); refine bk h fun x20 e20 h => ?_; refine .junkMM (j := 0) (k2 := 1033) 1015 (.junk) e19 rfl rfl rfl (fun _ => rfl) rfl ?_; refine .appendM (f := e_Limpl_Value) e20 rfl u_LLimpl_Value u_LLimpl_Value (fun _ h => by cases h) s_Limpl_Value i_Limpl_Value rfl rfl rfl (.sl rfl) rfl rfl (hn := ?_); refine bk h fun x21 e21 h => ?_; refine .indexMs e21 rfl u_LLLimpl_Value s_LLimpl_Value rfl rfl rfl (hn := ?_); refine .storeMB (ks := [1033]) (zs := [.nw 1 (x20.map e_Limpl_Value) false]) (x20 : (List (List S_impl_Value))) e19 s_LLimpl_Value rfl rfl rfl rfl (.cons (.own (obj := (lob 1 e_Limpl_Value x20)) rfl rfl rfl (List.length_map _).symm) .nil) (by decide) rfl rfl rfl (fun _ => rfl) (hn := ?_); refine .nil (hN12 _ ?_); refine .region (l := [_,_]) (bk h fun x22 e22 h => ?_); refine .int _ rfl rfl (add_ck e22) (hn := .move (e_int x22) rfl (hn := .nil (hN7 (t1, t2, t16, t17, x22, (o1015.set (x17).toNat (x20 : (List (List S_impl_Value))))) _ ⟨rfl, rfl, (congrArg (LV.own 1015 0) List.length_set.symm), rfl, rfl, rfl, trivial⟩ ⟨rfl, trivial⟩ h)))
   ·have h := bF h11 h; refine .exit (hN5 o1015 _ ⟨rfl, trivial⟩ ⟨rfl, trivial⟩ h)

def m_impl_numOk (a0 : Int) : Option Bool :=
  (m_impl_between a0 (-9999 : Int) (9999 : Int)).bind fun x3 =>
  some x3
theorem c_impl_numOk (a0 : Int) (r : Bool) (h : m_impl_numOk a0 = some r) : Ret Try.prog f_impl_numOk [e_int a0] (e_bool r) := by
  refine Does.goG [] F_impl_numOk rfl e_impl_numOk n_impl_numOk rfl (rvs := [.tmp 2]) rfl rfl ?_; intro w0 ok0 lent ρ0; refine .seq_k fun N1 hN1 => ?_; refine .region (l := [_]) (.assign (e_bool false) rfl (hn := .nil (hN1 _ ?_))); refine .seq_k fun N2 hN2 => ?_; refine .region (l := [_,_,_]) (.move (e_int a0) rfl (hn := bk h fun x3 e3 h => ?_)); refine .vcall rfl rfl (c_impl_between _ _ _ _ e3) (.same (.same (.same (.nil)))) (hn := ?_); refine .assign (e_bool x3) rfl (hn := .nil (hN2 _ ?_)); obtain rfl := so h; refine .ret .p

theorem cc_slices_Clip_Lint_int (xs : List LV) : Does Try.prog f_slices_Clip_Lint_int [.own 0 0 xs.length] [(0, { kind := .fro, sz := 1, elems := xs })] (fun r h => r = .nw 1 xs false ∧ h = []) := by
  refine Does.go [0] F_slices_Clip_Lint_int rfl e_slices_Clip_Lint_int n_slices_Clip_Lint_int rfl (ts := [2]) rfl rfl rfl ?_; intro w0 ok0 lent ρ0; refine .seq_k fun N1 hN1 => ?_; refine .region (l := [_]) (.assign _ rfl (hn := .nil (hN1 _ ?_))); refine .seq_k fun N2 hN2 => ?_; refine .region (l := [_,_,_,_,_,_,_]) (.move _ rfl (hn := .move _ rfl (hn := .len u_Lint rfl (hn := ?_)))); refine .move _ rfl (hn := .len u_Lint rfl (hn := ?_)); refine .cutOwn (l := 0) (h := xs.length) u_Lint s_int rfl rfl rfl rfl ⟨_, rfl⟩ ⟨_, _, rfl, Nat.le_refl _, Nat.le_refl _⟩ (.inr (by simp)) (Nat.zero_le _) (Nat.le_refl _) rfl rfl (hn := ?_); refine .assign _ rfl (hn := .nil (hN2 _ ?_)); refine .ret (QRet.own1 (.inr rfl) rfl rfl rfl rfl (by simp) ⟨?_, rfl⟩); clear hN1 hN2; exact congrArg (fun l => LV.nw 1 l false) (by simp)
def m_slices_Clip_Lint_int_o (o0 : List Int) : Option (List Int) := some o0
theorem c_slices_Clip_Lint_int_o (o0 : List Int) (r : List Int) (h : m_slices_Clip_Lint_int_o o0 = some r) : Does Try.prog f_slices_Clip_Lint_int [.own 0 0 o0.length] [(0, lob 1 e_int o0)] (fun x hh => x = .nw 1 (r.map e_int) false ∧ hh = []) := by
  cases h; have := cc_slices_Clip_Lint_int (o0.map e_int); rw [List.length_map] at this; exact this



def m_slices_Clip_Lint_int (a0 : (List Int)) : Option (List Int) :=
  (cut3? a0 (0 : Int) (a0.length : Int) (a0.length : Int)).bind fun x3 =>
  some x3
theorem c_slices_Clip_Lint_int (a0 : (List Int)) (r : (List Int)) (h : m_slices_Clip_Lint_int a0 = some r) : Ret Try.prog f_slices_Clip_Lint_int [e_Lint a0] (e_Lint r) := by
  refine Does.goG [] F_slices_Clip_Lint_int rfl e_slices_Clip_Lint_int n_slices_Clip_Lint_int rfl (rvs := [.tmp 2]) rfl rfl ?_; intro w0 ok0 lent ρ0; refine .seq_k fun N1 hN1 => ?_; refine .region (l := [_]) (.assign _ rfl (hn := .weakT 2 (e_Lint ([] : (List Int))) rfl .nil ?_)); refine .nil (hN1 _ ?_); refine .seq_k fun N2 hN2 => ?_; refine .region (l := [_,_,_,_,_,_,_]) (.move (e_Lint a0) rfl (hn := .move (e_Lint a0) rfl (hn := .lenM (f := e_int) (l := a0) u_Lint rfl (hn := ?_)))); refine .move (e_Lint a0) rfl (hn := .lenM (f := e_int) (l := a0) u_Lint rfl (hn := ?_)); refine bk h fun x3 e3 h => ?_; refine .cutM3 (f := e_int) e3 u_Lint s_int rfl rfl ⟨_, rfl⟩ ⟨_, rfl⟩ (hn := ?_); refine .assign (e_Lint x3) rfl (hn := .nil (hN2 _ ?_)); obtain rfl := so h; refine .ret .p

def m_impl_clone_int (a0 : (List Int)) : Option (List Int) :=
  bif ((a0.length : Int) == (0 : Int)) then (some ([] : (List Int)))
  else ((appN? a0).bind fun x7 =>
  (m_slices_Clip_Lint_int_o x7).bind fun x8 =>
  some x8)
theorem c_impl_clone_int (a0 : (List Int)) (r : (List Int)) (h : m_impl_clone_int a0 = some r) : Ret Try.prog f_impl_clone_int [e_Lint a0] (.nw 1 (r.map e_int) false) := by
  refine Does.goG [] F_impl_clone_int rfl e_impl_clone_int n_impl_clone_int rfl (rvs := [.tmp 2]) rfl rfl ?_; intro w0 ok0 lent ρ0; refine .seq_k fun N1 hN1 => ?_; refine .region (l := [_]) (.assign _ rfl (hn := .ownNil 2 1002 1 rfl rfl rfl ?_)); refine .known 2 (.own 1002 0 ([] : (List Int)).length) rfl ?_; refine .nil (hN1 _ ?_); refine .seq_k fun N2 hN2 => ?_; refine .seq_k fun N3 hN3 => ?_; refine .region (l := [_,_,_]) (.move (e_Lint a0) rfl (hn := .lenM (f := e_int) (l := a0) u_Lint rfl (hn := ?_))); refine .int _ rfl rfl rfl (hn := .nil (hN3 _ ?_)); refine .cond_split rfl (fun h4 => ?_) (fun h4 => ?_)
  ·have h := bT h4 h; refine .seq_k fun N5 hN5 => ?_; refine .region (l := [_]) (.assign _ rfl (hn := .ownNil 2 1002 1 rfl rfl rfl ?_)); refine .known 2 (.own 1002 0 ([] : (List Int)).length) rfl ?_; refine .nil (hN5 _ ?_); obtain rfl := so h; refine .ret (QG.mk (.inr rfl) (.cons (.tmp (x := (.own 1002 0 (([] : (List Int))).length)) rfl) (.nil)) (RetOK.one0 (.nwM rfl rfl) (by decide)) rfl rfl)
  ·have h := bF h4 h; refine .skip (hN2 _ ?_); refine .seq_k fun N6 hN6 => ?_; refine .region (l := [_,_,_,_]) (.move (e_Lint a0) rfl (hn := bk h fun x7 e7 h => ?_)); refine .appendC (f := e_int) 1007 e7 u_Lint u_Lint (fun _ h => by cases h) i_int rfl rfl (.sl rfl) (fun _ => rfl) rfl rfl (hn := ?_); refine bk h fun x8 e8 h => ?_; refine .tcallN (e := e_int) (e' := e_int) 1008 rfl rfl (c_slices_Clip_Lint_int_o _ _ e8) (fun _ => rfl) rfl rfl rfl rfl (hn := ?_); refine .assign (.own 1008 0 (x8).length) rfl (hn := .nil (hN6 _ ?_)); obtain rfl := so h; refine .ret (QG.mk (.inr rfl) (.cons (.tmp (x := (.own 1008 0 (x8).length)) rfl) (.nil)) (RetOK.one0 (.nwM rfl rfl) (by decide)) rfl rfl)

def m_impl_PartsFor_j3 (o1009 : (List Int)) : Option (List Int) :=
  (m_impl_clone_int o1009).bind fun x38 =>
  some x38
def m_impl_PartsFor_l1 : Nat → Int → Int → (List Int) → Option (List Int)
  | 0, _, _, _ => none
  | n1 + 1, t8, t10, o1009 =>
    bif decide (t10 ≤ t8) then ((app? o1009 ([t10] : (List Int))).bind fun x35 =>
    (ckI (t10 + (1 : Int))).bind fun x36 =>
    (m_impl_PartsFor_l1  n1) t8 x36 x35)
    else (m_impl_PartsFor_j3  o1009)
def m_impl_PartsFor_j2 (t7 : Int) (t8 : Int) : Option (List Int) :=
  m_impl_PartsFor_l1  ((t8 - t7).toNat + 2) t8 t7 ([] : (List Int))
def m_impl_PartsFor_j1 (t0 : (List Int)) (t1 : Int) (t2 : Int) (t18 : Bool) : Option (List Int) :=
  bif t18 then (some ([] : (List Int)))
  else (bif (t1 == (1 : Int)) then ((m_impl_below t0 t2).bind fun x14 =>
  (m_impl_below t0 t2).bind fun x15 =>
  m_impl_PartsFor_j2  x14 x15)
  else (bif (t1 == (2 : Int)) then (m_impl_PartsFor_j2  (0 : Int) (t0.length : Int))
  else (bif (t1 == (3 : Int)) then ((ckI (t2 - (1 : Int))).bind fun x20 =>
      (m_impl_below t0 x20).bind fun x21 =>
      m_impl_PartsFor_j2  (0 : Int) x21)
    else (bif (t1 == (4 : Int)) then ((m_impl_below t0 t2).bind fun x24 =>
        m_impl_PartsFor_j2  (0 : Int) x24)
      else (some ([] : (List Int)))))))
def m_impl_PartsFor (a0 : (List Int)) (a1 : Int) (a2 : Int) : Option (List Int) :=
  (m_impl_CutsOk a0).bind fun x4 =>
  bif (!x4) then (m_impl_PartsFor_j1  a0 a1 a2 true)
  else ((m_impl_numOk a2).bind fun x6 =>
    m_impl_PartsFor_j1  a0 a1 a2 (!x6))
theorem c_impl_PartsFor (a0 : (List Int)) (a1 : Int) (a2 : Int) (r : (List Int)) (h : m_impl_PartsFor a0 a1 a2 = some r) : Ret Try.prog f_impl_PartsFor [e_Lint a0, e_int a1, e_int a2] (.nw 1 (r.map e_int) false) := by
  refine Does.goG [] F_impl_PartsFor rfl e_impl_PartsFor n_impl_PartsFor rfl (rvs := [.tmp 6]) rfl rfl ?_; intro w0 ok0 lent ρ0; refine .seq_k fun N1 hN1 => ?_; refine .region (l := [_]) (.assign _ rfl (hn := .ownNil 6 1006 1 rfl rfl rfl ?_)); refine .known 6 (.own 1006 0 ([] : (List Int)).length) rfl ?_; refine .nil (hN1 _ ?_); refine .seq_k fun N2 hN2 => ?_; refine .join (α := (List Int) × Int × Int × Bool) (fun z : (List Int) × Int × Int × Bool => [(0, (e_Lint z.1)), (1, (e_int z.2.1)), (2, (e_int z.2.2.1)), (18, (e_bool z.2.2.2))]) (fun z : (List Int) × Int × Int × Bool => []) (fun z : (List Int) × Int × Int × Bool => m_impl_PartsFor_j1  z.1 z.2.1 z.2.2.1 z.2.2.2) r (fun _ => by simp [hkeys]) ?_ ?_
  ·rintro ⟨t0, t1, t2, t18⟩ h; replace h : m_impl_PartsFor_j1  t0 t1 t2 t18 = some _ := h; refine .cond_split rfl (fun h7 => ?_) (fun h7 => ?_)
   ·have h := bT h7 h; refine .seq_k fun N8 hN8 => ?_; refine .region (l := [_]) (.assign _ rfl (hn := .ownNil 6 1006 1 rfl rfl rfl ?_)); refine .known 6 (.own 1006 0 ([] : (List Int)).length) rfl ?_; refine .nil (hN8 _ ?_); obtain rfl := so h; refine .ret (QG.mk (.inr rfl) (.cons (.tmp (x := (.own 1006 0 (([] : (List Int))).length)) rfl) (.nil)) (RetOK.one0 (.nwM rfl rfl) (by decide)) rfl rfl)
   ·have h := bF h7 h; refine .skip (hN2 _ ?_); refine .seq_k fun N9 hN9 => ?_; refine .region (l := [_,_]) (.assign (e_int (0 : Int)) rfl (hn := .assign (e_int (0 : Int)) rfl (hn := .nil (hN9 _ ?_)))); refine .join (α := Int × Int) (fun z : Int × Int => [(7, (e_int z.1)), (8, (e_int z.2))]) (fun z : Int × Int => []) (fun z : Int × Int => m_impl_PartsFor_j2  z.1 z.2) r (fun _ => by simp [hkeys]) ?_ ?_
    ·rintro ⟨t7, t8⟩ h; replace h : m_impl_PartsFor_j2  t7 t8 = some _ := h; refine .seq_k fun N26 hN26 => ?_; refine .region (l := [_]) (.assign _ rfl (hn := .ownNil 9 1009 1 rfl rfl rfl ?_)); refine .known 9 (.own 1009 0 ([] : (List Int)).length) rfl ?_; refine .nil (hN26 _ ?_); refine .join (α := (List Int)) (fun z : (List Int) => [(9, (.own 1009 0 (z).length))]) (fun z : (List Int) => [(1009, (lob 1 e_int z))]) (fun z : (List Int) => m_impl_PartsFor_j3  z) r (fun _ => by simp [hkeys]) ?_ ?_
     ·rintro o1009 h; replace h : m_impl_PartsFor_j3  o1009 = some _ := h; refine .seq_k fun N37 hN37 => ?_; refine .region (l := [_,_,_]) (.move (.own 1009 0 (o1009).length) rfl (hn := bk h fun x38 e38 h => ?_)); refine .frzL (f := e_int) (l := o1009) [9, 53] 1009 rfl rfl ⟨rfl, rfl, trivial⟩ ?_; refine .ncall (e := e_int) 1054 rfl rfl (c_impl_clone_int _ _ e38) (.same (.nil)) rfl (hn := ?_); refine .assign (.own 1054 0 (x38).length) rfl (hn := .nil (hN37 _ ?_)); obtain rfl := so h; refine .ret (QG.mk (.inr rfl) (.cons (.tmp (x := (.own 1054 0 (x38).length)) rfl) (.nil)) (RetOK.one0 (.nwM rfl rfl) (by decide)) rfl rfl)
     ·intro N27 hN27; refine .seq_k fun N28 hN28 => ?_; refine .region (l := [_,_]) (.move (e_int t7) rfl (hn := .assign (e_int t7) rfl (hn := .nil (hN28 _ ?_)))); refine .block ?_; refine .loopM (α := Int × Int × (List Int)) (fun z : Int × Int × (List Int) => [(8, (e_int z.1)), (9, (.own 1009 0 (z.2.2).length)), (10, (e_int z.2.1))]) (fun z : Int × Int × (List Int) => [(1009, (lob 1 e_int z.2.2))]) (fun n1 (z : Int × Int × (List Int)) => m_impl_PartsFor_l1  n1 z.1 z.2.1 z.2.2) r _ (t8, t7, ([] : (List Int))) h (fun _ => rfl) (fun _ => by simp [hkeys]) ⟨rfl, rfl, rfl, trivial⟩ ⟨rfl, trivial⟩ ?_; rintro n1 ⟨t8, t10, o1009⟩ h N29 hN29; replace h : m_impl_PartsFor_l1  (n1 + 1) t8 t10 o1009 = some _ := h; refine .seq_k fun N31 hN31 => ?_; refine .seq_k fun N32 hN32 => ?_; refine .region (l := [_,_,_]) (.move (e_int t10) rfl (hn := .move (e_int t8) rfl (hn := .int _ rfl rfl rfl (hn := .nil (hN32 _ ?_))))); refine .cond_split rfl (fun h33 => ?_) (fun h33 => ?_)
      ·have h := bT h33 h; refine .skip (hN31 _ ?_); refine .seq_k fun N34 hN34 => ?_; refine .block ?_; refine .region (l := [_,_,_,_,_]) (.move (.own 1009 0 (o1009).length) rfl (hn := .move (e_int t10) rfl (hn := .lit (ops := [_]) [(e_int t10)] u_Lint s_int z_int rfl rfl rfl rfl rfl rfl (hn := ?_)))); refine bk h fun x35 e35 h => ?_; refine .appendM (f := e_int) e35 rfl u_Lint u_Lint (fun _ h => by cases h) s_int i_int rfl rfl rfl (.sl rfl) rfl rfl (hn := ?_); refine .assign (.own 1009 0 (x35).length) rfl (hn := .nil (hN34 _ ?_)); refine .region (l := [_,_,_]) (.move (e_int t10) rfl (hn := bk h fun x36 e36 h => ?_)); refine .int _ rfl rfl (add_ck e36) (hn := .assign (e_int x36) rfl (hn := .nil (hN29 (t8, x36, x35) _ ⟨rfl, rfl, rfl, trivial⟩ ⟨rfl, trivial⟩ h)))
      ·have h := bF h33 h; refine .exit (hN27 o1009 _ ⟨rfl, trivial⟩ ⟨rfl, trivial⟩ h)
    ·intro N10 hN10; refine .seq_k fun N11 hN11 => ?_; refine .region (l := [_]) (.move (e_int t1) rfl (hn := .nil (hN11 _ ?_))); refine .block ?_; refine .seq_k fun N12 hN12 => ?_; refine .region (l := [_,_]) (.int _ rfl rfl rfl (hn := .assign (e_bool (t1 == (1 : Int))) rfl (hn := .nil (hN12 _ ?_)))); refine .cond_split rfl (fun h13 => ?_) (fun h13 => ?_)
     ·have h := bT h13 h; refine .region (l := [_,_,_,_,_,_,_,_]) (.move (e_Lint t0) rfl (hn := .move (e_int t2) rfl (hn := bk h fun x14 e14 h => ?_))); refine .vcall rfl rfl (c_impl_below _ _ _ e14) (.same (.same (.nil))) (hn := ?_); refine .move (e_Lint t0) rfl (hn := .move (e_int t2) rfl (hn := bk h fun x15 e15 h => ?_)); refine .vcall rfl rfl (c_impl_below _ _ _ e15) (.same (.same (.nil))) (hn := ?_); refine .assign (e_int x14) rfl (hn := .assign (e_int x15) rfl (hn := .nil (hN10 (x14, x15) _ ⟨rfl, rfl, trivial⟩ trivial h)))
     ·have h := bF h13 h; refine .seq_k fun N16 hN16 => ?_; refine .region (l := [_,_]) (.int _ rfl rfl rfl (hn := .assign (e_bool (t1 == (2 : Int))) rfl (hn := .nil (hN16 _ ?_)))); refine .cond_split rfl (fun h17 => ?_) (fun h17 => ?_)
      ·have h := bT h17 h; refine .region (l := [_,_,_]) (.move (e_Lint t0) rfl (hn := .lenM (f := e_int) (l := t0) u_Lint rfl (hn := ?_))); refine .assign (e_int (t0.length : Int)) rfl (hn := .nil (hN10 ((0 : Int), (t0.length : Int)) _ ⟨rfl, rfl, trivial⟩ trivial h))
      ·have h := bF h17 h; refine .seq_k fun N18 hN18 => ?_; refine .region (l := [_,_]) (.int _ rfl rfl rfl (hn := .assign (e_bool (t1 == (3 : Int))) rfl (hn := .nil (hN18 _ ?_)))); refine .cond_split rfl (fun h19 => ?_) (fun h19 => ?_)
       ·have h := bT h19 h; refine .region (l := [_,_,_,_,_]) (.move (e_Lint t0) rfl (hn := .move (e_int t2) rfl (hn := bk h fun x20 e20 h => ?_))); refine .int _ rfl rfl (sub_ck e20) (hn := bk h fun x21 e21 h => ?_); refine .vcall rfl rfl (c_impl_below _ _ _ e21) (.same (.same (.nil))) (hn := ?_); refine .assign (e_int x21) rfl (hn := .nil (hN10 ((0 : Int), x21) _ ⟨rfl, rfl, trivial⟩ trivial h))
       ·have h := bF h19 h; refine .seq_k fun N22 hN22 => ?_; refine .region (l := [_,_]) (.int _ rfl rfl rfl (hn := .assign (e_bool (t1 == (4 : Int))) rfl (hn := .nil (hN22 _ ?_)))); refine .cond_split rfl (fun h23 => ?_) (fun h23 => ?_)
        ·have h := bT h23 h; refine .region (l := [_,_,_,_]) (.move (e_Lint t0) rfl (hn := .move (e_int t2) rfl (hn := bk h fun x24 e24 h => ?_))); refine .vcall rfl rfl (c_impl_below _ _ _ e24) (.same (.same (.nil))) (hn := ?_); refine .assign (e_int x24) rfl (hn := .nil (hN10 ((0 : Int), x24) _ ⟨rfl, rfl, trivial⟩ trivial h))
        ·have h := bF h23 h; refine .seq_k fun N25 hN25 => ?_; refine .region (l := [_]) (.assign _ rfl (hn := .ownNil 6 1006 1 rfl rfl rfl ?_)); refine .known 6 (.own 1006 0 ([] : (List Int)).length) rfl ?_; refine .nil (hN25 _ ?_); obtain rfl := so h; refine .ret (QG.mk (.inr rfl) (.cons (.tmp (x := (.own 1006 0 (([] : (List Int))).length)) rfl) (.nil)) (RetOK.one0 (.nwM rfl rfl) (by decide)) rfl rfl)
  ·intro N3 hN3; refine .region (l := [_,_,_,_,_,_,_,_]) (.move (e_Lint a0) rfl (hn := bk h fun x4 e4 h => ?_)); refine .vcall rfl rfl (c_impl_CutsOk _ _ e4) (.same (.nil)) (hn := ?_); refine .not rfl (hn := ?_); refine .move (e_bool (!x4)) rfl (hn := .byCases (t := 14) _ rfl (fun h5 => ?_) (fun h5 => ?_))
   ·have h := bT h5 h; refine .gN 14 h5 (.gN 14 h5 (.gN 14 h5 (.pickTM (e_bool true) rfl h5 rfl (hn := .nil (hN3 (a0, a1, a2, true) _ ⟨rfl, rfl, rfl, rfl, trivial⟩ trivial h)))))
   ·have h := bF h5 h; refine .gY 14 h5 (.move (e_int a2) rfl (hn := bk h fun x6 e6 h => ?_)); refine .gY 14 h5 (.vcall rfl rfl (c_impl_numOk _ _ e6) (.same (.nil)) (hn := ?_)); refine .gY 14 h5 (.not rfl (hn := ?_)); refine .pickFM (e_bool (!x6)) rfl h5 rfl (hn := .nil (hN3 (a0, a1, a2, (!x6)) _ ⟨rfl, rfl, rfl, rfl, trivial⟩ trivial h))

def m_cmp_isNaN_int (a0 : Int) : Option Bool :=
  some (a0 != a0)
theorem c_cmp_isNaN_int (a0 : Int) (r : Bool) (h : m_cmp_isNaN_int a0 = some r) : Ret Try.prog f_cmp_isNaN_int [e_int a0] (e_bool r) := by
  refine Does.goG [] F_cmp_isNaN_int rfl e_cmp_isNaN_int n_cmp_isNaN_int rfl (rvs := [.tmp 2]) rfl rfl ?_; intro w0 ok0 lent ρ0; refine .seq_k fun N1 hN1 => ?_; refine .region (l := [_]) (.assign (e_bool false) rfl (hn := .nil (hN1 _ ?_))); refine .seq_k fun N2 hN2 => ?_; refine .region (l := [_,_,_,_]) (.move (e_int a0) rfl (hn := .move (e_int a0) rfl (hn := .int _ rfl rfl rfl (hn := .assign (e_bool (a0 != a0)) rfl (hn := .nil (hN2 _ ?_)))))); obtain rfl := so h; refine .ret .p

def m_cmp_Compare_int (a0 : Int) (a1 : Int) : Option Int :=
  (m_cmp_isNaN_int a0).bind fun x3 =>
  (m_cmp_isNaN_int a1).bind fun x5 =>
  bif x3 then (bif x5 then (some (0 : Int))
    else (some (-1 : Int)))
  else (bif x5 then (some (1 : Int))
  else (bif decide (a0 < a1) then (some (-1 : Int))
  else (bif decide (a0 > a1) then (some (1 : Int))
  else (some (0 : Int)))))
theorem c_cmp_Compare_int (a0 : Int) (a1 : Int) (r : Int) (h : m_cmp_Compare_int a0 a1 = some r) : Ret Try.prog f_cmp_Compare_int [e_int a0, e_int a1] (e_int r) := by
  refine Does.goG [] F_cmp_Compare_int rfl e_cmp_Compare_int n_cmp_Compare_int rfl (rvs := [.tmp 4]) rfl rfl ?_; intro w0 ok0 lent ρ0; refine .seq_k fun N1 hN1 => ?_; refine .region (l := [_]) (.assign (e_int (0 : Int)) rfl (hn := .nil (hN1 _ ?_))); refine .seq_k fun N2 hN2 => ?_; refine .region (l := [_,_,_]) (.move (e_int a0) rfl (hn := bk h fun x3 e3 h => ?_)); refine .vcall rfl rfl (c_cmp_isNaN_int _ _ e3) (.same (.nil)) (hn := ?_); refine .assign (e_bool x3) rfl (hn := .nil (hN2 _ ?_)); refine .seq_k fun N4 hN4 => ?_; refine .region (l := [_,_,_]) (.move (e_int a1) rfl (hn := bk h fun x5 e5 h => ?_)); refine .vcall rfl rfl (c_cmp_isNaN_int _ _ e5) (.same (.nil)) (hn := ?_); refine .assign (e_bool x5) rfl (hn := .nil (hN4 _ ?_)); refine .seq_k fun N6 hN6 => ?_; refine .seq_k fun N7 hN7 => ?_; refine .region (l := [_]) (.move (e_bool x3) rfl (hn := .nil (hN7 _ ?_))); refine .cond_split rfl (fun h8 => ?_) (fun h8 => ?_)
  ·have h := bT h8 h; refine .seq_k fun N9 hN9 => ?_; refine .seq_k fun N10 hN10 => ?_; refine .region (l := [_]) (.move (e_bool x5) rfl (hn := .nil (hN10 _ ?_))); refine .cond_split rfl (fun h11 => ?_) (fun h11 => ?_)
   ·have h := bT h11 h; refine .seq_k fun N12 hN12 => ?_; refine .region (l := [_]) (.assign (e_int (0 : Int)) rfl (hn := .nil (hN12 _ ?_))); obtain rfl := so h; refine .ret .p
   ·have h := bF h11 h; refine .skip (hN9 _ ?_); refine .seq_k fun N13 hN13 => ?_; refine .region (l := [_]) (.assign (e_int (-1 : Int)) rfl (hn := .nil (hN13 _ ?_))); obtain rfl := so h; refine .ret .p
  ·have h := bF h8 h; refine .skip (hN6 _ ?_); refine .seq_k fun N14 hN14 => ?_; refine .seq_k fun N15 hN15 => ?_; refine .region (l := [_]) (.move (e_bool x5) rfl (hn := .nil (hN15 _ ?_))); refine .cond_split rfl (fun h16 => ?_) (fun h16 => ?_)
   ·have h := bT h16 h; refine .seq_k fun N17 hN17 => ?_; refine .region (l := [_]) (.assign (e_int (1 : Int)) rfl (hn := .nil (hN17 _ ?_))); obtain rfl := so h; refine .ret .p
   ·have h := bF h16 h; refine .skip (hN14 _ ?_); refine .seq_k fun N18 hN18 => ?_; refine .seq_k fun N19 hN19 => ?_; refine .region (l := [_,_,_]) (.move (e_int a0) rfl (hn := .move (e_int a1) rfl (hn := .int _ rfl rfl rfl (hn := .nil (hN19 _ ?_))))); refine .cond_split rfl (fun h20 => ?_) (fun h20 => ?_)
    ·have h := bT h20 h; refine .seq_k fun N21 hN21 => ?_; refine .region (l := [_]) (.assign (e_int (-1 : Int)) rfl (hn := .nil (hN21 _ ?_))); obtain rfl := so h; refine .ret .p
    ·have h := bF h20 h; refine .skip (hN18 _ ?_); refine .seq_k fun N22 hN22 => ?_; refine .seq_k fun N23 hN23 => ?_; refine .region (l := [_,_,_]) (.move (e_int a0) rfl (hn := .move (e_int a1) rfl (hn := .int _ rfl rfl rfl (hn := .nil (hN23 _ ?_))))); refine .cond_split rfl (fun h24 => ?_) (fun h24 => ?_)
     ·have h := bT h24 h; refine .seq_k fun N25 hN25 => ?_; refine .region (l := [_]) (.assign (e_int (1 : Int)) rfl (hn := .nil (hN25 _ ?_))); obtain rfl := so h; refine .ret .p
     ·have h := bF h24 h; refine .skip (hN22 _ ?_); refine .seq_k fun N26 hN26 => ?_; refine .region (l := [_]) (.assign (e_int (0 : Int)) rfl (hn := .nil (hN26 _ ?_))); obtain rfl := so h; refine .ret .p

def m_cmp_isNaN_string (a0 : ByteArray) : Option Bool :=
  some (!(sEq a0 a0))
theorem c_cmp_isNaN_string (a0 : ByteArray) (r : Bool) (h : m_cmp_isNaN_string a0 = some r) : Ret Try.prog f_cmp_isNaN_string [e_string a0] (e_bool r) := by
  refine Does.goG [] F_cmp_isNaN_string rfl e_cmp_isNaN_string n_cmp_isNaN_string rfl (rvs := [.tmp 2]) rfl rfl ?_; intro w0 ok0 lent ρ0; refine .seq_k fun N1 hN1 => ?_; refine .region (l := [_]) (.assign (e_bool false) rfl (hn := .nil (hN1 _ ?_))); refine .seq_k fun N2 hN2 => ?_; refine .region (l := [_,_,_,_]) (.move (e_string a0) rfl (hn := .move (e_string a0) rfl (hn := .str _ rfl rfl rfl (hn := .assign (e_bool (!(sEq a0 a0))) rfl (hn := .nil (hN2 _ ?_)))))); obtain rfl := so h; refine .ret .p

def m_cmp_Compare_string (a0 : ByteArray) (a1 : ByteArray) : Option Int :=
  (m_cmp_isNaN_string a0).bind fun x3 =>
  (m_cmp_isNaN_string a1).bind fun x5 =>
  bif x3 then (bif x5 then (some (0 : Int))
    else (some (-1 : Int)))
  else (bif x5 then (some (1 : Int))
  else (bif (sLt a0 a1) then (some (-1 : Int))
  else (bif (!(sLt a0 a1 || sEq a0 a1)) then (some (1 : Int))
  else (some (0 : Int)))))
theorem c_cmp_Compare_string (a0 : ByteArray) (a1 : ByteArray) (r : Int) (h : m_cmp_Compare_string a0 a1 = some r) : Ret Try.prog f_cmp_Compare_string [e_string a0, e_string a1] (e_int r) := by
  refine Does.goG [] F_cmp_Compare_string rfl e_cmp_Compare_string n_cmp_Compare_string rfl (rvs := [.tmp 4]) rfl rfl ?_; intro w0 ok0 lent ρ0; refine .seq_k fun N1 hN1 => ?_; refine .region (l := [_]) (.assign (e_int (0 : Int)) rfl (hn := .nil (hN1 _ ?_))); refine .seq_k fun N2 hN2 => ?_; refine .region (l := [_,_,_]) (.move (e_string a0) rfl (hn := bk h fun x3 e3 h => ?_)); refine .vcall rfl rfl (c_cmp_isNaN_string _ _ e3) (.same (.nil)) (hn := ?_); refine .assign (e_bool x3) rfl (hn := .nil (hN2 _ ?_)); refine .seq_k fun N4 hN4 => ?_; refine .region (l := [_,_,_]) (.move (e_string a1) rfl (hn := bk h fun x5 e5 h => ?_)); refine .vcall rfl rfl (c_cmp_isNaN_string _ _ e5) (.same (.nil)) (hn := ?_); refine .assign (e_bool x5) rfl (hn := .nil (hN4 _ ?_)); refine .seq_k fun N6 hN6 => ?_; refine .seq_k fun N7 hN7 => ?_; refine .region (l := [_]) (.move (e_bool x3) rfl (hn := .nil (hN7 _ ?_))); refine .cond_split rfl (fun h8 => ?_) (fun h8 => ?_)
  ·have h := bT h8 h; refine .seq_k fun N9 hN9 => ?_; refine .seq_k fun N10 hN10 => ?_; refine .region (l := [_]) (.move (e_bool x5) rfl (hn := .nil (hN10 _ ?_))); refine .cond_split rfl (fun h11 => ?_) (fun h11 => ?_)
   ·have h := bT h11 h; refine .seq_k fun N12 hN12 => ?_; refine .region (l := [_]) (.assign (e_int (0 : Int)) rfl (hn := .nil (hN12 _ ?_))); obtain rfl := so h; refine .ret .p
   ·have h := bF h11 h; refine .skip (hN9 _ ?_); refine .seq_k fun N13 hN13 => ?_; refine .region (l := [_]) (.assign (e_int (-1 : Int)) rfl (hn := .nil (hN13 _ ?_))); obtain rfl := so h; refine .ret .p
  ·have h := bF h8 h; refine .skip (hN6 _ ?_); refine .seq_k fun N14 hN14 => ?_; refine .seq_k fun N15 hN15 => ?_; refine .region (l := [_]) (.move (e_bool x5) rfl (hn := .nil (hN15 _ ?_))); refine .cond_split rfl (fun h16 => ?_) (fun h16 => ?_)
   ·have h := bT h16 h; refine .seq_k fun N17 hN17 => ?_; refine .region (l := [_]) (.assign (e_int (1 : Int)) rfl (hn := .nil (hN17 _ ?_))); obtain rfl := so h; refine .ret .p
   ·have h := bF h16 h; refine .skip (hN14 _ ?_); refine .seq_k fun N18 hN18 => ?_; refine .seq_k fun N19 hN19 => ?_; refine .region (l := [_,_,_]) (.move (e_string a0) rfl (hn := .move (e_string a1) rfl (hn := .str _ rfl rfl rfl (hn := .nil (hN19 _ ?_))))); refine .cond_split rfl (fun h20 => ?_) (fun h20 => ?_)
    ·have h := bT h20 h; refine .seq_k fun N21 hN21 => ?_; refine .region (l := [_]) (.assign (e_int (-1 : Int)) rfl (hn := .nil (hN21 _ ?_))); obtain rfl := so h; refine .ret .p
    ·have h := bF h20 h; refine .skip (hN18 _ ?_); refine .seq_k fun N22 hN22 => ?_; refine .seq_k fun N23 hN23 => ?_; refine .region (l := [_,_,_]) (.move (e_string a0) rfl (hn := .move (e_string a1) rfl (hn := .str _ rfl rfl rfl (hn := .nil (hN23 _ ?_))))); refine .cond_split rfl (fun h24 => ?_) (fun h24 => ?_)
     ·have h := bT h24 h; refine .seq_k fun N25 hN25 => ?_; refine .region (l := [_]) (.assign (e_int (1 : Int)) rfl (hn := .nil (hN25 _ ?_))); obtain rfl := so h; refine .ret .p
     ·have h := bF h24 h; refine .skip (hN22 _ ?_); refine .seq_k fun N26 hN26 => ?_; refine .region (l := [_]) (.assign (e_int (0 : Int)) rfl (hn := .nil (hN26 _ ?_))); obtain rfl := so h; refine .ret .p

def m_cmp_Or_int_j1 (t3 : Int) : Option Int :=
  some t3
def m_cmp_Or_int_l1 : Nat → Int → (List Int) → Int → Int → Option Int
  | 0, _, _, _, _ => none
  | n1 + 1, t3, t6, t7, t8 =>
    bif decide (t8 < t7) then ((at? t6 t8).bind fun x12 =>
    bif (x12 != t3) then (some x12)
    else ((ckI (t8 + (1 : Int))).bind fun x16 =>
    (m_cmp_Or_int_l1  n1) t3 t6 t7 x16))
    else (m_cmp_Or_int_j1  t3)
def m_cmp_Or_int (a0 : (List Int)) : Option Int :=
  m_cmp_Or_int_l1  (((a0.length : Int) - (0 : Int)).toNat + 1) (0 : Int) a0 (a0.length : Int) (0 : Int)
theorem c_cmp_Or_int (a0 : (List Int)) (r : Int) (h : m_cmp_Or_int a0 = some r) : Ret Try.prog f_cmp_Or_int [e_Lint a0] (e_int r) := by
  refine Does.goG [] F_cmp_Or_int rfl e_cmp_Or_int n_cmp_Or_int rfl (rvs := [.tmp 2]) rfl rfl ?_; intro w0 ok0 lent ρ0; refine .seq_k fun N1 hN1 => ?_; refine .region (l := [_]) (.assign (e_int (0 : Int)) rfl (hn := .nil (hN1 _ ?_))); refine .seq_k fun N2 hN2 => ?_; refine .region (l := [_]) (.assign (e_int (0 : Int)) rfl (hn := .nil (hN2 _ ?_))); refine .join (α := Int) (fun z : Int => [(3, (e_int z))]) (fun z : Int => []) (fun z : Int => m_cmp_Or_int_j1  z) r (fun _ => by simp [hkeys]) ?_ ?_
  ·rintro t3 h; replace h : m_cmp_Or_int_j1  t3 = some _ := h; refine .seq_k fun N17 hN17 => ?_; refine .region (l := [_,_]) (.move (e_int t3) rfl (hn := .assign (e_int t3) rfl (hn := .nil (hN17 _ ?_)))); obtain rfl := so h; refine .ret .p
  ·intro N3 hN3; refine .seq_k fun N4 hN4 => ?_; refine .region (l := [_,_,_]) (.move (e_Lint a0) rfl (hn := .lenM (f := e_int) (l := a0) u_Lint rfl (hn := ?_))); refine .move (e_int (0 : Int)) rfl (hn := .nil (hN4 _ ?_)); refine .block ?_; refine .loopM (α := Int × (List Int) × Int × Int) (fun z : Int × (List Int) × Int × Int => [(3, (e_int z.1)), (6, (e_Lint z.2.1)), (7, (e_int z.2.2.1)), (8, (e_int z.2.2.2))]) (fun z : Int × (List Int) × Int × Int => []) (fun n1 (z : Int × (List Int) × Int × Int) => m_cmp_Or_int_l1  n1 z.1 z.2.1 z.2.2.1 z.2.2.2) r _ ((0 : Int), a0, (a0.length : Int), (0 : Int)) h (fun _ => rfl) (fun _ => by simp [hkeys]) ⟨rfl, rfl, rfl, rfl, trivial⟩ trivial ?_; rintro n1 ⟨t3, t6, t7, t8⟩ h N5 hN5; replace h : m_cmp_Or_int_l1  (n1 + 1) t3 t6 t7 t8 = some _ := h; refine .seq_k fun N7 hN7 => ?_; refine .region (l := [_]) (.int _ rfl rfl rfl (hn := .nil (hN7 _ ?_))); refine .seq_k fun N8 hN8 => ?_; refine .cond_split rfl (fun h9 => ?_) (fun h9 => ?_)
   ·have h := bT h9 h; refine .skip (hN8 _ ?_); refine .seq_k fun N10 hN10 => ?_; refine .block ?_; refine .seq_k fun N11 hN11 => ?_; refine .region (l := [_,_,_]) (bk h fun x12 e12 h => ?_); refine .indexM (f := e_int) e12 u_Lint s_int rfl rfl (hn := ?_); refine .load1 (c := (e_int x12)) g_int rfl (hn := .assign (e_int x12) rfl (hn := .nil (hN11 _ ?_))); refine .seq_k fun N13 hN13 => ?_; refine .region (l := [_,_,_]) (.move (e_int x12) rfl (hn := .move (e_int t3) rfl (hn := .int _ rfl rfl rfl (hn := .nil (hN13 _ ?_))))); refine .cond_split rfl (fun h14 => ?_) (fun h14 => ?_)
    ·have h := bT h14 h; refine .seq_k fun N15 hN15 => ?_; refine .region (l := [_,_]) (.move (e_int x12) rfl (hn := .assign (e_int x12) rfl (hn := .nil (hN15 _ ?_)))); obtain rfl := so h; refine .ret .p
    ·have h := bF h14 h; refine .skip (hN10 _ ?_); refine .region (l := [_,_]) (bk h fun x16 e16 h => ?_); refine .int _ rfl rfl (add_ck e16) (hn := .move (e_int x16) rfl (hn := .nil (hN5 (t3, t6, t7, x16) _ ⟨rfl, rfl, rfl, rfl, trivial⟩ trivial h)))
   ·have h := bF h9 h; refine .exit (hN3 t3 _ ⟨rfl, trivial⟩ trivial h)
end Go.Proofs.Ytjmeoggmdnlicaa
