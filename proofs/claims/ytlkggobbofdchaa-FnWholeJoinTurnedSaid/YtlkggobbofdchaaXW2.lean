/- Mirrors of functions, and that the functions return what the mirrors say. -/
import Derived.Test.YtlkggobbofdchaaXW1
set_option linter.unusedVariables false
set_option linter.unusedSimpArgs false
set_option linter.unnecessarySimpa false
set_option maxHeartbeats 4000000
namespace Go.Proofs.Ytlkggobbofdchaa
open Go.Proofs Go.Lift Go.RowKit
def m_slices_IndexFunc_Limpl_Column_impl_Column_j1 (p1 : S_impl_Column → Option Bool)  : Option Int :=
  some (-1 : Int)
def m_slices_IndexFunc_Limpl_Column_impl_Column_l1 (p1 : S_impl_Column → Option Bool) : Nat → (List S_impl_Column) → Int → Int → Option Int
  | 0, _, _, _ => none
  | n1 + 1, t0, t7, t8 =>
    bif decide (t8 < t7) then ((at? t0 t8).bind fun x12 =>
    (p1 x12).bind fun x13 =>
    bif x13 then (some t8)
    else ((ckI (t8 + (1 : Int))).bind fun x16 =>
    (m_slices_IndexFunc_Limpl_Column_impl_Column_l1 p1 n1) t0 t7 x16))
    else (m_slices_IndexFunc_Limpl_Column_impl_Column_j1 p1 )
def m_slices_IndexFunc_Limpl_Column_impl_Column (a0 : (List S_impl_Column)) (p1 : S_impl_Column → Option Bool) : Option Int :=
  m_slices_IndexFunc_Limpl_Column_impl_Column_l1 p1 (((a0.length : Int) - (0 : Int)).toNat + 1) a0 (a0.length : Int) (0 : Int)
theorem c_slices_IndexFunc_Limpl_Column_impl_Column (a0 : (List S_impl_Column)) (p1 : S_impl_Column → Option Bool) (f1 : FuncId) (q1 : List LV) (hq1 : ∀ k, LV.at?.atL k q1 = false) (hf1 : ∀ a0 v, p1 a0 = some v → Ret Try.prog f1 (e_impl_Column a0 :: q1) (e_bool v)) (r : Int) (h : m_slices_IndexFunc_Limpl_Column_impl_Column a0 p1 = some r) : Ret Try.prog f_slices_IndexFunc_Limpl_Column_impl_Column [e_Limpl_Column a0, .clo f1 q1] (e_int r) := by
  refine Does.goG [] F_slices_IndexFunc_Limpl_Column_impl_Column rfl e_slices_IndexFunc_Limpl_Column_impl_Column n_slices_IndexFunc_Limpl_Column_impl_Column rfl (rvs := [.tmp 4]) rfl rfl ?_; intro w0 ok0 lent ρ0; refine .seq_k fun N1 hN1 => ?_; refine .region (l := [_]) (.assign (e_int (0 : Int)) rfl (hn := .nil (hN1 _ ?_))); refine .join (α := Unit) (fun z : Unit => []) (fun z : Unit => []) (fun z : Unit => m_slices_IndexFunc_Limpl_Column_impl_Column_j1 p1 ) r (fun _ => by simp [hkeys]) ?_ ?_
  ·rintro _ h; replace h : m_slices_IndexFunc_Limpl_Column_impl_Column_j1 p1  = some _ := h; refine .seq_k fun N17 hN17 => ?_; refine .region (l := [_]) (.assign (e_int (-1 : Int)) rfl (hn := .nil (hN17 _ ?_))); obtain rfl := so h; refine .ret .p
  ·intro N2 hN2; refine .seq_k fun N3 hN3 => ?_; refine .region (l := [_,_,_]) (.move (e_Limpl_Column a0) rfl (hn := .lenM (f := e_impl_Column) (l := a0) u_Limpl_Column rfl (hn := ?_))); refine .move (e_int (0 : Int)) rfl (hn := .nil (hN3 _ ?_)); refine .block ?_; refine .loopM (α := (List S_impl_Column) × Int × Int) (fun z : (List S_impl_Column) × Int × Int => [(0, (e_Limpl_Column z.1)), (1, (.clo f1 q1)), (7, (e_int z.2.1)), (8, (e_int z.2.2))]) (fun z : (List S_impl_Column) × Int × Int => []) (fun n1 (z : (List S_impl_Column) × Int × Int) => m_slices_IndexFunc_Limpl_Column_impl_Column_l1 p1 n1 z.1 z.2.1 z.2.2) r _ (a0, (a0.length : Int), (0 : Int)) h (fun _ => rfl) (fun _ => by simp [hkeys]) ⟨rfl, rfl, rfl, rfl, trivial⟩ trivial ?_; rintro n1 ⟨t0, t7, t8⟩ h N4 hN4; replace h : m_slices_IndexFunc_Limpl_Column_impl_Column_l1 p1 (n1 + 1) t0 t7 t8 = some _ := h; refine .seq_k fun N6 hN6 => ?_; refine .region (l := [_]) (.int _ rfl rfl rfl (hn := .nil (hN6 _ ?_))); refine .seq_k fun N7 hN7 => ?_; refine .cond_split rfl (fun h8 => ?_) (fun h8 => ?_)
   ·have h := bT h8 h; refine .skip (hN7 _ ?_); refine .seq_k fun N9 hN9 => ?_; refine .block ?_; refine .seq_k fun N10 hN10 => ?_; refine .region (l := [_,_]) (.move (e_int t8) rfl (hn := .assign (e_int t8) rfl (hn := .nil (hN10 _ ?_)))); refine .seq_k fun N11 hN11 => ?_; refine .region (l := [_,_,_,_,_,_]) (.move (.clo f1 q1) rfl (hn := .move (e_Limpl_Column t0) rfl (hn := .move (e_int t8) rfl (hn := bk h fun x12 e12 h => ?_)))); refine .indexM (f := e_impl_Column) e12 u_Limpl_Column s_impl_Column rfl rfl (hn := ?_); refine .loadN ((e_impl_Column x12)).cells g_impl_Column s_impl_Column rfl (Nat.le_of_ble_eq_true rfl) rfl (hn := ?_); refine bk h fun x13 e13 h => ?_; refine .vcall rfl rfl (hf1 _ _ e13) .refl (hn := ?_); refine .nil (hN11 _ ?_); refine .cond_split rfl (fun h14 => ?_) (fun h14 => ?_)
    ·have h := bT h14 h; refine .seq_k fun N15 hN15 => ?_; refine .region (l := [_,_]) (.move (e_int t8) rfl (hn := .assign (e_int t8) rfl (hn := .nil (hN15 _ ?_)))); obtain rfl := so h; refine .ret .p
    ·have h := bF h14 h; refine .skip (hN9 _ ?_); refine .region (l := [_,_]) (bk h fun x16 e16 h => ?_); refine .int _ rfl rfl (add_ck e16) (hn := .move (e_int x16) rfl (hn := .nil (hN4 (t0, t7, x16) _ ⟨rfl, rfl, rfl, rfl, trivial⟩ trivial h)))
   ·have h := bF h8 h; refine .exit (hN2 () _ trivial trivial h)

def m_slices_ContainsFunc_Limpl_Column_impl_Column (a0 : (List S_impl_Column)) (p1 : S_impl_Column → Option Bool) : Option Bool :=
  (m_slices_IndexFunc_Limpl_Column_impl_Column a0 p1).bind fun x3 =>
  some (decide (x3 ≥ (0 : Int)))
theorem c_slices_ContainsFunc_Limpl_Column_impl_Column (a0 : (List S_impl_Column)) (p1 : S_impl_Column → Option Bool) (f1 : FuncId) (q1 : List LV) (hq1 : ∀ k, LV.at?.atL k q1 = false) (hf1 : ∀ a0 v, p1 a0 = some v → Ret Try.prog f1 (e_impl_Column a0 :: q1) (e_bool v)) (r : Bool) (h : m_slices_ContainsFunc_Limpl_Column_impl_Column a0 p1 = some r) : Ret Try.prog f_slices_ContainsFunc_Limpl_Column_impl_Column [e_Limpl_Column a0, .clo f1 q1] (e_bool r) := by
  refine Does.goG [] F_slices_ContainsFunc_Limpl_Column_impl_Column rfl e_slices_ContainsFunc_Limpl_Column_impl_Column n_slices_ContainsFunc_Limpl_Column_impl_Column rfl (rvs := [.tmp 4]) rfl rfl ?_; intro w0 ok0 lent ρ0; refine .seq_k fun N1 hN1 => ?_; refine .region (l := [_]) (.assign (e_bool false) rfl (hn := .nil (hN1 _ ?_))); refine .seq_k fun N2 hN2 => ?_; refine .region (l := [_,_,_,_,_]) (.move (e_Limpl_Column a0) rfl (hn := .move (.clo f1 q1) rfl (hn := bk h fun x3 e3 h => ?_))); refine .vcall rfl rfl (c_slices_IndexFunc_Limpl_Column_impl_Column _ _ f1 q1 hq1 hf1 _ e3) (.same (.same (.nil))) (hn := ?_); refine .int _ rfl rfl rfl (hn := .assign (e_bool (decide (x3 ≥ (0 : Int)))) rfl (hn := .nil (hN2 _ ?_))); obtain rfl := so h; refine .ret .p

def m_impl_between_j1 (t6 : Bool) : Option Bool :=
  some t6
def m_impl_between (a0 : Int) (a1 : Int) (a2 : Int) : Option Bool :=
  bif decide (a0 ≥ a1) then (m_impl_between_j1  (decide (a0 ≤ a2)))
  else (m_impl_between_j1  false)
theorem c_impl_between (a0 : Int) (a1 : Int) (a2 : Int) (r : Bool) (h : m_impl_between a0 a1 a2 = some r) : Ret Try.prog f_impl_between [e_int a0, e_int a1, e_int a2] (e_bool r) := by
  refine Does.goG [] F_impl_between rfl e_impl_between n_impl_between rfl (rvs := [.tmp 6]) rfl rfl ?_; intro w0 ok0 lent ρ0; refine .seq_k fun N1 hN1 => ?_; refine .region (l := [_]) (.assign (e_bool false) rfl (hn := .nil (hN1 _ ?_))); refine .join (α := Bool) (fun z : Bool => [(6, (e_bool z))]) (fun z : Bool => []) (fun z : Bool => m_impl_between_j1  z) r (fun _ => by simp [hkeys]) ?_ ?_
  ·rintro t6 h; replace h : m_impl_between_j1  t6 = some _ := h; obtain rfl := so h; refine .ret .p
  ·intro N2 hN2; refine .region (l := [_,_,_,_,_,_,_,_,_]) (.move (e_int a0) rfl (hn := .move (e_int a1) rfl (hn := .int _ rfl rfl rfl (hn := .move (e_bool (decide (a0 ≥ a1))) rfl (hn := .byCases (t := 10) _ rfl (fun h3 => ?_) (fun h3 => ?_))))))
   ·have h := bT h3 h; refine .gY 10 h3 (.move (e_int a0) rfl (hn := .gY 10 h3 (.move (e_int a2) rfl (hn := .gY 10 h3 (.int _ rfl rfl rfl (hn := .pickTM (e_bool (decide (a0 ≤ a2))) rfl h3 rfl (hn := .assign (e_bool (decide (a0 ≤ a2))) rfl (hn := .nil (hN2 (decide (a0 ≤ a2)) _ ⟨rfl, trivial⟩ trivial h)))))))))
   ·have h := bF h3 h; refine .gN 10 h3 (.gN 10 h3 (.gN 10 h3 (.pickFM (e_bool false) rfl h3 rfl (hn := .assign (e_bool false) rfl (hn := .nil (hN2 false _ ⟨rfl, trivial⟩ trivial h))))))

def m_impl_ColumnsOk_1 (a0 : S_impl_Column) : Option Bool :=
  (m_impl_between a0.Kind (1 : Int) (3 : Int)).bind fun x3 =>
  some (!x3)
theorem c_impl_ColumnsOk_1 (a0 : S_impl_Column) (r : Bool) (h : m_impl_ColumnsOk_1 a0 = some r) : Ret Try.prog f_impl_ColumnsOk_1 [e_impl_Column a0] (e_bool r) := by
  refine Does.goG [] F_impl_ColumnsOk_1 rfl e_impl_ColumnsOk_1 n_impl_ColumnsOk_1 rfl (rvs := [.tmp 2]) rfl rfl ?_; intro w0 ok0 lent ρ0; refine .seq_k fun N1 hN1 => ?_; refine .region (l := [_,_]) (.boxF (e_impl_Column a0) rfl rfl rfl (hn := .assign (e_bool false) rfl (hn := .nil (hN1 _ ?_)))); refine .seq_k fun N2 hN2 => ?_; refine .region (l := [_,_,_,_,_]) (.fieldAddr _ u_impl_Column rfl s_int rfl rfl (hn := .load1 (c := (e_int a0.Kind)) g_int rfl (hn := bk h fun x3 e3 h => ?_))); refine .vcall rfl rfl (c_impl_between _ _ _ _ e3) (.same (.same (.same (.nil)))) (hn := ?_); refine .not rfl (hn := ?_); refine .assign (e_bool (!x3)) rfl (hn := .nil (hN2 _ ?_)); obtain rfl := so h; refine .ret .p

def m_impl_ColumnsOk_j1 (t2 : Bool) : Option Bool :=
  some t2
def m_impl_ColumnsOk (a0 : (List S_impl_Column)) : Option Bool :=
  bif decide ((a0.length : Int) ≤ (4 : Int)) then ((m_slices_ContainsFunc_Limpl_Column_impl_Column a0 (fun b0_ => m_impl_ColumnsOk_1 b0_ )).bind fun x4 =>
    m_impl_ColumnsOk_j1  (!x4))
  else (m_impl_ColumnsOk_j1  false)
theorem c_impl_ColumnsOk (a0 : (List S_impl_Column)) (r : Bool) (h : m_impl_ColumnsOk a0 = some r) : Ret Try.prog f_impl_ColumnsOk [e_Limpl_Column a0] (e_bool r) := by
  refine Does.goG [] F_impl_ColumnsOk rfl e_impl_ColumnsOk n_impl_ColumnsOk rfl (rvs := [.tmp 2]) rfl rfl ?_; intro w0 ok0 lent ρ0; refine .seq_k fun N1 hN1 => ?_; refine .region (l := [_]) (.assign (e_bool false) rfl (hn := .nil (hN1 _ ?_))); refine .join (α := Bool) (fun z : Bool => [(2, (e_bool z))]) (fun z : Bool => []) (fun z : Bool => m_impl_ColumnsOk_j1  z) r (fun _ => by simp [hkeys]) ?_ ?_
  ·rintro t2 h; replace h : m_impl_ColumnsOk_j1  t2 = some _ := h; obtain rfl := so h; refine .ret .p
  ·intro N2 hN2; refine .region (l := [_,_,_,_,_,_,_,_,_]) (.move (e_Limpl_Column a0) rfl (hn := .lenM (f := e_impl_Column) (l := a0) u_Limpl_Column rfl (hn := ?_))); refine .int _ rfl rfl rfl (hn := .move (e_bool (decide ((a0.length : Int) ≤ (4 : Int)))) rfl (hn := .byCases (t := 6) _ rfl (fun h3 => ?_) (fun h3 => ?_)))
   ·have h := bT h3 h; refine .gY 6 h3 (.move (e_Limpl_Column a0) rfl (hn := bk h fun x4 e4 h => ?_)); refine .gY 6 h3 (.vcall rfl rfl (c_slices_ContainsFunc_Limpl_Column_impl_Column _ _ f_impl_ColumnsOk_1 [] (fun _ => rfl) (fun b0_ v hv => c_impl_ColumnsOk_1 b0_  v hv) _ e4) (.same (.same (.nil))) (hn := ?_)); refine .gY 6 h3 (.not rfl (hn := ?_)); refine .pickTM (e_bool (!x4)) rfl h3 rfl (hn := .assign (e_bool (!x4)) rfl (hn := .nil (hN2 (!x4) _ ⟨rfl, trivial⟩ trivial h)))
   ·have h := bF h3 h; refine .gN 6 h3 (.gN 6 h3 (.gN 6 h3 (.pickFM (e_bool false) rfl h3 rfl (hn := .assign (e_bool false) rfl (hn := .nil (hN2 false _ ⟨rfl, trivial⟩ trivial h))))))

def m_impl_Part_takes_j2 (t10 : Bool) : Option Int :=
  bif t10 then (some (1 : Int))
  else (some (0 : Int))
def m_impl_Part_takes_j1 (t4 : Int) (t5 : Bool) : Option Int :=
  bif t5 then (some (2 : Int))
  else (bif (t4 == (7 : Int)) then (m_impl_Part_takes_j2  (t4 == (7 : Int)))
    else (m_impl_Part_takes_j2  (t4 == (8 : Int))))
def m_impl_Part_takes (a0 : S_impl_Part) : Option Int :=
  bif (a0.Kind == (3 : Int)) then (m_impl_Part_takes_j1  a0.Kind (a0.Kind == (3 : Int)))
  else (bif (a0.Kind == (4 : Int)) then (m_impl_Part_takes_j1  a0.Kind (a0.Kind == (4 : Int)))
    else (bif (a0.Kind == (5 : Int)) then (m_impl_Part_takes_j1  a0.Kind (a0.Kind == (5 : Int)))
      else (m_impl_Part_takes_j1  a0.Kind (a0.Kind == (6 : Int)))))
theorem c_impl_Part_takes (a0 : S_impl_Part) (r : Int) (h : m_impl_Part_takes a0 = some r) : Ret Try.prog f_impl_Part_takes [e_impl_Part a0] (e_int r) := by
  refine Does.goG [] F_impl_Part_takes rfl e_impl_Part_takes n_impl_Part_takes rfl (rvs := [.tmp 2]) rfl rfl ?_; intro w0 ok0 lent ρ0; refine .seq_k fun N1 hN1 => ?_; refine .region (l := [_,_]) (.boxF (e_impl_Part a0) rfl rfl rfl (hn := .assign (e_int (0 : Int)) rfl (hn := .nil (hN1 _ ?_)))); refine .seq_k fun N2 hN2 => ?_; refine .seq_k fun N3 hN3 => ?_; refine .region (l := [_,_]) (.fieldAddr _ u_impl_Part rfl s_int rfl rfl (hn := .load1 (c := (e_int a0.Kind)) g_int rfl (hn := .nil (hN3 _ ?_)))); refine .block ?_; refine .join (α := Int × Bool) (fun z : Int × Bool => [(4, (e_int z.1)), (5, (e_bool z.2))]) (fun z : Int × Bool => []) (fun z : Int × Bool => m_impl_Part_takes_j1  z.1 z.2) r (fun _ => by simp [hkeys]) ?_ ?_
  ·rintro ⟨t4, t5⟩ h; replace h : m_impl_Part_takes_j1  t4 t5 = some _ := h; refine .cond_split rfl (fun h11 => ?_) (fun h11 => ?_)
   ·have h := bT h11 h; refine .seq_k fun N12 hN12 => ?_; refine .region (l := [_]) (.assign (e_int (2 : Int)) rfl (hn := .nil (hN12 _ ?_))); obtain rfl := so h; refine .ret .p
   ·have h := bF h11 h; refine .join (α := Bool) (fun z : Bool => [(10, (e_bool z))]) (fun z : Bool => []) (fun z : Bool => m_impl_Part_takes_j2  z) r (fun _ => by simp [hkeys]) ?_ ?_
    ·rintro t10 h; replace h : m_impl_Part_takes_j2  t10 = some _ := h; refine .cond_split rfl (fun h16 => ?_) (fun h16 => ?_)
     ·have h := bT h16 h; refine .seq_k fun N17 hN17 => ?_; refine .region (l := [_]) (.assign (e_int (1 : Int)) rfl (hn := .nil (hN17 _ ?_))); obtain rfl := so h; refine .ret .p
     ·have h := bF h16 h; refine .skip (hN2 _ ?_); refine .seq_k fun N18 hN18 => ?_; refine .region (l := [_]) (.assign (e_int (0 : Int)) rfl (hn := .nil (hN18 _ ?_))); obtain rfl := so h; refine .ret .p
    ·intro N13 hN13; refine .seq_k fun N14 hN14 => ?_; refine .region (l := [_,_]) (.int _ rfl rfl rfl (hn := .assign (e_bool (t4 == (7 : Int))) rfl (hn := .nil (hN14 _ ?_)))); refine .cond_split rfl (fun h15 => ?_) (fun h15 => ?_)
     ·have h := bT h15 h; refine .skip (hN13 (t4 == (7 : Int)) _ ⟨rfl, trivial⟩ trivial h)
     ·have h := bF h15 h; refine .region (l := [_,_]) (.int _ rfl rfl rfl (hn := .assign (e_bool (t4 == (8 : Int))) rfl (hn := .nil (hN13 (t4 == (8 : Int)) _ ⟨rfl, trivial⟩ trivial h))))
  ·intro N4 hN4; refine .seq_k fun N5 hN5 => ?_; refine .region (l := [_,_]) (.int _ rfl rfl rfl (hn := .assign (e_bool (a0.Kind == (3 : Int))) rfl (hn := .nil (hN5 _ ?_)))); refine .cond_split rfl (fun h6 => ?_) (fun h6 => ?_)
   ·have h := bT h6 h; refine .skip (hN4 (a0.Kind, (a0.Kind == (3 : Int))) _ ⟨rfl, rfl, trivial⟩ trivial h)
   ·have h := bF h6 h; refine .seq_k fun N7 hN7 => ?_; refine .region (l := [_,_]) (.int _ rfl rfl rfl (hn := .assign (e_bool (a0.Kind == (4 : Int))) rfl (hn := .nil (hN7 _ ?_)))); refine .cond_split rfl (fun h8 => ?_) (fun h8 => ?_)
    ·have h := bT h8 h; refine .skip (hN4 (a0.Kind, (a0.Kind == (4 : Int))) _ ⟨rfl, rfl, trivial⟩ trivial h)
    ·have h := bF h8 h; refine .seq_k fun N9 hN9 => ?_; refine .region (l := [_,_]) (.int _ rfl rfl rfl (hn := .assign (e_bool (a0.Kind == (5 : Int))) rfl (hn := .nil (hN9 _ ?_)))); refine .cond_split rfl (fun h10 => ?_) (fun h10 => ?_)
     ·have h := bT h10 h; refine .skip (hN4 (a0.Kind, (a0.Kind == (5 : Int))) _ ⟨rfl, rfl, trivial⟩ trivial h)
     ·have h := bF h10 h; refine .region (l := [_,_]) (.int _ rfl rfl rfl (hn := .assign (e_bool (a0.Kind == (6 : Int))) rfl (hn := .nil (hN4 (a0.Kind, (a0.Kind == (6 : Int))) _ ⟨rfl, rfl, trivial⟩ trivial h))))

def m_impl_letters_j1  : Option Bool :=
  some true
def m_impl_letters_l1 : Nat → (List UInt8) → Int → Int → Option Bool
  | 0, _, _, _ => none
  | n1 + 1, t6, t7, t8 =>
    bif decide (t8 < t7) then ((at? t6 t8).bind fun x12 =>
    (m_impl_between (x12.toNat : Int) (97 : Int) (122 : Int)).bind fun x14 =>
    bif (!x14) then (some false)
    else ((ckI (t8 + (1 : Int))).bind fun x17 =>
    (m_impl_letters_l1  n1) t6 t7 x17))
    else (m_impl_letters_j1  )
def m_impl_letters (a0 : ByteArray) : Option Bool :=
  (sBytes? a0).bind fun x4 =>
  m_impl_letters_l1  (((x4.length : Int) - (0 : Int)).toNat + 1) x4 (x4.length : Int) (0 : Int)
theorem c_impl_letters (a0 : ByteArray) (r : Bool) (h : m_impl_letters a0 = some r) : Ret Try.prog f_impl_letters [e_string a0] (e_bool r) := by
  refine Does.goG [] F_impl_letters rfl e_impl_letters n_impl_letters rfl (rvs := [.tmp 2]) rfl rfl ?_; intro w0 ok0 lent ρ0; refine .seq_k fun N1 hN1 => ?_; refine .region (l := [_]) (.assign (e_bool false) rfl (hn := .nil (hN1 _ ?_))); refine .join (α := Unit) (fun z : Unit => []) (fun z : Unit => []) (fun z : Unit => m_impl_letters_j1  ) r (fun _ => by simp [hkeys]) ?_ ?_
  ·rintro _ h; replace h : m_impl_letters_j1   = some _ := h; refine .seq_k fun N18 hN18 => ?_; refine .region (l := [_]) (.assign (e_bool true) rfl (hn := .nil (hN18 _ ?_))); obtain rfl := so h; refine .ret .p
  ·intro N2 hN2; refine .seq_k fun N3 hN3 => ?_; refine .region (l := [_,_,_,_]) (.move (e_string a0) rfl (hn := bk h fun x4 e4 h => ?_)); refine .bytesM e4 u_string u_Luint8 u_uint8 rfl (hn := ?_); refine .lenM (f := e_uint8) (l := x4) u_Luint8 rfl (hn := ?_); refine .move (e_int (0 : Int)) rfl (hn := .nil (hN3 _ ?_)); refine .block ?_; refine .loopM (α := (List UInt8) × Int × Int) (fun z : (List UInt8) × Int × Int => [(6, (e_Luint8 z.1)), (7, (e_int z.2.1)), (8, (e_int z.2.2))]) (fun z : (List UInt8) × Int × Int => []) (fun n1 (z : (List UInt8) × Int × Int) => m_impl_letters_l1  n1 z.1 z.2.1 z.2.2) r _ (x4, (x4.length : Int), (0 : Int)) h (fun _ => rfl) (fun _ => by simp [hkeys]) ⟨rfl, rfl, rfl, trivial⟩ trivial ?_; rintro n1 ⟨t6, t7, t8⟩ h N5 hN5; replace h : m_impl_letters_l1  (n1 + 1) t6 t7 t8 = some _ := h; refine .seq_k fun N7 hN7 => ?_; refine .region (l := [_]) (.int _ rfl rfl rfl (hn := .nil (hN7 _ ?_))); refine .seq_k fun N8 hN8 => ?_; refine .cond_split rfl (fun h9 => ?_) (fun h9 => ?_)
   ·have h := bT h9 h; refine .skip (hN8 _ ?_); refine .seq_k fun N10 hN10 => ?_; refine .block ?_; refine .seq_k fun N11 hN11 => ?_; refine .region (l := [_,_,_]) (bk h fun x12 e12 h => ?_); refine .indexM (f := e_uint8) e12 u_Luint8 s_uint8 rfl rfl (hn := ?_); refine .load1 (c := (e_uint8 x12)) g_uint8 rfl (hn := .assign (e_uint8 x12) rfl (hn := .nil (hN11 _ ?_))); refine .seq_k fun N13 hN13 => ?_; refine .region (l := [_,_,_,_]) (.move (e_uint8 x12) rfl (hn := .convByte _ u_uint8 u_int rfl (hn := ?_))); refine bk h fun x14 e14 h => ?_; refine .vcall rfl rfl (c_impl_between _ _ _ _ e14) (.same (.same (.same (.nil)))) (hn := ?_); refine .not rfl (hn := ?_); refine .nil (hN13 _ ?_); refine .cond_split rfl (fun h15 => ?_) (fun h15 => ?_)
    ·have h := bT h15 h; refine .seq_k fun N16 hN16 => ?_; refine .region (l := [_]) (.assign (e_bool false) rfl (hn := .nil (hN16 _ ?_))); obtain rfl := so h; refine .ret .p
    ·have h := bF h15 h; refine .skip (hN10 _ ?_); refine .region (l := [_,_]) (bk h fun x17 e17 h => ?_); refine .int _ rfl rfl (add_ck e17) (hn := .move (e_int x17) rfl (hn := .nil (hN5 (t6, t7, x17) _ ⟨rfl, rfl, rfl, trivial⟩ trivial h)))
   ·have h := bF h9 h; refine .exit (hN2 () _ trivial trivial h)

def m_impl_Value_ok_j1 (t2 : Bool) : Option Bool :=
  some t2
def m_impl_Value_ok_j2 (t2 : Bool) : Option Bool :=
  some t2
def m_impl_Value_ok_j3 (t2 : Bool) : Option Bool :=
  some t2
def m_impl_Value_ok (a0 : S_impl_Value) : Option Bool :=
  bif (a0.Kind == (0 : Int)) then (some (decide (a0 = (⟨(0 : Int), (0 : Int), (⟨#[]⟩ : ByteArray)⟩ : S_impl_Value))))
  else (bif (a0.Kind == (1 : Int)) then (bif (sEq a0.S (⟨#[]⟩ : ByteArray)) then ((m_impl_between a0.N (-9999 : Int) (9999 : Int)).bind fun x11 =>
        m_impl_Value_ok_j1  x11)
      else (m_impl_Value_ok_j1  false))
    else (bif (a0.Kind == (2 : Int)) then (bif (a0.N == (0 : Int)) then (bif decide ((a0.S.size : Int) ≤ (6 : Int)) then ((m_impl_letters a0.S).bind fun x17 =>
            m_impl_Value_ok_j2  x17)
          else (m_impl_Value_ok_j2  false))
        else (m_impl_Value_ok_j2  false))
      else (bif (a0.Kind == (3 : Int)) then (bif (sEq a0.S (⟨#[]⟩ : ByteArray)) then ((m_impl_between a0.N (0 : Int) (1 : Int)).bind fun x22 =>
            m_impl_Value_ok_j3  x22)
          else (m_impl_Value_ok_j3  false))
        else (some false))))
theorem c_impl_Value_ok (a0 : S_impl_Value) (r : Bool) (h : m_impl_Value_ok a0 = some r) : Ret Try.prog f_impl_Value_ok [e_impl_Value a0] (e_bool r) := by
  refine Does.goG [] F_impl_Value_ok rfl e_impl_Value_ok n_impl_Value_ok rfl (rvs := [.tmp 2]) rfl rfl ?_; intro w0 ok0 lent ρ0; refine .seq_k fun N1 hN1 => ?_; refine .region (l := [_,_]) (.boxF (e_impl_Value a0) rfl rfl rfl (hn := .assign (e_bool false) rfl (hn := .nil (hN1 _ ?_)))); refine .seq_k fun N2 hN2 => ?_; refine .seq_k fun N3 hN3 => ?_; refine .region (l := [_,_]) (.fieldAddr _ u_impl_Value rfl s_int rfl rfl (hn := .load1 (c := (e_int a0.Kind)) g_int rfl (hn := .nil (hN3 _ ?_)))); refine .block ?_; refine .seq_k fun N4 hN4 => ?_; refine .region (l := [_,_]) (.int _ rfl rfl rfl (hn := .assign (e_bool (a0.Kind == (0 : Int))) rfl (hn := .nil (hN4 _ ?_)))); refine .cond_split rfl (fun h5 => ?_) (fun h5 => ?_)
  ·have h := bT h5 h; refine .seq_k fun N6 hN6 => ?_; refine .region (l := [_,_,_,_]) (.loadN ((e_impl_Value a0)).cells g_impl_Value s_impl_Value rfl (Nat.le_of_ble_eq_true rfl) rfl (hn := ?_)); refine .build_impl_Value (parts := []) (⟨(0 : Int), (0 : Int), (⟨#[]⟩ : ByteArray)⟩ : S_impl_Value) rfl rfl rfl .refl (hn := ?_); refine .eq_impl_Value _ _ rfl rfl (hn := ?_); refine .assign (e_bool (decide (a0 = (⟨(0 : Int), (0 : Int), (⟨#[]⟩ : ByteArray)⟩ : S_impl_Value)))) rfl (hn := .nil (hN6 _ ?_)); obtain rfl := so h; refine .ret .p
  ·have h := bF h5 h; refine .seq_k fun N7 hN7 => ?_; refine .region (l := [_,_]) (.int _ rfl rfl rfl (hn := .assign (e_bool (a0.Kind == (1 : Int))) rfl (hn := .nil (hN7 _ ?_)))); refine .cond_split rfl (fun h8 => ?_) (fun h8 => ?_)
   ·have h := bT h8 h; refine .join (α := Bool) (fun z : Bool => [(2, (e_bool z))]) (fun z : Bool => []) (fun z : Bool => m_impl_Value_ok_j1  z) r (fun _ => by simp [hkeys]) ?_ ?_
    ·rintro t2 h; replace h : m_impl_Value_ok_j1  t2 = some _ := h; obtain rfl := so h; refine .ret .p
    ·intro N9 hN9; refine .region (l := [_,_,_,_,_,_,_,_,_]) (.fieldAddr _ u_impl_Value rfl s_string rfl rfl (hn := .load1 (c := (e_string a0.S)) g_string rfl (hn := .str _ rfl rfl rfl (hn := .move (e_bool (sEq a0.S (⟨#[]⟩ : ByteArray))) rfl (hn := .byCases (t := 15) _ rfl (fun h10 => ?_) (fun h10 => ?_))))))
     ·have h := bT h10 h; refine .gY 15 h10 (.fieldAddr _ u_impl_Value rfl s_int rfl rfl (hn := .gY 15 h10 (.load1 (c := (e_int a0.N)) g_int rfl (hn := bk h fun x11 e11 h => ?_)))); refine .gY 15 h10 (.vcall rfl rfl (c_impl_between _ _ _ _ e11) (.same (.same (.same (.nil)))) (hn := ?_)); refine .pickTM (e_bool x11) rfl h10 rfl (hn := .assign (e_bool x11) rfl (hn := .nil (hN9 x11 _ ⟨rfl, trivial⟩ trivial h)))
     ·have h := bF h10 h; refine .gN 15 h10 (.gN 15 h10 (.gN 15 h10 (.pickFM (e_bool false) rfl h10 rfl (hn := .assign (e_bool false) rfl (hn := .nil (hN9 false _ ⟨rfl, trivial⟩ trivial h))))))
   ·have h := bF h8 h; refine .seq_k fun N12 hN12 => ?_; refine .region (l := [_,_]) (.int _ rfl rfl rfl (hn := .assign (e_bool (a0.Kind == (2 : Int))) rfl (hn := .nil (hN12 _ ?_)))); refine .cond_split rfl (fun h13 => ?_) (fun h13 => ?_)
    ·have h := bT h13 h; refine .join (α := Bool) (fun z : Bool => [(2, (e_bool z))]) (fun z : Bool => []) (fun z : Bool => m_impl_Value_ok_j2  z) r (fun _ => by simp [hkeys]) ?_ ?_
     ·rintro t2 h; replace h : m_impl_Value_ok_j2  t2 = some _ := h; obtain rfl := so h; refine .ret .p
     ·intro N14 hN14; refine .region (l := [_,_,_,_,_,_,_,_,_,_,_,_,_,_,_]) (.fieldAddr _ u_impl_Value rfl s_int rfl rfl (hn := .load1 (c := (e_int a0.N)) g_int rfl (hn := .int _ rfl rfl rfl (hn := .move (e_bool (a0.N == (0 : Int))) rfl (hn := .byCases (t := 25) _ rfl (fun h15 => ?_) (fun h15 => ?_))))))
      ·have h := bT h15 h; refine .gY 25 h15 (.fieldAddr _ u_impl_Value rfl s_string rfl rfl (hn := .gY 25 h15 (.load1 (c := (e_string a0.S)) g_string rfl (hn := .gY 25 h15 (.lenS u_string rfl (hn := ?_)))))); refine .gY 25 h15 (.int _ rfl rfl rfl (hn := .pickTM (e_bool (decide ((a0.S.size : Int) ≤ (6 : Int)))) rfl h15 rfl (hn := .move (e_bool (decide ((a0.S.size : Int) ≤ (6 : Int)))) rfl (hn := .byCases (t := 31) _ rfl (fun h16 => ?_) (fun h16 => ?_)))))
       ·have h := bT h16 h; refine .gY 31 h16 (.fieldAddr _ u_impl_Value rfl s_string rfl rfl (hn := .gY 31 h16 (.load1 (c := (e_string a0.S)) g_string rfl (hn := bk h fun x17 e17 h => ?_)))); refine .gY 31 h16 (.vcall rfl rfl (c_impl_letters _ _ e17) (.same (.nil)) (hn := ?_)); refine .pickTM (e_bool x17) rfl h16 rfl (hn := .assign (e_bool x17) rfl (hn := .nil (hN14 x17 _ ⟨rfl, trivial⟩ trivial h)))
       ·have h := bF h16 h; refine .gN 31 h16 (.gN 31 h16 (.gN 31 h16 (.pickFM (e_bool false) rfl h16 rfl (hn := .assign (e_bool false) rfl (hn := .nil (hN14 false _ ⟨rfl, trivial⟩ trivial h))))))
      ·have h := bF h15 h; refine .gN 25 h15 (.gN 25 h15 (.gN 25 h15 (.gN 25 h15 (.pickFM (e_bool false) rfl h15 rfl (hn := .move (e_bool false) rfl (hn := .gN 31 rfl (.gN 31 rfl (.gN 31 rfl (.pickFM (e_bool false) rfl rfl rfl (hn := .assign (e_bool false) rfl (hn := .nil (hN14 false _ ⟨rfl, trivial⟩ trivial h))))))))))))
    ·have h := bF h13 h; refine .seq_k fun N18 hN18 => ?_; refine .region (l := [_,_]) (.int _ rfl rfl rfl (hn := .assign (e_bool (a0.Kind == (3 : Int))) rfl (hn := .nil (hN18 _ ?_)))); refine .cond_split rfl (fun h19 => ?_) (fun h19 => ?_)
     ·have h := bT h19 h; refine .join (α := Bool) (fun z : Bool => [(2, (e_bool z))]) (fun z : Bool => []) (fun z : Bool => m_impl_Value_ok_j3  z) r (fun _ => by simp [hkeys]) ?_ ?_
      ·rintro t2 h; replace h : m_impl_Value_ok_j3  t2 = some _ := h; obtain rfl := so h; refine .ret .p
      ·intro N20 hN20; refine .region (l := [_,_,_,_,_,_,_,_,_]) (.fieldAddr _ u_impl_Value rfl s_string rfl rfl (hn := .load1 (c := (e_string a0.S)) g_string rfl (hn := .str _ rfl rfl rfl (hn := .move (e_bool (sEq a0.S (⟨#[]⟩ : ByteArray))) rfl (hn := .byCases (t := 41) _ rfl (fun h21 => ?_) (fun h21 => ?_))))))
       ·have h := bT h21 h; refine .gY 41 h21 (.fieldAddr _ u_impl_Value rfl s_int rfl rfl (hn := .gY 41 h21 (.load1 (c := (e_int a0.N)) g_int rfl (hn := bk h fun x22 e22 h => ?_)))); refine .gY 41 h21 (.vcall rfl rfl (c_impl_between _ _ _ _ e22) (.same (.same (.same (.nil)))) (hn := ?_)); refine .pickTM (e_bool x22) rfl h21 rfl (hn := .assign (e_bool x22) rfl (hn := .nil (hN20 x22 _ ⟨rfl, trivial⟩ trivial h)))
       ·have h := bF h21 h; refine .gN 41 h21 (.gN 41 h21 (.gN 41 h21 (.pickFM (e_bool false) rfl h21 rfl (hn := .assign (e_bool false) rfl (hn := .nil (hN20 false _ ⟨rfl, trivial⟩ trivial h))))))
     ·have h := bF h19 h; refine .skip (hN2 _ ?_); refine .seq_k fun N23 hN23 => ?_; refine .region (l := [_]) (.assign (e_bool false) rfl (hn := .nil (hN23 _ ?_))); obtain rfl := so h; refine .ret .p

def m_impl_Part_tells_j1 (t4 : Bool) : Option Bool :=
  some t4
def m_impl_Part_tells_j2 (t4 : Bool) : Option Bool :=
  some t4
def m_impl_Part_tells_j3 (t4 : Bool) : Option Bool :=
  some t4
def m_impl_Part_tells_j5 (t4 : Bool) : Option Bool :=
  some t4
def m_impl_Part_tells_j4 (t2 : S_impl_Part) (t48 : Bool) : Option Bool :=
  bif t48 then (bif (t2.N == (0 : Int)) then (m_impl_Part_tells_j5  (decide (t2.V = (⟨(0 : Int), (0 : Int), (⟨#[]⟩ : ByteArray)⟩ : S_impl_Value))))
    else (m_impl_Part_tells_j5  false))
  else (some false)
def m_impl_Part_tells (a0 : S_impl_Part) (a1 : (List S_impl_Column)) : Option Bool :=
  bif (a0.Kind == (1 : Int)) then (bif (a0.N == (0 : Int)) then ((m_impl_Value_ok a0.V).bind fun x8 =>
      bif x8 then (m_impl_Part_tells_j1  (a0.V.Kind != (0 : Int)))
      else (m_impl_Part_tells_j1  false))
    else (m_impl_Part_tells_j1  false))
  else (bif (a0.Kind == (2 : Int)) then ((ckI ((a1.length : Int) - (1 : Int))).bind fun x13 =>
      (m_impl_between a0.N (0 : Int) x13).bind fun x14 =>
      bif x14 then (m_impl_Part_tells_j2  (decide (a0.V = (⟨(0 : Int), (0 : Int), (⟨#[]⟩ : ByteArray)⟩ : S_impl_Value))))
      else (m_impl_Part_tells_j2  false))
    else (bif (a0.Kind == (4 : Int)) then ((m_impl_between a0.N (1 : Int) (4 : Int)).bind fun x19 =>
        bif x19 then (m_impl_Part_tells_j3  (decide (a0.V = (⟨(0 : Int), (0 : Int), (⟨#[]⟩ : ByteArray)⟩ : S_impl_Value))))
        else (m_impl_Part_tells_j3  false))
      else (bif (a0.Kind == (3 : Int)) then (m_impl_Part_tells_j4  a0 (a0.Kind == (3 : Int)))
        else (bif (a0.Kind == (5 : Int)) then (m_impl_Part_tells_j4  a0 (a0.Kind == (5 : Int)))
          else (bif (a0.Kind == (6 : Int)) then (m_impl_Part_tells_j4  a0 (a0.Kind == (6 : Int)))
            else (bif (a0.Kind == (7 : Int)) then (m_impl_Part_tells_j4  a0 (a0.Kind == (7 : Int)))
              else (m_impl_Part_tells_j4  a0 (a0.Kind == (8 : Int)))))))))
theorem c_impl_Part_tells (a0 : S_impl_Part) (a1 : (List S_impl_Column)) (r : Bool) (h : m_impl_Part_tells a0 a1 = some r) : Ret Try.prog f_impl_Part_tells [e_impl_Part a0, e_Limpl_Column a1] (e_bool r) := by
  refine Does.goG [] F_impl_Part_tells rfl e_impl_Part_tells n_impl_Part_tells rfl (rvs := [.tmp 4]) rfl rfl ?_; intro w0 ok0 lent ρ0; refine .seq_k fun N1 hN1 => ?_; refine .region (l := [_,_]) (.boxF (e_impl_Part a0) rfl rfl rfl (hn := .assign (e_bool false) rfl (hn := .nil (hN1 _ ?_)))); refine .seq_k fun N2 hN2 => ?_; refine .seq_k fun N3 hN3 => ?_; refine .region (l := [_,_]) (.fieldAddr _ u_impl_Part rfl s_int rfl rfl (hn := .load1 (c := (e_int a0.Kind)) g_int rfl (hn := .nil (hN3 _ ?_)))); refine .block ?_; refine .seq_k fun N4 hN4 => ?_; refine .region (l := [_,_]) (.int _ rfl rfl rfl (hn := .assign (e_bool (a0.Kind == (1 : Int))) rfl (hn := .nil (hN4 _ ?_)))); refine .cond_split rfl (fun h5 => ?_) (fun h5 => ?_)
  ·have h := bT h5 h; refine .join (α := Bool) (fun z : Bool => [(4, (e_bool z))]) (fun z : Bool => []) (fun z : Bool => m_impl_Part_tells_j1  z) r (fun _ => by simp [hkeys]) ?_ ?_
   ·rintro t4 h; replace h : m_impl_Part_tells_j1  t4 = some _ := h; obtain rfl := so h; refine .ret .p
   ·intro N6 hN6; refine .region (l := [_,_,_,_,_,_,_,_,_,_,_,_,_,_,_]) (.fieldAddr _ u_impl_Part rfl s_int rfl rfl (hn := .load1 (c := (e_int a0.N)) g_int rfl (hn := .int _ rfl rfl rfl (hn := .move (e_bool (a0.N == (0 : Int))) rfl (hn := .byCases (t := 12) _ rfl (fun h7 => ?_) (fun h7 => ?_))))))
    ·have h := bT h7 h; refine .gY 12 h7 (.fieldAddr _ u_impl_Part rfl s_impl_Value rfl rfl (hn := .gY 12 h7 (.loadN ((e_impl_Value a0.V)).cells g_impl_Value s_impl_Value rfl (Nat.le_of_ble_eq_true rfl) rfl (hn := ?_)))); refine bk h fun x8 e8 h => ?_; refine .gY 12 h7 (.vcall rfl rfl (c_impl_Value_ok _ _ e8) (.same (.nil)) (hn := ?_)); refine .pickTM (e_bool x8) rfl h7 rfl (hn := .move (e_bool x8) rfl (hn := .byCases (t := 17) _ rfl (fun h9 => ?_) (fun h9 => ?_)))
     ·have h := bT h9 h; refine .gY 17 h9 (.fieldAddr _ u_impl_Part rfl s_impl_Value rfl rfl (hn := .gY 17 h9 (.fieldAddr _ u_impl_Value rfl s_int rfl rfl (hn := .gY 17 h9 (.load1 (c := (e_int a0.V.Kind)) g_int rfl (hn := .gY 17 h9 (.int _ rfl rfl rfl (hn := .pickTM (e_bool (a0.V.Kind != (0 : Int))) rfl h9 rfl (hn := .assign (e_bool (a0.V.Kind != (0 : Int))) rfl (hn := .nil (hN6 (a0.V.Kind != (0 : Int)) _ ⟨rfl, trivial⟩ trivial h)))))))))))
     ·have h := bF h9 h; refine .gN 17 h9 (.gN 17 h9 (.gN 17 h9 (.gN 17 h9 (.pickFM (e_bool false) rfl h9 rfl (hn := .assign (e_bool false) rfl (hn := .nil (hN6 false _ ⟨rfl, trivial⟩ trivial h)))))))
    ·have h := bF h7 h; refine .gN 12 h7 (.gN 12 h7 (.gN 12 h7 (.pickFM (e_bool false) rfl h7 rfl (hn := .move (e_bool false) rfl (hn := .gN 17 rfl (.gN 17 rfl (.gN 17 rfl (.gN 17 rfl (.pickFM (e_bool false) rfl rfl rfl (hn := .assign (e_bool false) rfl (hn := .nil (hN6 false _ ⟨rfl, trivial⟩ trivial h))))))))))))
  ·have h := bF h5 h; refine .seq_k fun N10 hN10 => ?_; refine .region (l := [_,_]) (.int _ rfl rfl rfl (hn := .assign (e_bool (a0.Kind == (2 : Int))) rfl (hn := .nil (hN10 _ ?_)))); refine .cond_split rfl (fun h11 => ?_) (fun h11 => ?_)
   ·have h := bT h11 h; refine .join (α := Bool) (fun z : Bool => [(4, (e_bool z))]) (fun z : Bool => []) (fun z : Bool => m_impl_Part_tells_j2  z) r (fun _ => by simp [hkeys]) ?_ ?_
    ·rintro t4 h; replace h : m_impl_Part_tells_j2  t4 = some _ := h; obtain rfl := so h; refine .ret .p
    ·intro N12 hN12; refine .region (l := [_,_,_,_,_,_,_,_,_,_,_,_,_]) (.fieldAddr _ u_impl_Part rfl s_int rfl rfl (hn := .load1 (c := (e_int a0.N)) g_int rfl (hn := .move (e_Limpl_Column a1) rfl (hn := .lenM (f := e_impl_Column) (l := a1) u_Limpl_Column rfl (hn := ?_))))); refine bk h fun x13 e13 h => ?_; refine .int _ rfl rfl (sub_ck e13) (hn := bk h fun x14 e14 h => ?_); refine .vcall rfl rfl (c_impl_between _ _ _ _ e14) (.same (.same (.same (.nil)))) (hn := ?_); refine .move (e_bool x14) rfl (hn := .byCases (t := 31) _ rfl (fun h15 => ?_) (fun h15 => ?_))
     ·have h := bT h15 h; refine .gY 31 h15 (.fieldAddr _ u_impl_Part rfl s_impl_Value rfl rfl (hn := .gY 31 h15 (.loadN ((e_impl_Value a0.V)).cells g_impl_Value s_impl_Value rfl (Nat.le_of_ble_eq_true rfl) rfl (hn := ?_)))); refine .gY 31 h15 (.build_impl_Value (parts := []) (⟨(0 : Int), (0 : Int), (⟨#[]⟩ : ByteArray)⟩ : S_impl_Value) rfl rfl rfl .refl (hn := ?_)); refine .gY 31 h15 (.eq_impl_Value _ _ rfl rfl (hn := ?_)); refine .pickTM (e_bool (decide (a0.V = (⟨(0 : Int), (0 : Int), (⟨#[]⟩ : ByteArray)⟩ : S_impl_Value)))) rfl h15 rfl (hn := .assign (e_bool (decide (a0.V = (⟨(0 : Int), (0 : Int), (⟨#[]⟩ : ByteArray)⟩ : S_impl_Value)))) rfl (hn := .nil (hN12 (decide (a0.V = (⟨(0 : Int), (0 : Int), (⟨#[]⟩ : ByteArray)⟩ : S_impl_Value))) _ ⟨rfl, trivial⟩ trivial h)))
     ·have h := bF h15 h; refine .gN 31 h15 (.gN 31 h15 (.gN 31 h15 (.gN 31 h15 (.pickFM (e_bool false) rfl h15 rfl (hn := .assign (e_bool false) rfl (hn := .nil (hN12 false _ ⟨rfl, trivial⟩ trivial h)))))))
   ·have h := bF h11 h; refine .seq_k fun N16 hN16 => ?_; refine .region (l := [_,_]) (.int _ rfl rfl rfl (hn := .assign (e_bool (a0.Kind == (4 : Int))) rfl (hn := .nil (hN16 _ ?_)))); refine .cond_split rfl (fun h17 => ?_) (fun h17 => ?_)
    ·have h := bT h17 h; refine .join (α := Bool) (fun z : Bool => [(4, (e_bool z))]) (fun z : Bool => []) (fun z : Bool => m_impl_Part_tells_j3  z) r (fun _ => by simp [hkeys]) ?_ ?_
     ·rintro t4 h; replace h : m_impl_Part_tells_j3  t4 = some _ := h; obtain rfl := so h; refine .ret .p
     ·intro N18 hN18; refine .region (l := [_,_,_,_,_,_,_,_,_,_]) (.fieldAddr _ u_impl_Part rfl s_int rfl rfl (hn := .load1 (c := (e_int a0.N)) g_int rfl (hn := bk h fun x19 e19 h => ?_))); refine .vcall rfl rfl (c_impl_between _ _ _ _ e19) (.same (.same (.same (.nil)))) (hn := ?_); refine .move (e_bool x19) rfl (hn := .byCases (t := 42) _ rfl (fun h20 => ?_) (fun h20 => ?_))
      ·have h := bT h20 h; refine .gY 42 h20 (.fieldAddr _ u_impl_Part rfl s_impl_Value rfl rfl (hn := .gY 42 h20 (.loadN ((e_impl_Value a0.V)).cells g_impl_Value s_impl_Value rfl (Nat.le_of_ble_eq_true rfl) rfl (hn := ?_)))); refine .gY 42 h20 (.build_impl_Value (parts := []) (⟨(0 : Int), (0 : Int), (⟨#[]⟩ : ByteArray)⟩ : S_impl_Value) rfl rfl rfl .refl (hn := ?_)); refine .gY 42 h20 (.eq_impl_Value _ _ rfl rfl (hn := ?_)); refine .pickTM (e_bool (decide (a0.V = (⟨(0 : Int), (0 : Int), (⟨#[]⟩ : ByteArray)⟩ : S_impl_Value)))) rfl h20 rfl (hn := .assign (e_bool (decide (a0.V = (⟨(0 : Int), (0 : Int), (⟨#[]⟩ : ByteArray)⟩ : S_impl_Value)))) rfl (hn := .nil (hN18 (decide (a0.V = (⟨(0 : Int), (0 : Int), (⟨#[]⟩ : ByteArray)⟩ : S_impl_Value))) _ ⟨rfl, trivial⟩ trivial h)))
      ·have h := bF h20 h; refine .gN 42 h20 (.gN 42 h20 (.gN 42 h20 (.gN 42 h20 (.pickFM (e_bool false) rfl h20 rfl (hn := .assign (e_bool false) rfl (hn := .nil (hN18 false _ ⟨rfl, trivial⟩ trivial h)))))))
    ·have h := bF h17 h; refine .join (α := S_impl_Part × Bool) (fun z : S_impl_Part × Bool => [(2, (.fp (e_impl_Part z.1).cells)), (48, (e_bool z.2))]) (fun z : S_impl_Part × Bool => []) (fun z : S_impl_Part × Bool => m_impl_Part_tells_j4  z.1 z.2) r (fun _ => by simp [hkeys]) ?_ ?_
     ·rintro ⟨t2, t48⟩ h; replace h : m_impl_Part_tells_j4  t2 t48 = some _ := h; refine .cond_split rfl (fun h30 => ?_) (fun h30 => ?_)
      ·have h := bT h30 h; refine .join (α := Bool) (fun z : Bool => [(4, (e_bool z))]) (fun z : Bool => []) (fun z : Bool => m_impl_Part_tells_j5  z) r (fun _ => by simp [hkeys]) ?_ ?_
       ·rintro t4 h; replace h : m_impl_Part_tells_j5  t4 = some _ := h; obtain rfl := so h; refine .ret .p
       ·intro N31 hN31; refine .region (l := [_,_,_,_,_,_,_,_,_,_]) (.fieldAddr _ u_impl_Part rfl s_int rfl rfl (hn := .load1 (c := (e_int t2.N)) g_int rfl (hn := .int _ rfl rfl rfl (hn := .move (e_bool (t2.N == (0 : Int))) rfl (hn := .byCases (t := 57) _ rfl (fun h32 => ?_) (fun h32 => ?_))))))
        ·have h := bT h32 h; refine .gY 57 h32 (.fieldAddr _ u_impl_Part rfl s_impl_Value rfl rfl (hn := .gY 57 h32 (.loadN ((e_impl_Value t2.V)).cells g_impl_Value s_impl_Value rfl (Nat.le_of_ble_eq_true rfl) rfl (hn := ?_)))); refine .gY 57 h32 (.build_impl_Value (parts := []) (⟨(0 : Int), (0 : Int), (⟨#[]⟩ : ByteArray)⟩ : S_impl_Value) rfl rfl rfl .refl (hn := ?_)); refine .gY 57 h32 (.eq_impl_Value _ _ rfl rfl (hn := ?_)); refine .pickTM (e_bool (decide (t2.V = (⟨(0 : Int), (0 : Int), (⟨#[]⟩ : ByteArray)⟩ : S_impl_Value)))) rfl h32 rfl (hn := .assign (e_bool (decide (t2.V = (⟨(0 : Int), (0 : Int), (⟨#[]⟩ : ByteArray)⟩ : S_impl_Value)))) rfl (hn := .nil (hN31 (decide (t2.V = (⟨(0 : Int), (0 : Int), (⟨#[]⟩ : ByteArray)⟩ : S_impl_Value))) _ ⟨rfl, trivial⟩ trivial h)))
        ·have h := bF h32 h; refine .gN 57 h32 (.gN 57 h32 (.gN 57 h32 (.gN 57 h32 (.pickFM (e_bool false) rfl h32 rfl (hn := .assign (e_bool false) rfl (hn := .nil (hN31 false _ ⟨rfl, trivial⟩ trivial h)))))))
      ·have h := bF h30 h; refine .skip (hN2 _ ?_); refine .seq_k fun N33 hN33 => ?_; refine .region (l := [_]) (.assign (e_bool false) rfl (hn := .nil (hN33 _ ?_))); obtain rfl := so h; refine .ret .p
     ·intro N21 hN21; refine .seq_k fun N22 hN22 => ?_; refine .region (l := [_,_]) (.int _ rfl rfl rfl (hn := .assign (e_bool (a0.Kind == (3 : Int))) rfl (hn := .nil (hN22 _ ?_)))); refine .cond_split rfl (fun h23 => ?_) (fun h23 => ?_)
      ·have h := bT h23 h; refine .skip (hN21 (a0, (a0.Kind == (3 : Int))) _ ⟨rfl, rfl, trivial⟩ trivial h)
      ·have h := bF h23 h; refine .seq_k fun N24 hN24 => ?_; refine .region (l := [_,_]) (.int _ rfl rfl rfl (hn := .assign (e_bool (a0.Kind == (5 : Int))) rfl (hn := .nil (hN24 _ ?_)))); refine .cond_split rfl (fun h25 => ?_) (fun h25 => ?_)
       ·have h := bT h25 h; refine .skip (hN21 (a0, (a0.Kind == (5 : Int))) _ ⟨rfl, rfl, trivial⟩ trivial h)
       ·have h := bF h25 h; refine .seq_k fun N26 hN26 => ?_; refine .region (l := [_,_]) (.int _ rfl rfl rfl (hn := .assign (e_bool (a0.Kind == (6 : Int))) rfl (hn := .nil (hN26 _ ?_)))); refine .cond_split rfl (fun h27 => ?_) (fun h27 => ?_)
        ·have h := bT h27 h; refine .skip (hN21 (a0, (a0.Kind == (6 : Int))) _ ⟨rfl, rfl, trivial⟩ trivial h)
        ·have h := bF h27 h; refine .seq_k fun N28 hN28 => ?_; refine .region (l := [_,_]) (.int _ rfl rfl rfl (hn := .assign (e_bool (a0.Kind == (7 : Int))) rfl (hn := .nil (hN28 _ ?_)))); refine .cond_split rfl (fun h29 => ?_) (fun h29 => ?_)
         ·have h := bT h29 h; refine .skip (hN21 (a0, (a0.Kind == (7 : Int))) _ ⟨rfl, rfl, trivial⟩ trivial h)
         ·have h := bF h29 h; refine .region (l := [_,_]) (.int _ rfl rfl rfl (hn := .assign (e_bool (a0.Kind == (8 : Int))) rfl (hn := .nil (hN21 (a0, (a0.Kind == (8 : Int))) _ ⟨rfl, rfl, trivial⟩ trivial h))))

def m_impl_Part_kind_1_1 (a0 : Int) (a1 : Int) : Option Bool :=
  some (a0 != a1)
theorem c_impl_Part_kind_1_1 (a0 : Int) (a1 : Int) (r : Bool) (h : m_impl_Part_kind_1_1 a0 a1 = some r) : Ret Try.prog f_impl_Part_kind_1_1 [e_int a0, .fp (e_int a1).cells] (e_bool r) := by
  refine Does.goG [] F_impl_Part_kind_1_1 rfl e_impl_Part_kind_1_1 n_impl_Part_kind_1_1 rfl (rvs := [.tmp 3]) rfl rfl ?_; intro w0 ok0 lent ρ0; refine .seq_k fun N1 hN1 => ?_; refine .region (l := [_]) (.assign (e_bool false) rfl (hn := .nil (hN1 _ ?_))); refine .seq_k fun N2 hN2 => ?_; refine .region (l := [_,_,_,_]) (.move (e_int a0) rfl (hn := .load1 (c := (e_int a1)) g_int rfl (hn := .int _ rfl rfl rfl (hn := .assign (e_bool (a0 != a1)) rfl (hn := .nil (hN2 _ ?_)))))); obtain rfl := so h; refine .ret .p

def m_slices_IndexFunc_Lint_int_j1 (p1 : Int → Option Bool)  : Option Int :=
  some (-1 : Int)
def m_slices_IndexFunc_Lint_int_l1 (p1 : Int → Option Bool) : Nat → (List Int) → Int → Int → Option Int
  | 0, _, _, _ => none
  | n1 + 1, t0, t7, t8 =>
    bif decide (t8 < t7) then ((at? t0 t8).bind fun x12 =>
    (p1 x12).bind fun x13 =>
    bif x13 then (some t8)
    else ((ckI (t8 + (1 : Int))).bind fun x16 =>
    (m_slices_IndexFunc_Lint_int_l1 p1 n1) t0 t7 x16))
    else (m_slices_IndexFunc_Lint_int_j1 p1 )
def m_slices_IndexFunc_Lint_int (a0 : (List Int)) (p1 : Int → Option Bool) : Option Int :=
  m_slices_IndexFunc_Lint_int_l1 p1 (((a0.length : Int) - (0 : Int)).toNat + 1) a0 (a0.length : Int) (0 : Int)
theorem c_slices_IndexFunc_Lint_int (a0 : (List Int)) (p1 : Int → Option Bool) (f1 : FuncId) (q1 : List LV) (hq1 : ∀ k, LV.at?.atL k q1 = false) (hf1 : ∀ a0 v, p1 a0 = some v → Ret Try.prog f1 (e_int a0 :: q1) (e_bool v)) (r : Int) (h : m_slices_IndexFunc_Lint_int a0 p1 = some r) : Ret Try.prog f_slices_IndexFunc_Lint_int [e_Lint a0, .clo f1 q1] (e_int r) := by
  refine Does.goG [] F_slices_IndexFunc_Lint_int rfl e_slices_IndexFunc_Lint_int n_slices_IndexFunc_Lint_int rfl (rvs := [.tmp 4]) rfl rfl ?_; intro w0 ok0 lent ρ0; refine .seq_k fun N1 hN1 => ?_; refine .region (l := [_]) (.assign (e_int (0 : Int)) rfl (hn := .nil (hN1 _ ?_))); refine .join (α := Unit) (fun z : Unit => []) (fun z : Unit => []) (fun z : Unit => m_slices_IndexFunc_Lint_int_j1 p1 ) r (fun _ => by simp [hkeys]) ?_ ?_
  ·rintro _ h; replace h : m_slices_IndexFunc_Lint_int_j1 p1  = some _ := h; refine .seq_k fun N17 hN17 => ?_; refine .region (l := [_]) (.assign (e_int (-1 : Int)) rfl (hn := .nil (hN17 _ ?_))); obtain rfl := so h; refine .ret .p
  ·intro N2 hN2; refine .seq_k fun N3 hN3 => ?_; refine .region (l := [_,_,_]) (.move (e_Lint a0) rfl (hn := .lenM (f := e_int) (l := a0) u_Lint rfl (hn := ?_))); refine .move (e_int (0 : Int)) rfl (hn := .nil (hN3 _ ?_)); refine .block ?_; refine .loopM (α := (List Int) × Int × Int) (fun z : (List Int) × Int × Int => [(0, (e_Lint z.1)), (1, (.clo f1 q1)), (7, (e_int z.2.1)), (8, (e_int z.2.2))]) (fun z : (List Int) × Int × Int => []) (fun n1 (z : (List Int) × Int × Int) => m_slices_IndexFunc_Lint_int_l1 p1 n1 z.1 z.2.1 z.2.2) r _ (a0, (a0.length : Int), (0 : Int)) h (fun _ => rfl) (fun _ => by simp [hkeys]) ⟨rfl, rfl, rfl, rfl, trivial⟩ trivial ?_; rintro n1 ⟨t0, t7, t8⟩ h N4 hN4; replace h : m_slices_IndexFunc_Lint_int_l1 p1 (n1 + 1) t0 t7 t8 = some _ := h; refine .seq_k fun N6 hN6 => ?_; refine .region (l := [_]) (.int _ rfl rfl rfl (hn := .nil (hN6 _ ?_))); refine .seq_k fun N7 hN7 => ?_; refine .cond_split rfl (fun h8 => ?_) (fun h8 => ?_)
   ·have h := bT h8 h; refine .skip (hN7 _ ?_); refine .seq_k fun N9 hN9 => ?_; refine .block ?_; refine .seq_k fun N10 hN10 => ?_; refine .region (l := [_,_]) (.move (e_int t8) rfl (hn := .assign (e_int t8) rfl (hn := .nil (hN10 _ ?_)))); refine .seq_k fun N11 hN11 => ?_; refine .region (l := [_,_,_,_,_,_]) (.move (.clo f1 q1) rfl (hn := .move (e_Lint t0) rfl (hn := .move (e_int t8) rfl (hn := bk h fun x12 e12 h => ?_)))); refine .indexM (f := e_int) e12 u_Lint s_int rfl rfl (hn := ?_); refine .load1 (c := (e_int x12)) g_int rfl (hn := bk h fun x13 e13 h => ?_); refine .vcall rfl rfl (hf1 _ _ e13) .refl (hn := ?_); refine .nil (hN11 _ ?_); refine .cond_split rfl (fun h14 => ?_) (fun h14 => ?_)
    ·have h := bT h14 h; refine .seq_k fun N15 hN15 => ?_; refine .region (l := [_,_]) (.move (e_int t8) rfl (hn := .assign (e_int t8) rfl (hn := .nil (hN15 _ ?_)))); obtain rfl := so h; refine .ret .p
    ·have h := bF h14 h; refine .skip (hN9 _ ?_); refine .region (l := [_,_]) (bk h fun x16 e16 h => ?_); refine .int _ rfl rfl (add_ck e16) (hn := .move (e_int x16) rfl (hn := .nil (hN4 (t0, t7, x16) _ ⟨rfl, rfl, rfl, rfl, trivial⟩ trivial h)))
   ·have h := bF h8 h; refine .exit (hN2 () _ trivial trivial h)

def m_slices_ContainsFunc_Lint_int (a0 : (List Int)) (p1 : Int → Option Bool) : Option Bool :=
  (m_slices_IndexFunc_Lint_int a0 p1).bind fun x3 =>
  some (decide (x3 ≥ (0 : Int)))
theorem c_slices_ContainsFunc_Lint_int (a0 : (List Int)) (p1 : Int → Option Bool) (f1 : FuncId) (q1 : List LV) (hq1 : ∀ k, LV.at?.atL k q1 = false) (hf1 : ∀ a0 v, p1 a0 = some v → Ret Try.prog f1 (e_int a0 :: q1) (e_bool v)) (r : Bool) (h : m_slices_ContainsFunc_Lint_int a0 p1 = some r) : Ret Try.prog f_slices_ContainsFunc_Lint_int [e_Lint a0, .clo f1 q1] (e_bool r) := by
  refine Does.goG [] F_slices_ContainsFunc_Lint_int rfl e_slices_ContainsFunc_Lint_int n_slices_ContainsFunc_Lint_int rfl (rvs := [.tmp 4]) rfl rfl ?_; intro w0 ok0 lent ρ0; refine .seq_k fun N1 hN1 => ?_; refine .region (l := [_]) (.assign (e_bool false) rfl (hn := .nil (hN1 _ ?_))); refine .seq_k fun N2 hN2 => ?_; refine .region (l := [_,_,_,_,_]) (.move (e_Lint a0) rfl (hn := .move (.clo f1 q1) rfl (hn := bk h fun x3 e3 h => ?_))); refine .vcall rfl rfl (c_slices_IndexFunc_Lint_int _ _ f1 q1 hq1 hf1 _ e3) (.same (.same (.nil))) (hn := ?_); refine .int _ rfl rfl rfl (hn := .assign (e_bool (decide (x3 ≥ (0 : Int)))) rfl (hn := .nil (hN2 _ ?_))); obtain rfl := so h; refine .ret .p

def m_impl_Part_kind_1 (a0 : Int) (a1 : (List Int)) : Option Bool :=
  (m_slices_ContainsFunc_Lint_int a1 (fun b0_ => m_impl_Part_kind_1_1 b0_ a0)).bind fun x3 =>
  some (!x3)
theorem c_impl_Part_kind_1 (a0 : Int) (a1 : (List Int)) (r : Bool) (h : m_impl_Part_kind_1 a0 a1 = some r) : Ret Try.prog f_impl_Part_kind_1 [e_int a0, .fp (e_Lint a1).cells] (e_bool r) := by
  refine Does.goG [] F_impl_Part_kind_1 rfl e_impl_Part_kind_1 n_impl_Part_kind_1 rfl (rvs := [.tmp 3]) rfl rfl ?_; intro w0 ok0 lent ρ0; refine .seq_k fun N1 hN1 => ?_; refine .region (l := [_,_]) (.boxF (e_int a0) rfl rfl rfl (hn := .assign (e_bool false) rfl (hn := .nil (hN1 _ ?_)))); refine .seq_k fun N2 hN2 => ?_; refine .region (l := [_,_,_,_,_]) (.load1 (c := (e_Lint a1)) g_Lint rfl (hn := .makeFuncM [(.fp (e_int a0).cells)] rfl rfl (hn := ?_))); refine bk h fun x3 e3 h => ?_; refine .vcall rfl rfl (c_slices_ContainsFunc_Lint_int _ _ f_impl_Part_kind_1_1 [(.fp (e_int a0).cells)] (fun _ => rfl) (fun b0_ v hv => c_impl_Part_kind_1_1 b0_ a0 v hv) _ e3) (.same (.same (.nil))) (hn := ?_); refine .not rfl (hn := ?_); refine .assign (e_bool (!x3)) rfl (hn := .nil (hN2 _ ?_)); obtain rfl := so h; refine .ret .p

def m_impl_Part_kind (a0 : S_impl_Part) (a1 : (List S_impl_Column)) (a2 : (List Int)) : Option (Int × Bool) :=
  bif (a0.Kind == (1 : Int)) then (some (a0.V.Kind, true))
  else (bif (a0.Kind == (2 : Int)) then ((at? a1 a0.N).bind fun x11 =>
      some (x11.Kind, true))
    else (bif (a0.Kind == (3 : Int)) then ((m_impl_Part_kind_1 (1 : Int) a2).bind fun x15 =>
        some ((1 : Int), x15))
      else (bif (a0.Kind == (4 : Int)) then ((at? a2 (0 : Int)).bind fun x19 =>
          (at? a2 (1 : Int)).bind fun x20 =>
          some ((3 : Int), (x19 == x20)))
        else (bif (a0.Kind == (8 : Int)) then (some ((3 : Int), true))
          else ((m_impl_Part_kind_1 (3 : Int) a2).bind fun x25 =>
  some ((3 : Int), x25))))))
theorem c_impl_Part_kind (a0 : S_impl_Part) (a1 : (List S_impl_Column)) (a2 : (List Int)) (r : (Int × Bool)) (h : m_impl_Part_kind a0 a1 a2 = some r) : Ret Try.prog f_impl_Part_kind [e_impl_Part a0, e_Limpl_Column a1, e_Lint a2] (.tup [e_int r.1, e_bool r.2]) := by
  refine Does.goG [] F_impl_Part_kind rfl e_impl_Part_kind n_impl_Part_kind rfl (rvs := [.tmp 6, .tmp 7]) rfl rfl ?_; intro w0 ok0 lent ρ0; refine .seq_k fun N1 hN1 => ?_; refine .region (l := [_,_,_,_]) (.boxF (e_impl_Part a0) rfl rfl rfl (hn := .boxF (e_Lint a2) rfl rfl rfl (hn := .assign (e_int (0 : Int)) rfl (hn := .assign (e_bool false) rfl (hn := .nil (hN1 _ ?_)))))); refine .seq_k fun N2 hN2 => ?_; refine .region (l := [_,_]) (.makeFuncM [(.fp (e_Lint a2).cells)] rfl rfl (hn := ?_)); refine .assign (.clo f_impl_Part_kind_1 [(.fp (e_Lint a2).cells)]) rfl (hn := .nil (hN2 _ ?_)); refine .seq_k fun N3 hN3 => ?_; refine .seq_k fun N4 hN4 => ?_; refine .region (l := [_,_]) (.fieldAddr _ u_impl_Part rfl s_int rfl rfl (hn := .load1 (c := (e_int a0.Kind)) g_int rfl (hn := .nil (hN4 _ ?_)))); refine .block ?_; refine .seq_k fun N5 hN5 => ?_; refine .region (l := [_,_]) (.int _ rfl rfl rfl (hn := .assign (e_bool (a0.Kind == (1 : Int))) rfl (hn := .nil (hN5 _ ?_)))); refine .cond_split rfl (fun h6 => ?_) (fun h6 => ?_)
  ·have h := bT h6 h; refine .seq_k fun N7 hN7 => ?_; refine .region (l := [_,_,_,_,_]) (.fieldAddr _ u_impl_Part rfl s_impl_Value rfl rfl (hn := .fieldAddr _ u_impl_Value rfl s_int rfl rfl (hn := .load1 (c := (e_int a0.V.Kind)) g_int rfl (hn := .assign (e_int a0.V.Kind) rfl (hn := .assign (e_bool true) rfl (hn := .nil (hN7 _ ?_))))))); obtain rfl := so h; refine .ret (QG.mk (.inr rfl) (.cons (.tmp (x := (e_int a0.V.Kind)) rfl) (.cons (.tmp (x := (e_bool true)) rfl) (.nil))) (RetOK.many0 (.cons (.pure rfl) (.cons (.pure rfl) (.nil))) (by simp) (by decide)) rfl rfl)
  ·have h := bF h6 h; refine .seq_k fun N8 hN8 => ?_; refine .region (l := [_,_]) (.int _ rfl rfl rfl (hn := .assign (e_bool (a0.Kind == (2 : Int))) rfl (hn := .nil (hN8 _ ?_)))); refine .cond_split rfl (fun h9 => ?_) (fun h9 => ?_)
   ·have h := bT h9 h; refine .seq_k fun N10 hN10 => ?_; refine .region (l := [_,_,_,_,_,_,_,_]) (.move (e_Limpl_Column a1) rfl (hn := .fieldAddr _ u_impl_Part rfl s_int rfl rfl (hn := .load1 (c := (e_int a0.N)) g_int rfl (hn := bk h fun x11 e11 h => ?_)))); refine .indexM (f := e_impl_Column) e11 u_Limpl_Column s_impl_Column rfl rfl (hn := ?_); refine .fieldAddr _ u_impl_Column rfl s_int rfl rfl (hn := .load1 (c := (e_int x11.Kind)) g_int rfl (hn := .assign (e_int x11.Kind) rfl (hn := .assign (e_bool true) rfl (hn := .nil (hN10 _ ?_))))); obtain rfl := so h; refine .ret (QG.mk (.inr rfl) (.cons (.tmp (x := (e_int x11.Kind)) rfl) (.cons (.tmp (x := (e_bool true)) rfl) (.nil))) (RetOK.many0 (.cons (.pure rfl) (.cons (.pure rfl) (.nil))) (by simp) (by decide)) rfl rfl)
   ·have h := bF h9 h; refine .seq_k fun N12 hN12 => ?_; refine .region (l := [_,_]) (.int _ rfl rfl rfl (hn := .assign (e_bool (a0.Kind == (3 : Int))) rfl (hn := .nil (hN12 _ ?_)))); refine .cond_split rfl (fun h13 => ?_) (fun h13 => ?_)
    ·have h := bT h13 h; refine .seq_k fun N14 hN14 => ?_; refine .region (l := [_,_,_,_]) (.move (.clo f_impl_Part_kind_1 [(.fp (e_Lint a2).cells)]) rfl (hn := bk h fun x15 e15 h => ?_)); refine .vcall rfl rfl (c_impl_Part_kind_1 _ _ _ e15) (.same (.same (.nil))) (hn := ?_); refine .assign (e_int (1 : Int)) rfl (hn := .assign (e_bool x15) rfl (hn := .nil (hN14 _ ?_))); obtain rfl := so h; refine .ret (QG.mk (.inr rfl) (.cons (.tmp (x := (e_int (1 : Int))) rfl) (.cons (.tmp (x := (e_bool x15)) rfl) (.nil))) (RetOK.many0 (.cons (.pure rfl) (.cons (.pure rfl) (.nil))) (by simp) (by decide)) rfl rfl)
    ·have h := bF h13 h; refine .seq_k fun N16 hN16 => ?_; refine .region (l := [_,_]) (.int _ rfl rfl rfl (hn := .assign (e_bool (a0.Kind == (4 : Int))) rfl (hn := .nil (hN16 _ ?_)))); refine .cond_split rfl (fun h17 => ?_) (fun h17 => ?_)
     ·have h := bT h17 h; refine .seq_k fun N18 hN18 => ?_; refine bk h fun x19 e19 h => ?_; refine bk h fun x20 e20 h => ?_; refine .drawF (l := [_,_,_,_,_,_,_,_,_]) [] [5] [([5], []), ([31], []), ([32], []), ([5], []), ([34], []), ([35], []), ([33, 36], []), ([], []), ([37], [])] [6, 7] [] mixed (by kernel_rfl) rfl (by decide) ?_; refine dq 31 rfl (fun _ g u h => LWo.load1 (c := (e_Lint a2)) g_Lint u.1 (hn := .nil (zn g))) ?_; refine dq 32 rfl (fun _ g u h => LWo.indexM (f := e_int) e19 u_Lint s_int u.1 rfl (hn := .nil (zn g))) ?_; refine dq 33 rfl (fun _ g u h => LWo.load1 (c := (e_int x19)) g_int u.1 (hn := .nil (zn g))) ?_; refine dq 34 rfl (fun _ g u h => LWo.load1 (c := (e_Lint a2)) g_Lint u.1 (hn := .nil (zn g))) ?_; refine dq 35 rfl (fun _ g u h => LWo.indexM (f := e_int) e20 u_Lint s_int u.1 rfl (hn := .nil (zn g))) ?_; refine dq 36 rfl (fun _ g u h => LWo.load1 (c := (e_int x20)) g_int u.1 (hn := .nil (zn g))) ?_; refine dq 37 rfl (fun _ g u h => LWo.int _ u.1 u.2.1 rfl (hn := .nil (zn g))) ?_; refine dq 6 rfl (fun _ g u h => LWo.assign (e_int (3 : Int)) rfl (hn := .nil (zn g))) ?_; refine dq 7 rfl (fun _ g u h => LWo.assign (e_bool (x19 == x20)) u.1 (hn := .nil (zn g))) ?_; refine ⟨rfl, by kernel_rfl, hN18 _ ?_⟩; obtain rfl := so h; refine .ret (QG.mk (.inr rfl) (.cons (.tmp (x := (e_int (3 : Int))) rfl) (.cons (.tmp (x := (e_bool (x19 == x20))) rfl) (.nil))) (RetOK.many0 (.cons (.pure rfl) (.cons (.pure rfl) (.nil))) (by simp) (by decide)) rfl rfl)
     ·have h := bF h17 h; refine .seq_k fun N21 hN21 => ?_; refine .region (l := [_,_]) (.int _ rfl rfl rfl (hn := .assign (e_bool (a0.Kind == (8 : Int))) rfl (hn := .nil (hN21 _ ?_)))); refine .cond_split rfl (fun h22 => ?_) (fun h22 => ?_)
      ·have h := bT h22 h; refine .seq_k fun N23 hN23 => ?_; refine .region (l := [_,_]) (.assign (e_int (3 : Int)) rfl (hn := .assign (e_bool true) rfl (hn := .nil (hN23 _ ?_)))); obtain rfl := so h; refine .ret (QG.mk (.inr rfl) (.cons (.tmp (x := (e_int (3 : Int))) rfl) (.cons (.tmp (x := (e_bool true)) rfl) (.nil))) (RetOK.many0 (.cons (.pure rfl) (.cons (.pure rfl) (.nil))) (by simp) (by decide)) rfl rfl)
      ·have h := bF h22 h; refine .skip (hN3 _ ?_); refine .seq_k fun N24 hN24 => ?_; refine .region (l := [_,_,_,_]) (.move (.clo f_impl_Part_kind_1 [(.fp (e_Lint a2).cells)]) rfl (hn := bk h fun x25 e25 h => ?_)); refine .vcall rfl rfl (c_impl_Part_kind_1 _ _ _ e25) (.same (.same (.nil))) (hn := ?_); refine .assign (e_int (3 : Int)) rfl (hn := .assign (e_bool x25) rfl (hn := .nil (hN24 _ ?_))); obtain rfl := so h; refine .ret (QG.mk (.inr rfl) (.cons (.tmp (x := (e_int (3 : Int))) rfl) (.cons (.tmp (x := (e_bool x25)) rfl) (.nil))) (RetOK.many0 (.cons (.pure rfl) (.cons (.pure rfl) (.nil))) (by simp) (by decide)) rfl rfl)

def m_impl_ExprKind_j3 (o1005 : (List Int)) : Option Int :=
  bif ((o1005.length : Int) != (1 : Int)) then (some (-1 : Int))
  else ((at? o1005 (0 : Int)).bind fun x46 =>
  (at? o1005 (0 : Int)).bind fun x47 =>
  some x47)
def m_impl_ExprKind_j2 (k1 : (List S_impl_Column) → (List S_impl_Part) → Int → Int → (List Int) → Option Int) (t0 : (List S_impl_Column)) (t8 : Int) (t19 : (List S_impl_Part)) (t20 : Int) (t21 : Int) (t36 : Bool) (o7 : S_impl_Part) (o1005 : (List Int)) : Option Int :=
  bif t36 then (some (-1 : Int))
  else ((ckI ((o1005.length : Int) - t8)).bind fun x29 =>
  (rng? x29 ((o1005).length : Int) ((o1005).length)).bind fun u30 =>
  (leN ((0 + (x29).toNat) + ((o1005).length - (x29).toNat)) o1005.length).bind fun u31 =>
  (m_impl_Part_kind o7 t0 ((o1005.drop (0 + (x29).toNat)).take ((o1005).length - (x29).toNat))).bind fun x32 =>
  bif (!x32.2) then (some (-1 : Int))
  else ((ckI ((o1005.length : Int) - t8)).bind fun x37 =>
  (rng? (0 : Int) x37 ((o1005).length)).bind fun u38 =>
  (appT? o1005 ((x37).toNat) ([x32.1] : (List Int))).bind fun x39 =>
  (ckI (t21 + (1 : Int))).bind fun x40 =>
  k1 t0 t19 t20 x40 x39))
def m_impl_ExprKind_l1 : Nat → (List S_impl_Column) → (List S_impl_Part) → Int → Int → (List Int) → Option Int
  | 0, _, _, _, _, _ => none
  | n1 + 1, t0, t19, t20, t21, o1005 =>
    bif decide (t21 < t20) then ((at? t19 t21).bind fun x18 =>
    lt (x18) fun y19 =>
    (m_impl_Part_takes y19).bind fun x21 =>
    (m_impl_Part_tells y19 t0).bind fun x24 =>
    bif (!x24) then (m_impl_ExprKind_j2  (m_impl_ExprKind_l1  n1) t0 x21 t19 t20 t21 true y19 o1005)
    else (m_impl_ExprKind_j2  (m_impl_ExprKind_l1  n1) t0 x21 t19 t20 t21 (decide ((o1005.length : Int) < x21)) y19 o1005))
    else (m_impl_ExprKind_j3  o1005)
def m_impl_ExprKind_j1 (t0 : (List S_impl_Column)) (t1 : (List S_impl_Part)) (t18 : Bool) : Option Int :=
  bif t18 then (some (-1 : Int))
  else (m_impl_ExprKind_l1  (((t1.length : Int) - (0 : Int)).toNat + 1) t0 t1 (t1.length : Int) (0 : Int) ([] : (List Int)))
def m_impl_ExprKind (a0 : (List S_impl_Column)) (a1 : (List S_impl_Part)) : Option Int :=
  (m_impl_ColumnsOk a0).bind fun x4 =>
  bif (!x4) then (m_impl_ExprKind_j1  a0 a1 true)
  else (m_impl_ExprKind_j1  a0 a1 (decide ((a1.length : Int) > (12 : Int))))
theorem c_impl_ExprKind (a0 : (List S_impl_Column)) (a1 : (List S_impl_Part)) (r : Int) (h : m_impl_ExprKind a0 a1 = some r) : Ret Try.prog f_impl_ExprKind [e_Limpl_Column a0, e_Limpl_Part a1] (e_int r) := by
  refine Does.goG [] F_impl_ExprKind rfl e_impl_ExprKind n_impl_ExprKind rfl (rvs := [.tmp 4]) rfl rfl ?_; intro w0 ok0 lent ρ0; refine .seq_k fun N1 hN1 => ?_; refine .region (l := [_]) (.assign (e_int (0 : Int)) rfl (hn := .nil (hN1 _ ?_))); refine .seq_k fun N2 hN2 => ?_; refine .join (α := (List S_impl_Column) × (List S_impl_Part) × Bool) (fun z : (List S_impl_Column) × (List S_impl_Part) × Bool => [(0, (e_Limpl_Column z.1)), (1, (e_Limpl_Part z.2.1)), (18, (e_bool z.2.2))]) (fun z : (List S_impl_Column) × (List S_impl_Part) × Bool => []) (fun z : (List S_impl_Column) × (List S_impl_Part) × Bool => m_impl_ExprKind_j1  z.1 z.2.1 z.2.2) r (fun _ => by simp [hkeys]) ?_ ?_
  ·rintro ⟨t0, t1, t18⟩ h; replace h : m_impl_ExprKind_j1  t0 t1 t18 = some _ := h; refine .cond_split rfl (fun h6 => ?_) (fun h6 => ?_)
   ·have h := bT h6 h; refine .seq_k fun N7 hN7 => ?_; refine .region (l := [_]) (.assign (e_int (-1 : Int)) rfl (hn := .nil (hN7 _ ?_))); obtain rfl := so h; refine .ret .p
   ·have h := bF h6 h; refine .skip (hN2 _ ?_); refine .seq_k fun N8 hN8 => ?_; refine .region (l := [_]) (.assign _ rfl (hn := .ownNil 5 1005 1 rfl rfl rfl ?_)); refine .known 5 (.own 1005 0 ([] : (List Int)).length) rfl ?_; refine .nil (hN8 _ ?_); refine .join (α := (List Int)) (fun z : (List Int) => [(5, (.own 1005 0 (z).length))]) (fun z : (List Int) => [(1005, (lob 1 e_int z))]) (fun z : (List Int) => m_impl_ExprKind_j3  z) r (fun _ => by simp [hkeys]) ?_ ?_
    ·rintro o1005 h; replace h : m_impl_ExprKind_j3  o1005 = some _ := h; refine .seq_k fun N41 hN41 => ?_; refine .seq_k fun N42 hN42 => ?_; refine .region (l := [_,_,_]) (.move (.own 1005 0 (o1005).length) rfl (hn := .lenO u_Lint rfl (hn := ?_))); refine .int _ rfl rfl rfl (hn := .nil (hN42 _ ?_)); refine .cond_split rfl (fun h43 => ?_) (fun h43 => ?_)
     ·have h := bT h43 h; refine .seq_k fun N44 hN44 => ?_; refine .region (l := [_]) (.assign (e_int (-1 : Int)) rfl (hn := .nil (hN44 _ ?_))); obtain rfl := so h; refine .ret .p
     ·have h := bF h43 h; refine .skip (hN41 _ ?_); refine .seq_k fun N45 hN45 => ?_; refine .region (l := [_,_,_,_]) (.move (.own 1005 0 (o1005).length) rfl (hn := bk h fun x46 e46 h => ?_)); refine .indexO e46 rfl u_Lint s_int rfl rfl rfl (hn := ?_); refine bk h fun x47 e47 h => ?_; refine .loadO1 (e_int x47) e47 g_int rfl rfl rfl (hn := ?_); refine .assign (e_int x47) rfl (hn := .nil (hN45 _ ?_)); obtain rfl := so h; refine .ret .p
    ·intro N9 hN9; refine .seq_k fun N10 hN10 => ?_; refine .region (l := [_,_,_]) (.move (e_Limpl_Part t1) rfl (hn := .lenM (f := e_impl_Part) (l := t1) u_Limpl_Part rfl (hn := ?_))); refine .move (e_int (0 : Int)) rfl (hn := .nil (hN10 _ ?_)); refine .block ?_; refine .loopM (α := (List S_impl_Column) × (List S_impl_Part) × Int × Int × (List Int)) (fun z : (List S_impl_Column) × (List S_impl_Part) × Int × Int × (List Int) => [(0, (e_Limpl_Column z.1)), (5, (.own 1005 0 (z.2.2.2.2).length)), (19, (e_Limpl_Part z.2.1)), (20, (e_int z.2.2.1)), (21, (e_int z.2.2.2.1))]) (fun z : (List S_impl_Column) × (List S_impl_Part) × Int × Int × (List Int) => [(1005, (lob 1 e_int z.2.2.2.2))]) (fun n1 (z : (List S_impl_Column) × (List S_impl_Part) × Int × Int × (List Int)) => m_impl_ExprKind_l1  n1 z.1 z.2.1 z.2.2.1 z.2.2.2.1 z.2.2.2.2) r _ (t0, t1, (t1.length : Int), (0 : Int), ([] : (List Int))) h (fun _ => rfl) (fun _ => by simp [hkeys]) ⟨rfl, rfl, rfl, rfl, rfl, trivial⟩ ⟨rfl, trivial⟩ ?_; rintro n1 ⟨t0, t19, t20, t21, o1005⟩ h N11 hN11; replace h : m_impl_ExprKind_l1  (n1 + 1) t0 t19 t20 t21 o1005 = some _ := h; refine .seq_k fun N13 hN13 => ?_; refine .region (l := [_]) (.int _ rfl rfl rfl (hn := .nil (hN13 _ ?_))); refine .seq_k fun N14 hN14 => ?_; refine .cond_split rfl (fun h15 => ?_) (fun h15 => ?_)
     ·have h := bT h15 h; refine .skip (hN14 _ ?_); refine .seq_k fun N16 hN16 => ?_; refine .block ?_; refine .seq_k fun N17 hN17 => ?_; refine .region (l := [_,_,_,_]) (bk h fun x18 e18 h => ?_); refine .indexM (f := e_impl_Part) e18 u_Limpl_Part s_impl_Part rfl rfl (hn := ?_); refine .loadN ((e_impl_Part x18)).cells g_impl_Part s_impl_Part rfl (Nat.le_of_ble_eq_true rfl) rfl (hn := ?_); refine .alloc_impl_Part 7 rfl (hn := ?_); refine lk h fun y19 e19 h => ?_; refine .storeW (y := (⟨(0 : Int), (0 : Int), (⟨(0 : Int), (0 : Int), (⟨#[]⟩ : ByteArray)⟩ : S_impl_Value)⟩ : S_impl_Part)) y19 s_impl_Part rfl rfl rfl rfl rfl rfl (by rw [e19]; exact .refl) rfl (hn := ?_); refine .nil (hN17 _ ?_); refine .seq_k fun N20 hN20 => ?_; refine .region (l := [_,_,_]) (.loadVN ((e_impl_Part y19)).cells  g_impl_Part s_impl_Part rfl rfl rfl rfl (hn := ?_)); refine bk h fun x21 e21 h => ?_; refine .vcall rfl rfl (c_impl_Part_takes _ _ e21) (.same (.nil)) (hn := ?_); refine .assign (e_int x21) rfl (hn := .nil (hN20 _ ?_)); refine .seq_k fun N22 hN22 => ?_; refine .join (α := (List S_impl_Column) × Int × (List S_impl_Part) × Int × Int × Bool × S_impl_Part × (List Int)) (fun z : (List S_impl_Column) × Int × (List S_impl_Part) × Int × Int × Bool × S_impl_Part × (List Int) => [(0, (e_Limpl_Column z.1)), (5, (.own 1005 0 (z.2.2.2.2.2.2.2).length)), (7, (.ptr 7 0 0)), (8, (e_int z.2.1)), (19, (e_Limpl_Part z.2.2.1)), (20, (e_int z.2.2.2.1)), (21, (e_int z.2.2.2.2.1)), (36, (e_bool z.2.2.2.2.2.1))]) (fun z : (List S_impl_Column) × Int × (List S_impl_Part) × Int × Int × Bool × S_impl_Part × (List Int) => [(7, (vob 5 e_impl_Part z.2.2.2.2.2.2.1)), (1005, (lob 1 e_int z.2.2.2.2.2.2.2))]) (fun z : (List S_impl_Column) × Int × (List S_impl_Part) × Int × Int × Bool × S_impl_Part × (List Int) => m_impl_ExprKind_j2  (m_impl_ExprKind_l1  n1) z.1 z.2.1 z.2.2.1 z.2.2.2.1 z.2.2.2.2.1 z.2.2.2.2.2.1 z.2.2.2.2.2.2.1 z.2.2.2.2.2.2.2) r (fun _ => by simp [hkeys]) ?_ ?_
      ·rintro ⟨t0, t8, t19, t20, t21, t36, o7, o1005⟩ h; replace h : m_impl_ExprKind_j2  (m_impl_ExprKind_l1  n1) t0 t8 t19 t20 t21 t36 o7 o1005 = some _ := h; refine .cond_split rfl (fun h26 => ?_) (fun h26 => ?_)
       ·have h := bT h26 h; refine .seq_k fun N27 hN27 => ?_; refine .region (l := [_]) (.assign (e_int (-1 : Int)) rfl (hn := .nil (hN27 _ ?_))); obtain rfl := so h; refine .ret .p
       ·have h := bF h26 h; refine .skip (hN22 _ ?_); refine .seq_k fun N28 hN28 => ?_; refine bk h fun x29 e29 h => ?_; refine bk h fun u30 e30 h => ?_; refine bk h fun u31 e31 h => ?_; refine bk h fun x32 e32 h => ?_; refine .drawF (l := [_,_,_,_,_,_,_,_,_,_,_,_,_,_]) [] [0, 5, 7, 8, 19, 20, 21] [([7], [7]), ([0], []), ([5], []), ([5], []), ([41], []), ([8], []), ([42, 43], []), ([40, 44], [1005]), ([38, 39, 45], [1005]), ([46], []), ([37], []), ([37], []), ([47], []), ([48], [])] [0, 5, 8, 9, 10, 19, 20, 21] [1005] mixed (by kernel_rfl) rfl (by decide) ?_; refine dq 38 rfl (fun _ g u h => LWo.loadVN ((e_impl_Part o7)).cells  g_impl_Part s_impl_Part u.1 h.1 rfl rfl (hn := .nil (zn g))) ?_; refine dq 39 rfl (fun _ g u h => LWo.move (e_Limpl_Column t0) u.1 (hn := .nil (zn g))) ?_; refine dq 40 rfl (fun _ g u h => LWo.move (.own 1005 0 (o1005).length) u.1 (hn := .nil (zn g))) ?_; refine dq 41 rfl (fun _ g u h => LWo.move (.own 1005 0 (o1005).length) u.1 (hn := .nil (zn g))) ?_; refine dq 42 rfl (fun _ g u h => LWo.lenO u_Lint u.1 (hn := .nil (zn g))) ?_; refine dq 43 rfl (fun _ g u h => LWo.move (e_int t8) u.1 (hn := .nil (zn g))) ?_; refine dq 44 rfl (fun _ g u h => LWo.int _ u.1 u.2.1 (sub_ck e29) (hn := .nil (zn g))) ?_; refine dq 45 rfl (fun _ g u h => LWo.cutOM e30 u_Lint s_int u.1 h.1 ⟨_, u.2.1⟩ rfl (hn := .nil (zn g))) ?_; refine dq 46 rfl (fun _ g u h => LWo.wcall rfl (av3 u.1 u.2.1 u.2.2.1) (c_impl_Part_kind _ _ _ _ e32) (.same (.same (.viewT h.1 (leN_b e31) rfl (.nil)))) rfl (hn := .nil (zn g))) ?_; refine dq 37 rfl (fun _ g u h => LWo.move (.tup [(e_int x32.1), (e_bool x32.2)]) u.1 (hn := .nil (zn g))) ?_; refine dq 47 rfl (fun _ g u h => LWo.extract (e_int x32.1) u.1 rfl (hn := .nil (zn g))) ?_; refine dq 48 rfl (fun _ g u h => LWo.extract (e_bool x32.2) u.1 rfl (hn := .nil (zn g))) ?_; refine dq 9 rfl (fun _ g u h => LWo.assign (e_int x32.1) u.1 (hn := .nil (zn g))) ?_; refine dq 10 rfl (fun _ g u h => LWo.assign (e_bool x32.2) u.1 (hn := .nil (zn g))) ?_; refine ⟨rfl, by kernel_rfl, hN28 _ ?_⟩; refine .seq_k fun N33 hN33 => ?_; refine .seq_k fun N34 hN34 => ?_; refine .region (l := [_,_]) (.move (e_bool x32.2) rfl (hn := .not rfl (hn := ?_))); refine .nil (hN34 _ ?_); refine .cond_split rfl (fun h35 => ?_) (fun h35 => ?_)
        ·have h := bT h35 h; refine .seq_k fun N36 hN36 => ?_; refine .region (l := [_]) (.assign (e_int (-1 : Int)) rfl (hn := .nil (hN36 _ ?_))); obtain rfl := so h; refine .ret .p
        ·have h := bF h35 h; refine .skip (hN33 _ ?_); refine .region (l := [_,_,_,_,_,_,_,_,_,_]) (.move (.own 1005 0 (o1005).length) rfl (hn := .move (.own 1005 0 (o1005).length) rfl (hn := .lenO u_Lint rfl (hn := ?_)))); refine .move (e_int t8) rfl (hn := bk h fun x37 e37 h => ?_); refine .int _ rfl rfl (sub_ck e37) (hn := bk h fun u38 e38 h => ?_); refine .cutOM e38 u_Lint s_int rfl rfl rfl ⟨_, rfl⟩ (hn := ?_); refine .move (e_int x32.1) rfl (hn := .lit (ops := [_]) [(e_int x32.1)] u_Lint s_int z_int rfl rfl rfl rfl rfl rfl (hn := ?_)); refine bk h fun x39 e39 h => ?_; refine .appendT (f := e_int) e39 u_Lint u_Lint (fun _ h => by cases h) s_int i_int rfl rfl rfl (.m (.sl rfl)) rfl rfl (hn := ?_); refine .assign (.own 1005 0 (x39).length) rfl (hn := .nil (hN16 _ ?_)); refine .region (l := [_,_]) (bk h fun x40 e40 h => ?_); refine .int _ rfl rfl (add_ck e40) (hn := .move (e_int x40) rfl (hn := .nil (hN11 (t0, t19, t20, x40, x39) _ ⟨rfl, rfl, rfl, rfl, rfl, trivial⟩ ⟨rfl, trivial⟩ h)))
      ·intro N23 hN23; refine .region (l := [_,_,_,_,_,_,_,_,_,_]) (.loadVN ((e_impl_Part y19)).cells  g_impl_Part s_impl_Part rfl rfl rfl rfl (hn := ?_)); refine .move (e_Limpl_Column t0) rfl (hn := bk h fun x24 e24 h => ?_); refine .vcall rfl rfl (c_impl_Part_tells _ _ _ e24) (.same (.same (.nil))) (hn := ?_); refine .not rfl (hn := ?_); refine .move (e_bool (!x24)) rfl (hn := .byCases (t := 31) _ rfl (fun h25 => ?_) (fun h25 => ?_))
       ·have h := bT h25 h; refine .gN 31 h25 (.gN 31 h25 (.gN 31 h25 (.gN 31 h25 (.pickTM (e_bool true) rfl h25 rfl (hn := .nil (hN23 (t0, x21, t19, t20, t21, true, y19, o1005) _ ⟨rfl, rfl, rfl, rfl, rfl, rfl, rfl, rfl, trivial⟩ ⟨rfl, rfl, trivial⟩ h))))))
       ·have h := bF h25 h; refine .gY 31 h25 (.move (.own 1005 0 (o1005).length) rfl (hn := .gY 31 h25 (.lenO u_Lint rfl (hn := ?_)))); refine .gY 31 h25 (.move (e_int x21) rfl (hn := .gY 31 h25 (.int _ rfl rfl rfl (hn := .pickFM (e_bool (decide ((o1005.length : Int) < x21))) rfl h25 rfl (hn := .nil (hN23 (t0, x21, t19, t20, t21, decide ((o1005.length : Int) < x21), y19, o1005) _ ⟨rfl, rfl, rfl, rfl, rfl, rfl, rfl, rfl, trivial⟩ ⟨rfl, rfl, trivial⟩ h))))))
     ·have h := bF h15 h; refine .exit (hN9 o1005 _ ⟨rfl, trivial⟩ ⟨rfl, trivial⟩ h)
  ·intro N3 hN3; refine .region (l := [_,_,_,_,_,_,_,_]) (.move (e_Limpl_Column a0) rfl (hn := bk h fun x4 e4 h => ?_)); refine .vcall rfl rfl (c_impl_ColumnsOk _ _ e4) (.same (.nil)) (hn := ?_); refine .not rfl (hn := ?_); refine .move (e_bool (!x4)) rfl (hn := .byCases (t := 14) _ rfl (fun h5 => ?_) (fun h5 => ?_))
   ·have h := bT h5 h; refine .gN 14 h5 (.gN 14 h5 (.gN 14 h5 (.pickTM (e_bool true) rfl h5 rfl (hn := .nil (hN3 (a0, a1, true) _ ⟨rfl, rfl, rfl, trivial⟩ trivial h)))))
   ·have h := bF h5 h; refine .gY 14 h5 (.move (e_Limpl_Part a1) rfl (hn := .gY 14 h5 (.lenM (f := e_impl_Part) (l := a1) u_Limpl_Part rfl (hn := ?_)))); refine .gY 14 h5 (.int _ rfl rfl rfl (hn := .pickFM (e_bool (decide ((a1.length : Int) > (12 : Int)))) rfl h5 rfl (hn := .nil (hN3 (a0, a1, decide ((a1.length : Int) > (12 : Int))) _ ⟨rfl, rfl, rfl, trivial⟩ trivial h))))

def m_impl_ExprMoved_1 (a0 : Int) : Option Bool :=
  (m_impl_between a0 (0 : Int) (3 : Int)).bind fun x3 =>
  some (!x3)
theorem c_impl_ExprMoved_1 (a0 : Int) (r : Bool) (h : m_impl_ExprMoved_1 a0 = some r) : Ret Try.prog f_impl_ExprMoved_1 [e_int a0] (e_bool r) := by
  refine Does.goG [] F_impl_ExprMoved_1 rfl e_impl_ExprMoved_1 n_impl_ExprMoved_1 rfl (rvs := [.tmp 2]) rfl rfl ?_; intro w0 ok0 lent ρ0; refine .seq_k fun N1 hN1 => ?_; refine .region (l := [_]) (.assign (e_bool false) rfl (hn := .nil (hN1 _ ?_))); refine .seq_k fun N2 hN2 => ?_; refine .region (l := [_,_,_,_]) (.move (e_int a0) rfl (hn := bk h fun x3 e3 h => ?_)); refine .vcall rfl rfl (c_impl_between _ _ _ _ e3) (.same (.same (.same (.nil)))) (hn := ?_); refine .not rfl (hn := ?_); refine .assign (e_bool (!x3)) rfl (hn := .nil (hN2 _ ?_)); obtain rfl := so h; refine .ret .p

theorem cc_slices_Clip_Limpl_Part_impl_Part (xs : List LV) : Does Try.prog f_slices_Clip_Limpl_Part_impl_Part [.own 0 0 xs.length] [(0, { kind := .fro, sz := 5, elems := xs })] (fun r h => r = .nw 5 xs false ∧ h = []) := by
  refine Does.go [0] F_slices_Clip_Limpl_Part_impl_Part rfl e_slices_Clip_Limpl_Part_impl_Part n_slices_Clip_Limpl_Part_impl_Part rfl (ts := [2]) rfl rfl rfl ?_; intro w0 ok0 lent ρ0; refine .seq_k fun N1 hN1 => ?_; refine .region (l := [_]) (.assign _ rfl (hn := .nil (hN1 _ ?_))); refine .seq_k fun N2 hN2 => ?_; refine .region (l := [_,_,_,_,_,_,_]) (.move _ rfl (hn := .move _ rfl (hn := .len u_Limpl_Part rfl (hn := ?_)))); refine .move _ rfl (hn := .len u_Limpl_Part rfl (hn := ?_)); refine .cutOwn (l := 0) (h := xs.length) u_Limpl_Part s_impl_Part rfl rfl rfl rfl ⟨_, rfl⟩ ⟨_, _, rfl, Nat.le_refl _, Nat.le_refl _⟩ (.inr (by simp)) (Nat.zero_le _) (Nat.le_refl _) rfl rfl (hn := ?_); refine .assign _ rfl (hn := .nil (hN2 _ ?_)); refine .ret (QRet.own1 (.inr rfl) rfl rfl rfl rfl (by simp) ⟨?_, rfl⟩); clear hN1 hN2; exact congrArg (fun l => LV.nw 5 l false) (by simp)
def m_slices_Clip_Limpl_Part_impl_Part_o (o0 : List S_impl_Part) : Option (List S_impl_Part) := some o0
theorem c_slices_Clip_Limpl_Part_impl_Part_o (o0 : List S_impl_Part) (r : List S_impl_Part) (h : m_slices_Clip_Limpl_Part_impl_Part_o o0 = some r) : Does Try.prog f_slices_Clip_Limpl_Part_impl_Part [.own 0 0 o0.length] [(0, lob 5 e_impl_Part o0)] (fun x hh => x = .nw 5 (r.map e_impl_Part) false ∧ hh = []) := by
  cases h; have := cc_slices_Clip_Limpl_Part_impl_Part (o0.map e_impl_Part); rw [List.length_map] at this; exact this



def m_slices_Clip_Limpl_Part_impl_Part (a0 : (List S_impl_Part)) : Option (List S_impl_Part) :=
  (cut3? a0 (0 : Int) (a0.length : Int) (a0.length : Int)).bind fun x3 =>
  some x3
theorem c_slices_Clip_Limpl_Part_impl_Part (a0 : (List S_impl_Part)) (r : (List S_impl_Part)) (h : m_slices_Clip_Limpl_Part_impl_Part a0 = some r) : Ret Try.prog f_slices_Clip_Limpl_Part_impl_Part [e_Limpl_Part a0] (e_Limpl_Part r) := by
  refine Does.goG [] F_slices_Clip_Limpl_Part_impl_Part rfl e_slices_Clip_Limpl_Part_impl_Part n_slices_Clip_Limpl_Part_impl_Part rfl (rvs := [.tmp 2]) rfl rfl ?_; intro w0 ok0 lent ρ0; refine .seq_k fun N1 hN1 => ?_; refine .region (l := [_]) (.assign _ rfl (hn := .weakT 2 (e_Limpl_Part ([] : (List S_impl_Part))) rfl .nil ?_)); refine .nil (hN1 _ ?_); refine .seq_k fun N2 hN2 => ?_; refine .region (l := [_,_,_,_,_,_,_]) (.move (e_Limpl_Part a0) rfl (hn := .move (e_Limpl_Part a0) rfl (hn := .lenM (f := e_impl_Part) (l := a0) u_Limpl_Part rfl (hn := ?_)))); refine .move (e_Limpl_Part a0) rfl (hn := .lenM (f := e_impl_Part) (l := a0) u_Limpl_Part rfl (hn := ?_)); refine bk h fun x3 e3 h => ?_; refine .cutM3 (f := e_impl_Part) e3 u_Limpl_Part s_impl_Part rfl rfl ⟨_, rfl⟩ ⟨_, rfl⟩ (hn := ?_); refine .assign (e_Limpl_Part x3) rfl (hn := .nil (hN2 _ ?_)); obtain rfl := so h; refine .ret .p

def m_impl_clone_impl_Part (a0 : (List S_impl_Part)) : Option (List S_impl_Part) :=
  bif ((a0.length : Int) == (0 : Int)) then (some ([] : (List S_impl_Part)))
  else ((appN? a0).bind fun x7 =>
  (m_slices_Clip_Limpl_Part_impl_Part_o x7).bind fun x8 =>
  some x8)
theorem c_impl_clone_impl_Part (a0 : (List S_impl_Part)) (r : (List S_impl_Part)) (h : m_impl_clone_impl_Part a0 = some r) : Ret Try.prog f_impl_clone_impl_Part [e_Limpl_Part a0] (.nw 5 (r.map e_impl_Part) false) := by
  refine Does.goG [] F_impl_clone_impl_Part rfl e_impl_clone_impl_Part n_impl_clone_impl_Part rfl (rvs := [.tmp 2]) rfl rfl ?_; intro w0 ok0 lent ρ0; refine .seq_k fun N1 hN1 => ?_; refine .region (l := [_]) (.assign _ rfl (hn := .ownNil 2 1002 5 rfl rfl rfl ?_)); refine .known 2 (.own 1002 0 ([] : (List S_impl_Part)).length) rfl ?_; refine .nil (hN1 _ ?_); refine .seq_k fun N2 hN2 => ?_; refine .seq_k fun N3 hN3 => ?_; refine .region (l := [_,_,_]) (.move (e_Limpl_Part a0) rfl (hn := .lenM (f := e_impl_Part) (l := a0) u_Limpl_Part rfl (hn := ?_))); refine .int _ rfl rfl rfl (hn := .nil (hN3 _ ?_)); refine .cond_split rfl (fun h4 => ?_) (fun h4 => ?_)
  ·have h := bT h4 h; refine .seq_k fun N5 hN5 => ?_; refine .region (l := [_]) (.assign _ rfl (hn := .ownNil 2 1002 5 rfl rfl rfl ?_)); refine .known 2 (.own 1002 0 ([] : (List S_impl_Part)).length) rfl ?_; refine .nil (hN5 _ ?_); obtain rfl := so h; refine .ret (QG.mk (.inr rfl) (.cons (.tmp (x := (.own 1002 0 (([] : (List S_impl_Part))).length)) rfl) (.nil)) (RetOK.one0 (.nwM rfl rfl) (by decide)) rfl rfl)
  ·have h := bF h4 h; refine .skip (hN2 _ ?_); refine .seq_k fun N6 hN6 => ?_; refine .region (l := [_,_,_,_]) (.move (e_Limpl_Part a0) rfl (hn := bk h fun x7 e7 h => ?_)); refine .appendC (f := e_impl_Part) 1007 e7 u_Limpl_Part u_Limpl_Part (fun _ h => by cases h) i_impl_Part rfl rfl (.sl rfl) (fun _ => rfl) rfl rfl (hn := ?_); refine bk h fun x8 e8 h => ?_; refine .tcallN (e := e_impl_Part) (e' := e_impl_Part) 1008 rfl rfl (c_slices_Clip_Limpl_Part_impl_Part_o _ _ e8) (fun _ => rfl) rfl rfl rfl rfl (hn := ?_); refine .assign (.own 1008 0 (x8).length) rfl (hn := .nil (hN6 _ ?_)); obtain rfl := so h; refine .ret (QG.mk (.inr rfl) (.cons (.tmp (x := (.own 1008 0 (x8).length)) rfl) (.nil)) (RetOK.one0 (.nwM rfl rfl) (by decide)) rfl rfl)

def m_impl_exprMoved_j2 (o1009 : (List S_impl_Part)) : Option (List S_impl_Part) :=
  some o1009
def m_impl_exprMoved_j1 (k1 : (List Int) → Int → Int → (List S_impl_Part) → Option (List S_impl_Part)) (t1 : (List Int)) (t11 : Int) (t12 : Int) (o1009 : (List S_impl_Part)) : Option (List S_impl_Part) :=
  (ckI (t12 + (1 : Int))).bind fun x22 =>
  k1 t1 t11 x22 o1009
def m_impl_exprMoved_l1 : Nat → (List Int) → Int → Int → (List S_impl_Part) → Option (List S_impl_Part)
  | 0, _, _, _, _ => none
  | n1 + 1, t1, t11, t12, o1009 =>
    bif decide (t12 < t11) then ((at? o1009 t12).bind fun x13 =>
    (at? o1009 t12).bind fun x14 =>
    lt (x14) fun y15 =>
    bif (y15.Kind == (2 : Int)) then ((at? t1 y15.N).bind fun x18 =>
      (at? o1009 t12).bind fun x19 =>
      (at? o1009 t12).bind fun x20 =>
      lt ({ x20 with N := x18 }) fun y21 =>
      m_impl_exprMoved_j1  (m_impl_exprMoved_l1  n1) t1 t11 t12 (o1009.set (t12).toNat y21))
    else (m_impl_exprMoved_j1  (m_impl_exprMoved_l1  n1) t1 t11 t12 o1009))
    else (m_impl_exprMoved_j2  o1009)
def m_impl_exprMoved (a0 : (List S_impl_Part)) (a1 : (List Int)) : Option (List S_impl_Part) :=
  (m_impl_clone_impl_Part a0).bind fun x3 =>
  m_impl_exprMoved_l1  (((x3.length : Int) - (0 : Int)).toNat + 1) a1 (x3.length : Int) (0 : Int) x3
theorem c_impl_exprMoved (a0 : (List S_impl_Part)) (a1 : (List Int)) (r : (List S_impl_Part)) (h : m_impl_exprMoved a0 a1 = some r) : Ret Try.prog f_impl_exprMoved [e_Limpl_Part a0, e_Lint a1] (.nw 5 (r.map e_impl_Part) false) := by
  refine Does.goG [] F_impl_exprMoved rfl e_impl_exprMoved n_impl_exprMoved rfl (rvs := [.tmp 4]) rfl rfl ?_; intro w0 ok0 lent ρ0; refine .seq_k fun N1 hN1 => ?_; refine .region (l := [_]) (.assign _ rfl (hn := .ownNil 4 1004 5 rfl rfl rfl ?_)); refine .known 4 (.own 1004 0 ([] : (List S_impl_Part)).length) rfl ?_; refine .nil (hN1 _ ?_); refine .seq_k fun N2 hN2 => ?_; refine .region (l := [_,_,_]) (.move (e_Limpl_Part a0) rfl (hn := bk h fun x3 e3 h => ?_)); refine .ncall (e := e_impl_Part) 1009 rfl rfl (c_impl_clone_impl_Part _ _ e3) (.same (.nil)) rfl (hn := ?_); refine .assign (.own 1009 0 (x3).length) rfl (hn := .nil (hN2 _ ?_)); refine .join (α := (List S_impl_Part)) (fun z : (List S_impl_Part) => [(5, (.own 1009 0 (z).length))]) (fun z : (List S_impl_Part) => [(1009, (lob 5 e_impl_Part z))]) (fun z : (List S_impl_Part) => m_impl_exprMoved_j2  z) r (fun _ => by simp [hkeys]) ?_ ?_
  ·rintro o1009 h; replace h : m_impl_exprMoved_j2  o1009 = some _ := h; refine .seq_k fun N23 hN23 => ?_; refine .region (l := [_,_]) (.move (.own 1009 0 (o1009).length) rfl (hn := .assign (.own 1009 0 (o1009).length) rfl (hn := .nil (hN23 _ ?_)))); obtain rfl := so h; refine .ret (QG.mk (.inr rfl) (.cons (.tmp (x := (.own 1009 0 (o1009).length)) rfl) (.nil)) (RetOK.one0 (.nwM rfl rfl) (by decide)) rfl rfl)
  ·intro N4 hN4; refine .seq_k fun N5 hN5 => ?_; refine .region (l := [_,_,_]) (.move (.own 1009 0 (x3).length) rfl (hn := .lenO u_Limpl_Part rfl (hn := ?_))); refine .move (e_int (0 : Int)) rfl (hn := .nil (hN5 _ ?_)); refine .block ?_; refine .loopM (α := (List Int) × Int × Int × (List S_impl_Part)) (fun z : (List Int) × Int × Int × (List S_impl_Part) => [(1, (e_Lint z.1)), (5, (.own 1009 0 (z.2.2.2).length)), (10, (.own 1009 0 (z.2.2.2).length)), (11, (e_int z.2.1)), (12, (e_int z.2.2.1))]) (fun z : (List Int) × Int × Int × (List S_impl_Part) => [(1009, (lob 5 e_impl_Part z.2.2.2))]) (fun n1 (z : (List Int) × Int × Int × (List S_impl_Part)) => m_impl_exprMoved_l1  n1 z.1 z.2.1 z.2.2.1 z.2.2.2) r _ (a1, (x3.length : Int), (0 : Int), x3) h (fun _ => rfl) (fun _ => by simp [hkeys]) ⟨rfl, rfl, rfl, rfl, rfl, trivial⟩ ⟨rfl, trivial⟩ ?_; rintro n1 ⟨t1, t11, t12, o1009⟩ h N6 hN6; replace h : m_impl_exprMoved_l1  (n1 + 1) t1 t11 t12 o1009 = some _ := h; refine .seq_k fun N8 hN8 => ?_; refine .region (l := [_]) (.int _ rfl rfl rfl (hn := .nil (hN8 _ ?_))); refine .seq_k fun N9 hN9 => ?_; refine .cond_split rfl (fun h10 => ?_) (fun h10 => ?_)
   ·have h := bT h10 h; refine .skip (hN9 _ ?_); refine .join (α := (List Int) × Int × Int × (List S_impl_Part)) (fun z : (List Int) × Int × Int × (List S_impl_Part) => [(1, (e_Lint z.1)), (5, (.own 1009 0 (z.2.2.2).length)), (10, (.own 1009 0 (z.2.2.2).length)), (11, (e_int z.2.1)), (12, (e_int z.2.2.1))]) (fun z : (List Int) × Int × Int × (List S_impl_Part) => [(1009, (lob 5 e_impl_Part z.2.2.2))]) (fun z : (List Int) × Int × Int × (List S_impl_Part) => m_impl_exprMoved_j1  (m_impl_exprMoved_l1  n1) z.1 z.2.1 z.2.2.1 z.2.2.2) r (fun _ => by simp [hkeys]) ?_ ?_
    ·rintro ⟨t1, t11, t12, o1009⟩ h; replace h : m_impl_exprMoved_j1  (m_impl_exprMoved_l1  n1) t1 t11 t12 o1009 = some _ := h; refine .region (l := [_,_]) (bk h fun x22 e22 h => ?_); refine .int _ rfl rfl (add_ck e22) (hn := .move (e_int x22) rfl (hn := .nil (hN6 (t1, t11, x22, o1009) _ ⟨rfl, rfl, rfl, rfl, rfl, trivial⟩ ⟨rfl, trivial⟩ h)))
    ·intro N11 hN11; refine .block ?_; refine .seq_k fun N12 hN12 => ?_; refine .region (l := [_,_,_,_,_,_]) (.move (e_int t12) rfl (hn := bk h fun x13 e13 h => ?_)); refine .indexO e13 rfl u_Limpl_Part s_impl_Part rfl rfl rfl (hn := ?_); refine bk h fun x14 e14 h => ?_; refine .loadON ((e_impl_Part x14)).cells e14 g_impl_Part s_impl_Part rfl rfl rfl rfl (hn := ?_); refine .alloc_impl_Part 7 rfl (hn := ?_); refine .assign (e_int t12) rfl (hn := lk h fun y15 e15 h => ?_); refine .storeW (y := (⟨(0 : Int), (0 : Int), (⟨(0 : Int), (0 : Int), (⟨#[]⟩ : ByteArray)⟩ : S_impl_Value)⟩ : S_impl_Part)) y15 s_impl_Part rfl rfl rfl rfl rfl rfl (by rw [e15]; exact .refl) rfl (hn := ?_); refine .nil (hN12 _ ?_); refine .seq_k fun N16 hN16 => ?_; refine .region (l := [_,_,_]) (.fieldPtr u_impl_Part rfl s_int rfl rfl (hn := ?_)); refine .loadV1 (e_int y15.Kind)  g_int rfl rfl rfl (hn := ?_); refine .int _ rfl rfl rfl (hn := .nil (hN16 _ ?_)); refine .cond_split rfl (fun h17 => ?_) (fun h17 => ?_)
     ·have h := bT h17 h; refine .region (l := [_,_,_,_,_,_,_,_,_,_]) (.move (.own 1009 0 (o1009).length) rfl (hn := .move (e_int t12) rfl (hn := .move (e_Lint t1) rfl (hn := .fieldPtr u_impl_Part rfl s_int rfl rfl (hn := ?_))))); refine .loadV1 (e_int y15.N)  g_int rfl rfl rfl (hn := ?_); refine bk h fun x18 e18 h => ?_; refine .indexM (f := e_int) e18 u_Lint s_int rfl rfl (hn := ?_); refine .load1 (c := (e_int x18)) g_int rfl (hn := bk h fun x19 e19 h => ?_); refine .indexO e19 rfl u_Limpl_Part s_impl_Part rfl rfl rfl (hn := ?_); refine .fieldPtr u_impl_Part rfl s_int rfl rfl (hn := ?_); refine bk h fun x20 e20 h => ?_; refine lk h fun y21 e21 h => ?_; refine .storeO y21 e20 s_int rfl rfl rfl rfl rfl rfl rfl (by rw [e21]; rfl) (hn := ?_); refine .nil (hN11 (t1, t11, t12, (o1009.set (t12).toNat y21)) _ ⟨rfl, (congrArg (LV.own 1009 0) List.length_set.symm), (congrArg (LV.own 1009 0) List.length_set.symm), rfl, rfl, trivial⟩ ⟨rfl, trivial⟩ h)
     ·have h := bF h17 h; refine .skip (hN11 (t1, t11, t12, o1009) _ ⟨rfl, rfl, rfl, rfl, rfl, trivial⟩ ⟨rfl, trivial⟩ h)
   ·have h := bF h10 h; refine .exit (hN4 o1009 _ ⟨rfl, trivial⟩ ⟨rfl, trivial⟩ h)

def m_impl_ExprMoved_j1 (t1 : (List S_impl_Part)) (t2 : (List Int)) (t21 : Bool) : Option (List S_impl_Part) :=
  bif t21 then (some ([] : (List S_impl_Part)))
  else ((m_impl_exprMoved t1 t2).bind fun x11 =>
  some x11)
def m_impl_ExprMoved (a0 : (List S_impl_Column)) (a1 : (List S_impl_Part)) (a2 : (List Int)) : Option (List S_impl_Part) :=
  (m_impl_ExprKind a0 a1).bind fun x4 =>
  bif decide (x4 < (0 : Int)) then (m_impl_ExprMoved_j1  a1 a2 true)
  else (bif ((a2.length : Int) != (a0.length : Int)) then (m_impl_ExprMoved_j1  a1 a2 true)
    else ((m_slices_ContainsFunc_Lint_int a2 (fun b0_ => m_impl_ExprMoved_1 b0_ )).bind fun x7 =>
      m_impl_ExprMoved_j1  a1 a2 x7))
theorem c_impl_ExprMoved (a0 : (List S_impl_Column)) (a1 : (List S_impl_Part)) (a2 : (List Int)) (r : (List S_impl_Part)) (h : m_impl_ExprMoved a0 a1 a2 = some r) : Ret Try.prog f_impl_ExprMoved [e_Limpl_Column a0, e_Limpl_Part a1, e_Lint a2] (.nw 5 (r.map e_impl_Part) false) := by
  refine Does.goG [] F_impl_ExprMoved rfl e_impl_ExprMoved n_impl_ExprMoved rfl (rvs := [.tmp 6]) rfl rfl ?_; intro w0 ok0 lent ρ0; refine .seq_k fun N1 hN1 => ?_; refine .region (l := [_]) (.assign _ rfl (hn := .ownNil 6 1006 5 rfl rfl rfl ?_)); refine .known 6 (.own 1006 0 ([] : (List S_impl_Part)).length) rfl ?_; refine .nil (hN1 _ ?_); refine .seq_k fun N2 hN2 => ?_; refine .join (α := (List S_impl_Part) × (List Int) × Bool) (fun z : (List S_impl_Part) × (List Int) × Bool => [(1, (e_Limpl_Part z.1)), (2, (e_Lint z.2.1)), (21, (e_bool z.2.2))]) (fun z : (List S_impl_Part) × (List Int) × Bool => []) (fun z : (List S_impl_Part) × (List Int) × Bool => m_impl_ExprMoved_j1  z.1 z.2.1 z.2.2) r (fun _ => by simp [hkeys]) ?_ ?_
  ·rintro ⟨t1, t2, t21⟩ h; replace h : m_impl_ExprMoved_j1  t1 t2 t21 = some _ := h; refine .cond_split rfl (fun h8 => ?_) (fun h8 => ?_)
   ·have h := bT h8 h; refine .seq_k fun N9 hN9 => ?_; refine .region (l := [_]) (.assign _ rfl (hn := .ownNil 6 1006 5 rfl rfl rfl ?_)); refine .known 6 (.own 1006 0 ([] : (List S_impl_Part)).length) rfl ?_; refine .nil (hN9 _ ?_); obtain rfl := so h; refine .ret (QG.mk (.inr rfl) (.cons (.tmp (x := (.own 1006 0 (([] : (List S_impl_Part))).length)) rfl) (.nil)) (RetOK.one0 (.nwM rfl rfl) (by decide)) rfl rfl)
   ·have h := bF h8 h; refine .skip (hN2 _ ?_); refine .seq_k fun N10 hN10 => ?_; refine .region (l := [_,_,_,_]) (.move (e_Limpl_Part t1) rfl (hn := .move (e_Lint t2) rfl (hn := bk h fun x11 e11 h => ?_))); refine .ncall (e := e_impl_Part) 1024 rfl rfl (c_impl_exprMoved _ _ _ e11) (.same (.same (.nil))) rfl (hn := ?_); refine .assign (.own 1024 0 (x11).length) rfl (hn := .nil (hN10 _ ?_)); obtain rfl := so h; refine .ret (QG.mk (.inr rfl) (.cons (.tmp (x := (.own 1024 0 (x11).length)) rfl) (.nil)) (RetOK.one0 (.nwM rfl rfl) (by decide)) rfl rfl)
  ·intro N3 hN3; refine .region (l := [_,_,_,_,_,_,_,_,_,_,_,_,_,_,_]) (.move (e_Limpl_Column a0) rfl (hn := .move (e_Limpl_Part a1) rfl (hn := bk h fun x4 e4 h => ?_))); refine .vcall rfl rfl (c_impl_ExprKind _ _ _ e4) (.same (.same (.nil))) (hn := ?_); refine .int _ rfl rfl rfl (hn := .move (e_bool (decide (x4 < (0 : Int)))) rfl (hn := .byCases (t := 11) _ rfl (fun h5 => ?_) (fun h5 => ?_)))
   ·have h := bT h5 h; refine .gN 11 h5 (.gN 11 h5 (.gN 11 h5 (.gN 11 h5 (.gN 11 h5 (.pickTM (e_bool true) rfl h5 rfl (hn := .move (e_bool true) rfl (hn := .gN 18 rfl (.gN 18 rfl (.pickTM (e_bool true) rfl rfl rfl (hn := .nil (hN3 (a1, a2, true) _ ⟨rfl, rfl, rfl, trivial⟩ trivial h)))))))))))
   ·have h := bF h5 h; refine .gY 11 h5 (.move (e_Lint a2) rfl (hn := .gY 11 h5 (.lenM (f := e_int) (l := a2) u_Lint rfl (hn := ?_)))); refine .gY 11 h5 (.move (e_Limpl_Column a0) rfl (hn := .gY 11 h5 (.lenM (f := e_impl_Column) (l := a0) u_Limpl_Column rfl (hn := ?_)))); refine .gY 11 h5 (.int _ rfl rfl rfl (hn := .pickFM (e_bool ((a2.length : Int) != (a0.length : Int))) rfl h5 rfl (hn := .move (e_bool ((a2.length : Int) != (a0.length : Int))) rfl (hn := .byCases (t := 18) _ rfl (fun h6 => ?_) (fun h6 => ?_)))))
    ·have h := bT h6 h; refine .gN 18 h6 (.gN 18 h6 (.pickTM (e_bool true) rfl h6 rfl (hn := .nil (hN3 (a1, a2, true) _ ⟨rfl, rfl, rfl, trivial⟩ trivial h))))
    ·have h := bF h6 h; refine .gY 18 h6 (.move (e_Lint a2) rfl (hn := bk h fun x7 e7 h => ?_)); refine .gY 18 h6 (.vcall rfl rfl (c_slices_ContainsFunc_Lint_int _ _ f_impl_ExprMoved_1 [] (fun _ => rfl) (fun b0_ v hv => c_impl_ExprMoved_1 b0_  v hv) _ e7) (.same (.same (.nil))) (hn := ?_)); refine .pickFM (e_bool x7) rfl h6 rfl (hn := .nil (hN3 (a1, a2, x7) _ ⟨rfl, rfl, rfl, trivial⟩ trivial h))

def m_slices_IndexFunc_Limpl_Table_impl_Table_j1 (p1 : S_impl_Table → Option Bool)  : Option Int :=
  some (-1 : Int)
def m_slices_IndexFunc_Limpl_Table_impl_Table_l1 (p1 : S_impl_Table → Option Bool) : Nat → (List S_impl_Table) → Int → Int → Option Int
  | 0, _, _, _ => none
  | n1 + 1, t0, t7, t8 =>
    bif decide (t8 < t7) then ((at? t0 t8).bind fun x12 =>
    (p1 x12).bind fun x13 =>
    bif x13 then (some t8)
    else ((ckI (t8 + (1 : Int))).bind fun x16 =>
    (m_slices_IndexFunc_Limpl_Table_impl_Table_l1 p1 n1) t0 t7 x16))
    else (m_slices_IndexFunc_Limpl_Table_impl_Table_j1 p1 )
def m_slices_IndexFunc_Limpl_Table_impl_Table (a0 : (List S_impl_Table)) (p1 : S_impl_Table → Option Bool) : Option Int :=
  m_slices_IndexFunc_Limpl_Table_impl_Table_l1 p1 (((a0.length : Int) - (0 : Int)).toNat + 1) a0 (a0.length : Int) (0 : Int)
theorem c_slices_IndexFunc_Limpl_Table_impl_Table (a0 : (List S_impl_Table)) (p1 : S_impl_Table → Option Bool) (f1 : FuncId) (q1 : List LV) (hq1 : ∀ k, LV.at?.atL k q1 = false) (hf1 : ∀ a0 v, p1 a0 = some v → Ret Try.prog f1 (e_impl_Table a0 :: q1) (e_bool v)) (r : Int) (h : m_slices_IndexFunc_Limpl_Table_impl_Table a0 p1 = some r) : Ret Try.prog f_slices_IndexFunc_Limpl_Table_impl_Table [e_Limpl_Table a0, .clo f1 q1] (e_int r) := by
  refine Does.goG [] F_slices_IndexFunc_Limpl_Table_impl_Table rfl e_slices_IndexFunc_Limpl_Table_impl_Table n_slices_IndexFunc_Limpl_Table_impl_Table rfl (rvs := [.tmp 4]) rfl rfl ?_; intro w0 ok0 lent ρ0; refine .seq_k fun N1 hN1 => ?_; refine .region (l := [_]) (.assign (e_int (0 : Int)) rfl (hn := .nil (hN1 _ ?_))); refine .join (α := Unit) (fun z : Unit => []) (fun z : Unit => []) (fun z : Unit => m_slices_IndexFunc_Limpl_Table_impl_Table_j1 p1 ) r (fun _ => by simp [hkeys]) ?_ ?_
  ·rintro _ h; replace h : m_slices_IndexFunc_Limpl_Table_impl_Table_j1 p1  = some _ := h; refine .seq_k fun N17 hN17 => ?_; refine .region (l := [_]) (.assign (e_int (-1 : Int)) rfl (hn := .nil (hN17 _ ?_))); obtain rfl := so h; refine .ret .p
  ·intro N2 hN2; refine .seq_k fun N3 hN3 => ?_; refine .region (l := [_,_,_]) (.move (e_Limpl_Table a0) rfl (hn := .lenM (f := e_impl_Table) (l := a0) u_Limpl_Table rfl (hn := ?_))); refine .move (e_int (0 : Int)) rfl (hn := .nil (hN3 _ ?_)); refine .block ?_; refine .loopM (α := (List S_impl_Table) × Int × Int) (fun z : (List S_impl_Table) × Int × Int => [(0, (e_Limpl_Table z.1)), (1, (.clo f1 q1)), (7, (e_int z.2.1)), (8, (e_int z.2.2))]) (fun z : (List S_impl_Table) × Int × Int => []) (fun n1 (z : (List S_impl_Table) × Int × Int) => m_slices_IndexFunc_Limpl_Table_impl_Table_l1 p1 n1 z.1 z.2.1 z.2.2) r _ (a0, (a0.length : Int), (0 : Int)) h (fun _ => rfl) (fun _ => by simp [hkeys]) ⟨rfl, rfl, rfl, rfl, trivial⟩ trivial ?_; rintro n1 ⟨t0, t7, t8⟩ h N4 hN4; replace h : m_slices_IndexFunc_Limpl_Table_impl_Table_l1 p1 (n1 + 1) t0 t7 t8 = some _ := h; refine .seq_k fun N6 hN6 => ?_; refine .region (l := [_]) (.int _ rfl rfl rfl (hn := .nil (hN6 _ ?_))); refine .seq_k fun N7 hN7 => ?_; refine .cond_split rfl (fun h8 => ?_) (fun h8 => ?_)
   ·have h := bT h8 h; refine .skip (hN7 _ ?_); refine .seq_k fun N9 hN9 => ?_; refine .block ?_; refine .seq_k fun N10 hN10 => ?_; refine .region (l := [_,_]) (.move (e_int t8) rfl (hn := .assign (e_int t8) rfl (hn := .nil (hN10 _ ?_)))); refine .seq_k fun N11 hN11 => ?_; refine .region (l := [_,_,_,_,_,_]) (.move (.clo f1 q1) rfl (hn := .move (e_Limpl_Table t0) rfl (hn := .move (e_int t8) rfl (hn := bk h fun x12 e12 h => ?_)))); refine .indexM (f := e_impl_Table) e12 u_Limpl_Table s_impl_Table rfl rfl (hn := ?_); refine .loadN ((e_impl_Table x12)).cells g_impl_Table s_impl_Table rfl (Nat.le_of_ble_eq_true rfl) rfl (hn := ?_); refine bk h fun x13 e13 h => ?_; refine .vcall rfl rfl (hf1 _ _ e13) .refl (hn := ?_); refine .nil (hN11 _ ?_); refine .cond_split rfl (fun h14 => ?_) (fun h14 => ?_)
    ·have h := bT h14 h; refine .seq_k fun N15 hN15 => ?_; refine .region (l := [_,_]) (.move (e_int t8) rfl (hn := .assign (e_int t8) rfl (hn := .nil (hN15 _ ?_)))); obtain rfl := so h; refine .ret .p
    ·have h := bF h14 h; refine .skip (hN9 _ ?_); refine .region (l := [_,_]) (bk h fun x16 e16 h => ?_); refine .int _ rfl rfl (add_ck e16) (hn := .move (e_int x16) rfl (hn := .nil (hN4 (t0, t7, x16) _ ⟨rfl, rfl, rfl, rfl, trivial⟩ trivial h)))
   ·have h := bF h8 h; refine .exit (hN2 () _ trivial trivial h)

def m_slices_ContainsFunc_Limpl_Table_impl_Table (a0 : (List S_impl_Table)) (p1 : S_impl_Table → Option Bool) : Option Bool :=
  (m_slices_IndexFunc_Limpl_Table_impl_Table a0 p1).bind fun x3 =>
  some (decide (x3 ≥ (0 : Int)))
theorem c_slices_ContainsFunc_Limpl_Table_impl_Table (a0 : (List S_impl_Table)) (p1 : S_impl_Table → Option Bool) (f1 : FuncId) (q1 : List LV) (hq1 : ∀ k, LV.at?.atL k q1 = false) (hf1 : ∀ a0 v, p1 a0 = some v → Ret Try.prog f1 (e_impl_Table a0 :: q1) (e_bool v)) (r : Bool) (h : m_slices_ContainsFunc_Limpl_Table_impl_Table a0 p1 = some r) : Ret Try.prog f_slices_ContainsFunc_Limpl_Table_impl_Table [e_Limpl_Table a0, .clo f1 q1] (e_bool r) := by
  refine Does.goG [] F_slices_ContainsFunc_Limpl_Table_impl_Table rfl e_slices_ContainsFunc_Limpl_Table_impl_Table n_slices_ContainsFunc_Limpl_Table_impl_Table rfl (rvs := [.tmp 4]) rfl rfl ?_; intro w0 ok0 lent ρ0; refine .seq_k fun N1 hN1 => ?_; refine .region (l := [_]) (.assign (e_bool false) rfl (hn := .nil (hN1 _ ?_))); refine .seq_k fun N2 hN2 => ?_; refine .region (l := [_,_,_,_,_]) (.move (e_Limpl_Table a0) rfl (hn := .move (.clo f1 q1) rfl (hn := bk h fun x3 e3 h => ?_))); refine .vcall rfl rfl (c_slices_IndexFunc_Limpl_Table_impl_Table _ _ f1 q1 hq1 hf1 _ e3) (.same (.same (.nil))) (hn := ?_); refine .int _ rfl rfl rfl (hn := .assign (e_bool (decide (x3 ≥ (0 : Int)))) rfl (hn := .nil (hN2 _ ?_))); obtain rfl := so h; refine .ret .p

def m_slices_IndexFunc_Limpl_Value_impl_Value_j1 (p1 : S_impl_Value → Option Bool)  : Option Int :=
  some (-1 : Int)
def m_slices_IndexFunc_Limpl_Value_impl_Value_l1 (p1 : S_impl_Value → Option Bool) : Nat → (List S_impl_Value) → Int → Int → Option Int
  | 0, _, _, _ => none
  | n1 + 1, t0, t7, t8 =>
    bif decide (t8 < t7) then ((at? t0 t8).bind fun x12 =>
    (p1 x12).bind fun x13 =>
    bif x13 then (some t8)
    else ((ckI (t8 + (1 : Int))).bind fun x16 =>
    (m_slices_IndexFunc_Limpl_Value_impl_Value_l1 p1 n1) t0 t7 x16))
    else (m_slices_IndexFunc_Limpl_Value_impl_Value_j1 p1 )
def m_slices_IndexFunc_Limpl_Value_impl_Value (a0 : (List S_impl_Value)) (p1 : S_impl_Value → Option Bool) : Option Int :=
  m_slices_IndexFunc_Limpl_Value_impl_Value_l1 p1 (((a0.length : Int) - (0 : Int)).toNat + 1) a0 (a0.length : Int) (0 : Int)
theorem c_slices_IndexFunc_Limpl_Value_impl_Value (a0 : (List S_impl_Value)) (p1 : S_impl_Value → Option Bool) (f1 : FuncId) (q1 : List LV) (hq1 : ∀ k, LV.at?.atL k q1 = false) (hf1 : ∀ a0 v, p1 a0 = some v → Ret Try.prog f1 (e_impl_Value a0 :: q1) (e_bool v)) (r : Int) (h : m_slices_IndexFunc_Limpl_Value_impl_Value a0 p1 = some r) : Ret Try.prog f_slices_IndexFunc_Limpl_Value_impl_Value [e_Limpl_Value a0, .clo f1 q1] (e_int r) := by
  refine Does.goG [] F_slices_IndexFunc_Limpl_Value_impl_Value rfl e_slices_IndexFunc_Limpl_Value_impl_Value n_slices_IndexFunc_Limpl_Value_impl_Value rfl (rvs := [.tmp 4]) rfl rfl ?_; intro w0 ok0 lent ρ0; refine .seq_k fun N1 hN1 => ?_; refine .region (l := [_]) (.assign (e_int (0 : Int)) rfl (hn := .nil (hN1 _ ?_))); refine .join (α := Unit) (fun z : Unit => []) (fun z : Unit => []) (fun z : Unit => m_slices_IndexFunc_Limpl_Value_impl_Value_j1 p1 ) r (fun _ => by simp [hkeys]) ?_ ?_
  ·rintro _ h; replace h : m_slices_IndexFunc_Limpl_Value_impl_Value_j1 p1  = some _ := h; refine .seq_k fun N17 hN17 => ?_; refine .region (l := [_]) (.assign (e_int (-1 : Int)) rfl (hn := .nil (hN17 _ ?_))); obtain rfl := so h; refine .ret .p
  ·intro N2 hN2; refine .seq_k fun N3 hN3 => ?_; refine .region (l := [_,_,_]) (.move (e_Limpl_Value a0) rfl (hn := .lenM (f := e_impl_Value) (l := a0) u_Limpl_Value rfl (hn := ?_))); refine .move (e_int (0 : Int)) rfl (hn := .nil (hN3 _ ?_)); refine .block ?_; refine .loopM (α := (List S_impl_Value) × Int × Int) (fun z : (List S_impl_Value) × Int × Int => [(0, (e_Limpl_Value z.1)), (1, (.clo f1 q1)), (7, (e_int z.2.1)), (8, (e_int z.2.2))]) (fun z : (List S_impl_Value) × Int × Int => []) (fun n1 (z : (List S_impl_Value) × Int × Int) => m_slices_IndexFunc_Limpl_Value_impl_Value_l1 p1 n1 z.1 z.2.1 z.2.2) r _ (a0, (a0.length : Int), (0 : Int)) h (fun _ => rfl) (fun _ => by simp [hkeys]) ⟨rfl, rfl, rfl, rfl, trivial⟩ trivial ?_; rintro n1 ⟨t0, t7, t8⟩ h N4 hN4; replace h : m_slices_IndexFunc_Limpl_Value_impl_Value_l1 p1 (n1 + 1) t0 t7 t8 = some _ := h; refine .seq_k fun N6 hN6 => ?_; refine .region (l := [_]) (.int _ rfl rfl rfl (hn := .nil (hN6 _ ?_))); refine .seq_k fun N7 hN7 => ?_; refine .cond_split rfl (fun h8 => ?_) (fun h8 => ?_)
   ·have h := bT h8 h; refine .skip (hN7 _ ?_); refine .seq_k fun N9 hN9 => ?_; refine .block ?_; refine .seq_k fun N10 hN10 => ?_; refine .region (l := [_,_]) (.move (e_int t8) rfl (hn := .assign (e_int t8) rfl (hn := .nil (hN10 _ ?_)))); refine .seq_k fun N11 hN11 => ?_; refine .region (l := [_,_,_,_,_,_]) (.move (.clo f1 q1) rfl (hn := .move (e_Limpl_Value t0) rfl (hn := .move (e_int t8) rfl (hn := bk h fun x12 e12 h => ?_)))); refine .indexM (f := e_impl_Value) e12 u_Limpl_Value s_impl_Value rfl rfl (hn := ?_); refine .loadN ((e_impl_Value x12)).cells g_impl_Value s_impl_Value rfl (Nat.le_of_ble_eq_true rfl) rfl (hn := ?_); refine bk h fun x13 e13 h => ?_; refine .vcall rfl rfl (hf1 _ _ e13) .refl (hn := ?_); refine .nil (hN11 _ ?_); refine .cond_split rfl (fun h14 => ?_) (fun h14 => ?_)
    ·have h := bT h14 h; refine .seq_k fun N15 hN15 => ?_; refine .region (l := [_,_]) (.move (e_int t8) rfl (hn := .assign (e_int t8) rfl (hn := .nil (hN15 _ ?_)))); obtain rfl := so h; refine .ret .p
    ·have h := bF h14 h; refine .skip (hN9 _ ?_); refine .region (l := [_,_]) (bk h fun x16 e16 h => ?_); refine .int _ rfl rfl (add_ck e16) (hn := .move (e_int x16) rfl (hn := .nil (hN4 (t0, t7, x16) _ ⟨rfl, rfl, rfl, rfl, trivial⟩ trivial h)))
   ·have h := bF h8 h; refine .exit (hN2 () _ trivial trivial h)

def m_slices_ContainsFunc_Limpl_Value_impl_Value (a0 : (List S_impl_Value)) (p1 : S_impl_Value → Option Bool) : Option Bool :=
  (m_slices_IndexFunc_Limpl_Value_impl_Value a0 p1).bind fun x3 =>
  some (decide (x3 ≥ (0 : Int)))
theorem c_slices_ContainsFunc_Limpl_Value_impl_Value (a0 : (List S_impl_Value)) (p1 : S_impl_Value → Option Bool) (f1 : FuncId) (q1 : List LV) (hq1 : ∀ k, LV.at?.atL k q1 = false) (hf1 : ∀ a0 v, p1 a0 = some v → Ret Try.prog f1 (e_impl_Value a0 :: q1) (e_bool v)) (r : Bool) (h : m_slices_ContainsFunc_Limpl_Value_impl_Value a0 p1 = some r) : Ret Try.prog f_slices_ContainsFunc_Limpl_Value_impl_Value [e_Limpl_Value a0, .clo f1 q1] (e_bool r) := by
  refine Does.goG [] F_slices_ContainsFunc_Limpl_Value_impl_Value rfl e_slices_ContainsFunc_Limpl_Value_impl_Value n_slices_ContainsFunc_Limpl_Value_impl_Value rfl (rvs := [.tmp 4]) rfl rfl ?_; intro w0 ok0 lent ρ0; refine .seq_k fun N1 hN1 => ?_; refine .region (l := [_]) (.assign (e_bool false) rfl (hn := .nil (hN1 _ ?_))); refine .seq_k fun N2 hN2 => ?_; refine .region (l := [_,_,_,_,_]) (.move (e_Limpl_Value a0) rfl (hn := .move (.clo f1 q1) rfl (hn := bk h fun x3 e3 h => ?_))); refine .vcall rfl rfl (c_slices_IndexFunc_Limpl_Value_impl_Value _ _ f1 q1 hq1 hf1 _ e3) (.same (.same (.nil))) (hn := ?_); refine .int _ rfl rfl rfl (hn := .assign (e_bool (decide (x3 ≥ (0 : Int)))) rfl (hn := .nil (hN2 _ ?_))); obtain rfl := so h; refine .ret .p
end Go.Proofs.Ytlkggobbofdchaa
