/- Mirrors of functions, and that the functions return what the mirrors say. -/
import Derived.Test.YtgepipglchpabaaXW2
set_option linter.unusedVariables false
set_option linter.unusedSimpArgs false
set_option linter.unnecessarySimpa false
namespace Go.Proofs.Ytgepipglchpabaa
open Go.Proofs Go.Lift Go.RowKit
def m_slices_IndexFunc_Limpl_Table_impl_Table_j1 (p1 : S_impl_Table → Option Bool)  : Option Int :=
  some (-1 : Int)
def m_slices_IndexFunc_Limpl_Table_impl_Table_l1 (p1 : S_impl_Table → Option Bool) : Nat → (List S_impl_Table) → Int → Int → Option Int
  | 0, _, _, _ => none
  | n1 + 1, t0, t7, t8 =>
    bif decide (t8 < t7) then ((at? t0 t8).bind fun x12 =>
    (p1 x12).bind fun x13 =>
    bif x13 then (some t8)
    else ((ckI (t8 + (1 : Int))).bind fun x16 =>
    (m_slices_IndexFunc_Limpl_Table_impl_Table_l1 p1 n1) t0 t7 x16))
    else (m_slices_IndexFunc_Limpl_Table_impl_Table_j1 p1 )
def m_slices_IndexFunc_Limpl_Table_impl_Table (a0 : (List S_impl_Table)) (p1 : S_impl_Table → Option Bool) : Option Int :=
  m_slices_IndexFunc_Limpl_Table_impl_Table_l1 p1 (((a0.length : Int) - (0 : Int)).toNat + 1) a0 (a0.length : Int) (0 : Int)
theorem c_slices_IndexFunc_Limpl_Table_impl_Table (a0 : (List S_impl_Table)) (p1 : S_impl_Table → Option Bool) (f1 : FuncId) (q1 : List LV) (hq1 : ∀ k, LV.at?.atL k q1 = false) (hf1 : ∀ a0 v, p1 a0 = some v → Ret Try.prog f1 (e_impl_Table a0 :: q1) (e_bool v)) (r : Int) (h : m_slices_IndexFunc_Limpl_Table_impl_Table a0 p1 = some r) : Ret Try.prog f_slices_IndexFunc_Limpl_Table_impl_Table [e_Limpl_Table a0, .clo f1 q1] (e_int r) := by
  refine Does.goG [] F_slices_IndexFunc_Limpl_Table_impl_Table rfl e_slices_IndexFunc_Limpl_Table_impl_Table n_slices_IndexFunc_Limpl_Table_impl_Table rfl (rvs := [.tmp 4]) rfl rfl ?_
  intro w0 ok0 lent ρ0
  refine LWP.seq_k fun N1 hN1 => ?_
  refine LWP.region (l := [_]) ?_
  refine LWo.assign (e_int (0 : Int)) rfl (hn := ?_)
  refine LWo.nil (hN1 _ ?_)
  refine LWP.join (α := Unit) (fun z : Unit => []) (fun z : Unit => []) (fun z : Unit => m_slices_IndexFunc_Limpl_Table_impl_Table_j1 p1 ) r (fun _ => by simp [hkeys]) ?_ ?_
  ·rintro _ h
   replace h : m_slices_IndexFunc_Limpl_Table_impl_Table_j1 p1  = some _ := h
   refine LWP.seq_k fun N17 hN17 => ?_
   refine LWP.region (l := [_]) ?_
   refine LWo.assign (e_int (-1 : Int)) rfl (hn := ?_)
   refine LWo.nil (hN17 _ ?_)
   obtain rfl := Option.some.inj h
   refine LWP.ret (QG.mk (.inr rfl) (.cons (.tmp (x := (e_int (-1 : Int))) rfl) (.nil)) (RetOK.one0 (.pure rfl) (by decide)) rfl rfl)
  ·intro N2 hN2
   refine LWP.seq_k fun N3 hN3 => ?_
   refine LWP.region (l := [_,_,_]) ?_
   refine LWo.move (e_Limpl_Table a0) rfl (hn := ?_)
   refine LWo.lenM (f := e_impl_Table) (l := a0) u_Limpl_Table rfl (hn := ?_)
   refine LWo.move (e_int (0 : Int)) rfl (hn := ?_)
   refine LWo.nil (hN3 _ ?_)
   refine LWP.block ?_
   refine LWP.loopM (α := (List S_impl_Table) × Int × Int) (fun z : (List S_impl_Table) × Int × Int => [(0, (e_Limpl_Table z.1)), (1, (.clo f1 q1)), (7, (e_int z.2.1)), (8, (e_int z.2.2))]) (fun z : (List S_impl_Table) × Int × Int => []) (fun n1 (z : (List S_impl_Table) × Int × Int) => m_slices_IndexFunc_Limpl_Table_impl_Table_l1 p1 n1 z.1 z.2.1 z.2.2) r _ (a0, (a0.length : Int), (0 : Int)) h (fun _ => rfl) (fun _ => by simp [hkeys]) ⟨rfl, rfl, rfl, rfl, trivial⟩ trivial ?_
   rintro n1 ⟨t0, t7, t8⟩ h N4 hN4
   replace h : m_slices_IndexFunc_Limpl_Table_impl_Table_l1 p1 (n1 + 1) t0 t7 t8 = some _ := h
   refine LWP.seq_k fun N6 hN6 => ?_
   refine LWP.region (l := [_]) ?_
   refine LWo.int _ rfl rfl rfl (hn := ?_)
   refine LWo.nil (hN6 _ ?_)
   refine LWP.seq_k fun N7 hN7 => ?_
   refine LWP.cond_split rfl (fun h8 => ?_) (fun h8 => ?_)
   ·have h := bT h8 h
    refine LWP.skip (hN7 _ ?_)
    refine LWP.seq_k fun N9 hN9 => ?_
    refine LWP.block ?_
    refine LWP.seq_k fun N10 hN10 => ?_
    refine LWP.region (l := [_,_]) ?_
    refine LWo.move (e_int t8) rfl (hn := ?_)
    refine LWo.assign (e_int t8) rfl (hn := ?_)
    refine LWo.nil (hN10 _ ?_)
    refine LWP.seq_k fun N11 hN11 => ?_
    refine LWP.region (l := [_,_,_,_,_,_]) ?_
    refine LWo.move (.clo f1 q1) rfl (hn := ?_)
    refine LWo.move (e_Limpl_Table t0) rfl (hn := ?_)
    refine LWo.move (e_int t8) rfl (hn := ?_)
    refine bk h fun x12 e12 h => ?_
    refine LWo.indexM (f := e_impl_Table) e12 u_Limpl_Table s_impl_Table rfl rfl (hn := ?_)
    refine LWo.loadN ((e_impl_Table x12)).cells g_impl_Table s_impl_Table rfl (Nat.le_of_ble_eq_true rfl) rfl (hn := ?_)
    refine bk h fun x13 e13 h => ?_
    refine LWo.vcall rfl rfl (hf1 _ _ e13) .refl (hn := ?_)
    refine LWo.nil (hN11 _ ?_)
    refine LWP.cond_split rfl (fun h14 => ?_) (fun h14 => ?_)
    ·have h := bT h14 h
     refine LWP.seq_k fun N15 hN15 => ?_
     refine LWP.region (l := [_,_]) ?_
     refine LWo.move (e_int t8) rfl (hn := ?_)
     refine LWo.assign (e_int t8) rfl (hn := ?_)
     refine LWo.nil (hN15 _ ?_)
     obtain rfl := Option.some.inj h
     refine LWP.ret (QG.mk (.inr rfl) (.cons (.tmp (x := (e_int t8)) rfl) (.nil)) (RetOK.one0 (.pure rfl) (by decide)) rfl rfl)
    ·have h := bF h14 h
     refine LWP.skip (hN9 _ ?_)
     refine LWP.region (l := [_,_]) ?_
     refine bk h fun x16 e16 h => ?_
     refine LWo.int _ rfl rfl (add_ck e16) (hn := ?_)
     refine LWo.move (e_int x16) rfl (hn := ?_)
     refine LWo.nil (hN4 (t0, t7, x16) _ ⟨rfl, rfl, rfl, rfl, trivial⟩ trivial h)
   ·have h := bF h8 h
    refine LWP.exit (hN2 () _ trivial trivial h)

def m_slices_ContainsFunc_Limpl_Table_impl_Table (a0 : (List S_impl_Table)) (p1 : S_impl_Table → Option Bool) : Option Bool :=
  (m_slices_IndexFunc_Limpl_Table_impl_Table a0 p1).bind fun x3 =>
  some (decide (x3 ≥ (0 : Int)))
theorem c_slices_ContainsFunc_Limpl_Table_impl_Table (a0 : (List S_impl_Table)) (p1 : S_impl_Table → Option Bool) (f1 : FuncId) (q1 : List LV) (hq1 : ∀ k, LV.at?.atL k q1 = false) (hf1 : ∀ a0 v, p1 a0 = some v → Ret Try.prog f1 (e_impl_Table a0 :: q1) (e_bool v)) (r : Bool) (h : m_slices_ContainsFunc_Limpl_Table_impl_Table a0 p1 = some r) : Ret Try.prog f_slices_ContainsFunc_Limpl_Table_impl_Table [e_Limpl_Table a0, .clo f1 q1] (e_bool r) := by
  refine Does.goG [] F_slices_ContainsFunc_Limpl_Table_impl_Table rfl e_slices_ContainsFunc_Limpl_Table_impl_Table n_slices_ContainsFunc_Limpl_Table_impl_Table rfl (rvs := [.tmp 4]) rfl rfl ?_
  intro w0 ok0 lent ρ0
  refine LWP.seq_k fun N1 hN1 => ?_
  refine LWP.region (l := [_]) ?_
  refine LWo.assign (e_bool false) rfl (hn := ?_)
  refine LWo.nil (hN1 _ ?_)
  refine LWP.seq_k fun N2 hN2 => ?_
  refine LWP.region (l := [_,_,_,_,_]) ?_
  refine LWo.move (e_Limpl_Table a0) rfl (hn := ?_)
  refine LWo.move (.clo f1 q1) rfl (hn := ?_)
  refine bk h fun x3 e3 h => ?_
  refine LWo.vcall rfl rfl (c_slices_IndexFunc_Limpl_Table_impl_Table _ _ f1 q1 hq1 hf1 _ e3) (.same (.same (.nil))) (hn := ?_)
  refine LWo.int _ rfl rfl rfl (hn := ?_)
  refine LWo.assign (e_bool (decide (x3 ≥ (0 : Int)))) rfl (hn := ?_)
  refine LWo.nil (hN2 _ ?_)
  obtain rfl := Option.some.inj h
  refine LWP.ret (QG.mk (.inr rfl) (.cons (.tmp (x := (e_bool (decide (x3 ≥ (0 : Int))))) rfl) (.nil)) (RetOK.one0 (.pure rfl) (by decide)) rfl rfl)

def m_slices_IndexFunc_Limpl_Column_impl_Column_j1 (p1 : S_impl_Column → Option Bool)  : Option Int :=
  some (-1 : Int)
def m_slices_IndexFunc_Limpl_Column_impl_Column_l1 (p1 : S_impl_Column → Option Bool) : Nat → (List S_impl_Column) → Int → Int → Option Int
  | 0, _, _, _ => none
  | n1 + 1, t0, t7, t8 =>
    bif decide (t8 < t7) then ((at? t0 t8).bind fun x12 =>
    (p1 x12).bind fun x13 =>
    bif x13 then (some t8)
    else ((ckI (t8 + (1 : Int))).bind fun x16 =>
    (m_slices_IndexFunc_Limpl_Column_impl_Column_l1 p1 n1) t0 t7 x16))
    else (m_slices_IndexFunc_Limpl_Column_impl_Column_j1 p1 )
def m_slices_IndexFunc_Limpl_Column_impl_Column (a0 : (List S_impl_Column)) (p1 : S_impl_Column → Option Bool) : Option Int :=
  m_slices_IndexFunc_Limpl_Column_impl_Column_l1 p1 (((a0.length : Int) - (0 : Int)).toNat + 1) a0 (a0.length : Int) (0 : Int)
theorem c_slices_IndexFunc_Limpl_Column_impl_Column (a0 : (List S_impl_Column)) (p1 : S_impl_Column → Option Bool) (f1 : FuncId) (q1 : List LV) (hq1 : ∀ k, LV.at?.atL k q1 = false) (hf1 : ∀ a0 v, p1 a0 = some v → Ret Try.prog f1 (e_impl_Column a0 :: q1) (e_bool v)) (r : Int) (h : m_slices_IndexFunc_Limpl_Column_impl_Column a0 p1 = some r) : Ret Try.prog f_slices_IndexFunc_Limpl_Column_impl_Column [e_Limpl_Column a0, .clo f1 q1] (e_int r) := by
  refine Does.goG [] F_slices_IndexFunc_Limpl_Column_impl_Column rfl e_slices_IndexFunc_Limpl_Column_impl_Column n_slices_IndexFunc_Limpl_Column_impl_Column rfl (rvs := [.tmp 4]) rfl rfl ?_
  intro w0 ok0 lent ρ0
  refine LWP.seq_k fun N1 hN1 => ?_
  refine LWP.region (l := [_]) ?_
  refine LWo.assign (e_int (0 : Int)) rfl (hn := ?_)
  refine LWo.nil (hN1 _ ?_)
  refine LWP.join (α := Unit) (fun z : Unit => []) (fun z : Unit => []) (fun z : Unit => m_slices_IndexFunc_Limpl_Column_impl_Column_j1 p1 ) r (fun _ => by simp [hkeys]) ?_ ?_
  ·rintro _ h
   replace h : m_slices_IndexFunc_Limpl_Column_impl_Column_j1 p1  = some _ := h
   refine LWP.seq_k fun N17 hN17 => ?_
   refine LWP.region (l := [_]) ?_
   refine LWo.assign (e_int (-1 : Int)) rfl (hn := ?_)
   refine LWo.nil (hN17 _ ?_)
   obtain rfl := Option.some.inj h
   refine LWP.ret (QG.mk (.inr rfl) (.cons (.tmp (x := (e_int (-1 : Int))) rfl) (.nil)) (RetOK.one0 (.pure rfl) (by decide)) rfl rfl)
  ·intro N2 hN2
   refine LWP.seq_k fun N3 hN3 => ?_
   refine LWP.region (l := [_,_,_]) ?_
   refine LWo.move (e_Limpl_Column a0) rfl (hn := ?_)
   refine LWo.lenM (f := e_impl_Column) (l := a0) u_Limpl_Column rfl (hn := ?_)
   refine LWo.move (e_int (0 : Int)) rfl (hn := ?_)
   refine LWo.nil (hN3 _ ?_)
   refine LWP.block ?_
   refine LWP.loopM (α := (List S_impl_Column) × Int × Int) (fun z : (List S_impl_Column) × Int × Int => [(0, (e_Limpl_Column z.1)), (1, (.clo f1 q1)), (7, (e_int z.2.1)), (8, (e_int z.2.2))]) (fun z : (List S_impl_Column) × Int × Int => []) (fun n1 (z : (List S_impl_Column) × Int × Int) => m_slices_IndexFunc_Limpl_Column_impl_Column_l1 p1 n1 z.1 z.2.1 z.2.2) r _ (a0, (a0.length : Int), (0 : Int)) h (fun _ => rfl) (fun _ => by simp [hkeys]) ⟨rfl, rfl, rfl, rfl, trivial⟩ trivial ?_
   rintro n1 ⟨t0, t7, t8⟩ h N4 hN4
   replace h : m_slices_IndexFunc_Limpl_Column_impl_Column_l1 p1 (n1 + 1) t0 t7 t8 = some _ := h
   refine LWP.seq_k fun N6 hN6 => ?_
   refine LWP.region (l := [_]) ?_
   refine LWo.int _ rfl rfl rfl (hn := ?_)
   refine LWo.nil (hN6 _ ?_)
   refine LWP.seq_k fun N7 hN7 => ?_
   refine LWP.cond_split rfl (fun h8 => ?_) (fun h8 => ?_)
   ·have h := bT h8 h
    refine LWP.skip (hN7 _ ?_)
    refine LWP.seq_k fun N9 hN9 => ?_
    refine LWP.block ?_
    refine LWP.seq_k fun N10 hN10 => ?_
    refine LWP.region (l := [_,_]) ?_
    refine LWo.move (e_int t8) rfl (hn := ?_)
    refine LWo.assign (e_int t8) rfl (hn := ?_)
    refine LWo.nil (hN10 _ ?_)
    refine LWP.seq_k fun N11 hN11 => ?_
    refine LWP.region (l := [_,_,_,_,_,_]) ?_
    refine LWo.move (.clo f1 q1) rfl (hn := ?_)
    refine LWo.move (e_Limpl_Column t0) rfl (hn := ?_)
    refine LWo.move (e_int t8) rfl (hn := ?_)
    refine bk h fun x12 e12 h => ?_
    refine LWo.indexM (f := e_impl_Column) e12 u_Limpl_Column s_impl_Column rfl rfl (hn := ?_)
    refine LWo.loadN ((e_impl_Column x12)).cells g_impl_Column s_impl_Column rfl (Nat.le_of_ble_eq_true rfl) rfl (hn := ?_)
    refine bk h fun x13 e13 h => ?_
    refine LWo.vcall rfl rfl (hf1 _ _ e13) .refl (hn := ?_)
    refine LWo.nil (hN11 _ ?_)
    refine LWP.cond_split rfl (fun h14 => ?_) (fun h14 => ?_)
    ·have h := bT h14 h
     refine LWP.seq_k fun N15 hN15 => ?_
     refine LWP.region (l := [_,_]) ?_
     refine LWo.move (e_int t8) rfl (hn := ?_)
     refine LWo.assign (e_int t8) rfl (hn := ?_)
     refine LWo.nil (hN15 _ ?_)
     obtain rfl := Option.some.inj h
     refine LWP.ret (QG.mk (.inr rfl) (.cons (.tmp (x := (e_int t8)) rfl) (.nil)) (RetOK.one0 (.pure rfl) (by decide)) rfl rfl)
    ·have h := bF h14 h
     refine LWP.skip (hN9 _ ?_)
     refine LWP.region (l := [_,_]) ?_
     refine bk h fun x16 e16 h => ?_
     refine LWo.int _ rfl rfl (add_ck e16) (hn := ?_)
     refine LWo.move (e_int x16) rfl (hn := ?_)
     refine LWo.nil (hN4 (t0, t7, x16) _ ⟨rfl, rfl, rfl, rfl, trivial⟩ trivial h)
   ·have h := bF h8 h
    refine LWP.exit (hN2 () _ trivial trivial h)

def m_slices_ContainsFunc_Limpl_Column_impl_Column (a0 : (List S_impl_Column)) (p1 : S_impl_Column → Option Bool) : Option Bool :=
  (m_slices_IndexFunc_Limpl_Column_impl_Column a0 p1).bind fun x3 =>
  some (decide (x3 ≥ (0 : Int)))
theorem c_slices_ContainsFunc_Limpl_Column_impl_Column (a0 : (List S_impl_Column)) (p1 : S_impl_Column → Option Bool) (f1 : FuncId) (q1 : List LV) (hq1 : ∀ k, LV.at?.atL k q1 = false) (hf1 : ∀ a0 v, p1 a0 = some v → Ret Try.prog f1 (e_impl_Column a0 :: q1) (e_bool v)) (r : Bool) (h : m_slices_ContainsFunc_Limpl_Column_impl_Column a0 p1 = some r) : Ret Try.prog f_slices_ContainsFunc_Limpl_Column_impl_Column [e_Limpl_Column a0, .clo f1 q1] (e_bool r) := by
  refine Does.goG [] F_slices_ContainsFunc_Limpl_Column_impl_Column rfl e_slices_ContainsFunc_Limpl_Column_impl_Column n_slices_ContainsFunc_Limpl_Column_impl_Column rfl (rvs := [.tmp 4]) rfl rfl ?_
  intro w0 ok0 lent ρ0
  refine LWP.seq_k fun N1 hN1 => ?_
  refine LWP.region (l := [_]) ?_
  refine LWo.assign (e_bool false) rfl (hn := ?_)
  refine LWo.nil (hN1 _ ?_)
  refine LWP.seq_k fun N2 hN2 => ?_
  refine LWP.region (l := [_,_,_,_,_]) ?_
  refine LWo.move (e_Limpl_Column a0) rfl (hn := ?_)
  refine LWo.move (.clo f1 q1) rfl (hn := ?_)
  refine bk h fun x3 e3 h => ?_
  refine LWo.vcall rfl rfl (c_slices_IndexFunc_Limpl_Column_impl_Column _ _ f1 q1 hq1 hf1 _ e3) (.same (.same (.nil))) (hn := ?_)
  refine LWo.int _ rfl rfl rfl (hn := ?_)
  refine LWo.assign (e_bool (decide (x3 ≥ (0 : Int)))) rfl (hn := ?_)
  refine LWo.nil (hN2 _ ?_)
  obtain rfl := Option.some.inj h
  refine LWP.ret (QG.mk (.inr rfl) (.cons (.tmp (x := (e_bool (decide (x3 ≥ (0 : Int))))) rfl) (.nil)) (RetOK.one0 (.pure rfl) (by decide)) rfl rfl)

def m_impl_between_j1 (t6 : Bool) : Option Bool :=
  some t6
def m_impl_between (a0 : Int) (a1 : Int) (a2 : Int) : Option Bool :=
  bif decide (a0 ≥ a1) then (m_impl_between_j1  (decide (a0 ≤ a2)))
  else (m_impl_between_j1  false)
theorem c_impl_between (a0 : Int) (a1 : Int) (a2 : Int) (r : Bool) (h : m_impl_between a0 a1 a2 = some r) : Ret Try.prog f_impl_between [e_int a0, e_int a1, e_int a2] (e_bool r) := by
  refine Does.goG [] F_impl_between rfl e_impl_between n_impl_between rfl (rvs := [.tmp 6]) rfl rfl ?_
  intro w0 ok0 lent ρ0
  refine LWP.seq_k fun N1 hN1 => ?_
  refine LWP.region (l := [_]) ?_
  refine LWo.assign (e_bool false) rfl (hn := ?_)
  refine LWo.nil (hN1 _ ?_)
  refine LWP.join (α := Bool) (fun z : Bool => [(6, (e_bool z))]) (fun z : Bool => []) (fun z : Bool => m_impl_between_j1  z) r (fun _ => by simp [hkeys]) ?_ ?_
  ·rintro t6 h
   replace h : m_impl_between_j1  t6 = some _ := h
   obtain rfl := Option.some.inj h
   refine LWP.ret (QG.mk (.inr rfl) (.cons (.tmp (x := (e_bool t6)) rfl) (.nil)) (RetOK.one0 (.pure rfl) (by decide)) rfl rfl)
  ·intro N2 hN2
   refine LWP.region (l := [_,_,_,_,_,_,_,_,_]) ?_
   refine LWo.move (e_int a0) rfl (hn := ?_)
   refine LWo.move (e_int a1) rfl (hn := ?_)
   refine LWo.int _ rfl rfl rfl (hn := ?_)
   refine LWo.move (e_bool (decide (a0 ≥ a1))) rfl (hn := ?_)
   refine LWo.byCases (t := 10) _ rfl (fun h3 => ?_) (fun h3 => ?_)
   ·have h := bT h3 h
    refine LWo.guardY (t := 10) rfl h3 rfl rfl ?_
    refine LWo.move (e_int a0) rfl (hn := ?_)
    refine LWo.guardY (t := 10) rfl h3 rfl rfl ?_
    refine LWo.move (e_int a2) rfl (hn := ?_)
    refine LWo.guardY (t := 10) rfl h3 rfl rfl ?_
    refine LWo.int _ rfl rfl rfl (hn := ?_)
    refine LWo.pickTM (e_bool (decide (a0 ≤ a2))) rfl h3 rfl (hn := ?_)
    refine LWo.assign (e_bool (decide (a0 ≤ a2))) rfl (hn := ?_)
    refine LWo.nil (hN2 (decide (a0 ≤ a2)) _ ⟨rfl, trivial⟩ trivial h)
   ·have h := bF h3 h
    refine LWo.guardNU (t := 10) rfl h3 rfl rfl rfl rfl rfl ?_
    refine LWo.guardNU (t := 10) rfl h3 rfl rfl rfl rfl rfl ?_
    refine LWo.guardNU (t := 10) rfl h3 rfl rfl rfl rfl rfl ?_
    refine LWo.pickFM (e_bool false) rfl h3 rfl (hn := ?_)
    refine LWo.assign (e_bool false) rfl (hn := ?_)
    refine LWo.nil (hN2 false _ ⟨rfl, trivial⟩ trivial h)

def m_impl_ColumnsOk_1 (a0 : S_impl_Column) : Option Bool :=
  (m_impl_between a0.Kind (1 : Int) (3 : Int)).bind fun x3 =>
  some (!x3)
theorem c_impl_ColumnsOk_1 (a0 : S_impl_Column) (r : Bool) (h : m_impl_ColumnsOk_1 a0 = some r) : Ret Try.prog f_impl_ColumnsOk_1 [e_impl_Column a0] (e_bool r) := by
  refine Does.goG [] F_impl_ColumnsOk_1 rfl e_impl_ColumnsOk_1 n_impl_ColumnsOk_1 rfl (rvs := [.tmp 2]) rfl rfl ?_
  intro w0 ok0 lent ρ0
  refine LWP.seq_k fun N1 hN1 => ?_
  refine LWP.region (l := [_,_]) ?_
  refine LWo.boxF (e_impl_Column a0) rfl rfl rfl (hn := ?_)
  refine LWo.assign (e_bool false) rfl (hn := ?_)
  refine LWo.nil (hN1 _ ?_)
  refine LWP.seq_k fun N2 hN2 => ?_
  refine LWP.region (l := [_,_,_,_,_]) ?_
  refine LWo.fieldAddr _ u_impl_Column rfl s_int rfl rfl (hn := ?_)
  refine LWo.load1 (c := (e_int a0.Kind)) g_int rfl (hn := ?_)
  refine bk h fun x3 e3 h => ?_
  refine LWo.vcall rfl rfl (c_impl_between _ _ _ _ e3) (.same (.same (.same (.nil)))) (hn := ?_)
  refine LWo.not rfl (hn := ?_)
  refine LWo.assign (e_bool (!x3)) rfl (hn := ?_)
  refine LWo.nil (hN2 _ ?_)
  obtain rfl := Option.some.inj h
  refine LWP.ret (QG.mk (.inr rfl) (.cons (.tmp (x := (e_bool (!x3))) rfl) (.nil)) (RetOK.one0 (.pure rfl) (by decide)) rfl rfl)

def m_impl_ColumnsOk_j1 (t2 : Bool) : Option Bool :=
  some t2
def m_impl_ColumnsOk (a0 : (List S_impl_Column)) : Option Bool :=
  bif decide ((a0.length : Int) ≤ (4 : Int)) then ((m_slices_ContainsFunc_Limpl_Column_impl_Column a0 (fun b0_ => m_impl_ColumnsOk_1 b0_ )).bind fun x4 =>
    m_impl_ColumnsOk_j1  (!x4))
  else (m_impl_ColumnsOk_j1  false)
theorem c_impl_ColumnsOk (a0 : (List S_impl_Column)) (r : Bool) (h : m_impl_ColumnsOk a0 = some r) : Ret Try.prog f_impl_ColumnsOk [e_Limpl_Column a0] (e_bool r) := by
  refine Does.goG [] F_impl_ColumnsOk rfl e_impl_ColumnsOk n_impl_ColumnsOk rfl (rvs := [.tmp 2]) rfl rfl ?_
  intro w0 ok0 lent ρ0
  refine LWP.seq_k fun N1 hN1 => ?_
  refine LWP.region (l := [_]) ?_
  refine LWo.assign (e_bool false) rfl (hn := ?_)
  refine LWo.nil (hN1 _ ?_)
  refine LWP.join (α := Bool) (fun z : Bool => [(2, (e_bool z))]) (fun z : Bool => []) (fun z : Bool => m_impl_ColumnsOk_j1  z) r (fun _ => by simp [hkeys]) ?_ ?_
  ·rintro t2 h
   replace h : m_impl_ColumnsOk_j1  t2 = some _ := h
   obtain rfl := Option.some.inj h
   refine LWP.ret (QG.mk (.inr rfl) (.cons (.tmp (x := (e_bool t2)) rfl) (.nil)) (RetOK.one0 (.pure rfl) (by decide)) rfl rfl)
  ·intro N2 hN2
   refine LWP.region (l := [_,_,_,_,_,_,_,_,_]) ?_
   refine LWo.move (e_Limpl_Column a0) rfl (hn := ?_)
   refine LWo.lenM (f := e_impl_Column) (l := a0) u_Limpl_Column rfl (hn := ?_)
   refine LWo.int _ rfl rfl rfl (hn := ?_)
   refine LWo.move (e_bool (decide ((a0.length : Int) ≤ (4 : Int)))) rfl (hn := ?_)
   refine LWo.byCases (t := 6) _ rfl (fun h3 => ?_) (fun h3 => ?_)
   ·have h := bT h3 h
    refine LWo.guardY (t := 6) rfl h3 rfl rfl ?_
    refine LWo.move (e_Limpl_Column a0) rfl (hn := ?_)
    refine bk h fun x4 e4 h => ?_
    refine LWo.guardY (t := 6) rfl h3 rfl rfl ?_
    refine LWo.vcall rfl rfl (c_slices_ContainsFunc_Limpl_Column_impl_Column _ _ f_impl_ColumnsOk_1 [] (fun _ => rfl) (fun b0_ v hv => c_impl_ColumnsOk_1 b0_  v hv) _ e4) (.same (.same (.nil))) (hn := ?_)
    refine LWo.guardY (t := 6) rfl h3 rfl rfl ?_
    refine LWo.not rfl (hn := ?_)
    refine LWo.pickTM (e_bool (!x4)) rfl h3 rfl (hn := ?_)
    refine LWo.assign (e_bool (!x4)) rfl (hn := ?_)
    refine LWo.nil (hN2 (!x4) _ ⟨rfl, trivial⟩ trivial h)
   ·have h := bF h3 h
    refine LWo.guardNU (t := 6) rfl h3 rfl rfl rfl rfl rfl ?_
    refine LWo.guardNU (t := 6) rfl h3 rfl rfl rfl rfl rfl ?_
    refine LWo.guardNU (t := 6) rfl h3 rfl rfl rfl rfl rfl ?_
    refine LWo.pickFM (e_bool false) rfl h3 rfl (hn := ?_)
    refine LWo.assign (e_bool false) rfl (hn := ?_)
    refine LWo.nil (hN2 false _ ⟨rfl, trivial⟩ trivial h)

def m_slices_IndexFunc_Limpl_Value_impl_Value_j1 (p1 : S_impl_Value → Option Bool)  : Option Int :=
  some (-1 : Int)
def m_slices_IndexFunc_Limpl_Value_impl_Value_l1 (p1 : S_impl_Value → Option Bool) : Nat → (List S_impl_Value) → Int → Int → Option Int
  | 0, _, _, _ => none
  | n1 + 1, t0, t7, t8 =>
    bif decide (t8 < t7) then ((at? t0 t8).bind fun x12 =>
    (p1 x12).bind fun x13 =>
    bif x13 then (some t8)
    else ((ckI (t8 + (1 : Int))).bind fun x16 =>
    (m_slices_IndexFunc_Limpl_Value_impl_Value_l1 p1 n1) t0 t7 x16))
    else (m_slices_IndexFunc_Limpl_Value_impl_Value_j1 p1 )
def m_slices_IndexFunc_Limpl_Value_impl_Value (a0 : (List S_impl_Value)) (p1 : S_impl_Value → Option Bool) : Option Int :=
  m_slices_IndexFunc_Limpl_Value_impl_Value_l1 p1 (((a0.length : Int) - (0 : Int)).toNat + 1) a0 (a0.length : Int) (0 : Int)
theorem c_slices_IndexFunc_Limpl_Value_impl_Value (a0 : (List S_impl_Value)) (p1 : S_impl_Value → Option Bool) (f1 : FuncId) (q1 : List LV) (hq1 : ∀ k, LV.at?.atL k q1 = false) (hf1 : ∀ a0 v, p1 a0 = some v → Ret Try.prog f1 (e_impl_Value a0 :: q1) (e_bool v)) (r : Int) (h : m_slices_IndexFunc_Limpl_Value_impl_Value a0 p1 = some r) : Ret Try.prog f_slices_IndexFunc_Limpl_Value_impl_Value [e_Limpl_Value a0, .clo f1 q1] (e_int r) := by
  refine Does.goG [] F_slices_IndexFunc_Limpl_Value_impl_Value rfl e_slices_IndexFunc_Limpl_Value_impl_Value n_slices_IndexFunc_Limpl_Value_impl_Value rfl (rvs := [.tmp 4]) rfl rfl ?_
  intro w0 ok0 lent ρ0
  refine LWP.seq_k fun N1 hN1 => ?_
  refine LWP.region (l := [_]) ?_
  refine LWo.assign (e_int (0 : Int)) rfl (hn := ?_)
  refine LWo.nil (hN1 _ ?_)
  refine LWP.join (α := Unit) (fun z : Unit => []) (fun z : Unit => []) (fun z : Unit => m_slices_IndexFunc_Limpl_Value_impl_Value_j1 p1 ) r (fun _ => by simp [hkeys]) ?_ ?_
  ·rintro _ h
   replace h : m_slices_IndexFunc_Limpl_Value_impl_Value_j1 p1  = some _ := h
   refine LWP.seq_k fun N17 hN17 => ?_
   refine LWP.region (l := [_]) ?_
   refine LWo.assign (e_int (-1 : Int)) rfl (hn := ?_)
   refine LWo.nil (hN17 _ ?_)
   obtain rfl := Option.some.inj h
   refine LWP.ret (QG.mk (.inr rfl) (.cons (.tmp (x := (e_int (-1 : Int))) rfl) (.nil)) (RetOK.one0 (.pure rfl) (by decide)) rfl rfl)
  ·intro N2 hN2
   refine LWP.seq_k fun N3 hN3 => ?_
   refine LWP.region (l := [_,_,_]) ?_
   refine LWo.move (e_Limpl_Value a0) rfl (hn := ?_)
   refine LWo.lenM (f := e_impl_Value) (l := a0) u_Limpl_Value rfl (hn := ?_)
   refine LWo.move (e_int (0 : Int)) rfl (hn := ?_)
   refine LWo.nil (hN3 _ ?_)
   refine LWP.block ?_
   refine LWP.loopM (α := (List S_impl_Value) × Int × Int) (fun z : (List S_impl_Value) × Int × Int => [(0, (e_Limpl_Value z.1)), (1, (.clo f1 q1)), (7, (e_int z.2.1)), (8, (e_int z.2.2))]) (fun z : (List S_impl_Value) × Int × Int => []) (fun n1 (z : (List S_impl_Value) × Int × Int) => m_slices_IndexFunc_Limpl_Value_impl_Value_l1 p1 n1 z.1 z.2.1 z.2.2) r _ (a0, (a0.length : Int), (0 : Int)) h (fun _ => rfl) (fun _ => by simp [hkeys]) ⟨rfl, rfl, rfl, rfl, trivial⟩ trivial ?_
   rintro n1 ⟨t0, t7, t8⟩ h N4 hN4
   replace h : m_slices_IndexFunc_Limpl_Value_impl_Value_l1 p1 (n1 + 1) t0 t7 t8 = some _ := h
   refine LWP.seq_k fun N6 hN6 => ?_
   refine LWP.region (l := [_]) ?_
   refine LWo.int _ rfl rfl rfl (hn := ?_)
   refine LWo.nil (hN6 _ ?_)
   refine LWP.seq_k fun N7 hN7 => ?_
   refine LWP.cond_split rfl (fun h8 => ?_) (fun h8 => ?_)
   ·have h := bT h8 h
    refine LWP.skip (hN7 _ ?_)
    refine LWP.seq_k fun N9 hN9 => ?_
    refine LWP.block ?_
    refine LWP.seq_k fun N10 hN10 => ?_
    refine LWP.region (l := [_,_]) ?_
    refine LWo.move (e_int t8) rfl (hn := ?_)
    refine LWo.assign (e_int t8) rfl (hn := ?_)
    refine LWo.nil (hN10 _ ?_)
    refine LWP.seq_k fun N11 hN11 => ?_
    refine LWP.region (l := [_,_,_,_,_,_]) ?_
    refine LWo.move (.clo f1 q1) rfl (hn := ?_)
    refine LWo.move (e_Limpl_Value t0) rfl (hn := ?_)
    refine LWo.move (e_int t8) rfl (hn := ?_)
    refine bk h fun x12 e12 h => ?_
    refine LWo.indexM (f := e_impl_Value) e12 u_Limpl_Value s_impl_Value rfl rfl (hn := ?_)
    refine LWo.loadN ((e_impl_Value x12)).cells g_impl_Value s_impl_Value rfl (Nat.le_of_ble_eq_true rfl) rfl (hn := ?_)
    refine bk h fun x13 e13 h => ?_
    refine LWo.vcall rfl rfl (hf1 _ _ e13) .refl (hn := ?_)
    refine LWo.nil (hN11 _ ?_)
    refine LWP.cond_split rfl (fun h14 => ?_) (fun h14 => ?_)
    ·have h := bT h14 h
     refine LWP.seq_k fun N15 hN15 => ?_
     refine LWP.region (l := [_,_]) ?_
     refine LWo.move (e_int t8) rfl (hn := ?_)
     refine LWo.assign (e_int t8) rfl (hn := ?_)
     refine LWo.nil (hN15 _ ?_)
     obtain rfl := Option.some.inj h
     refine LWP.ret (QG.mk (.inr rfl) (.cons (.tmp (x := (e_int t8)) rfl) (.nil)) (RetOK.one0 (.pure rfl) (by decide)) rfl rfl)
    ·have h := bF h14 h
     refine LWP.skip (hN9 _ ?_)
     refine LWP.region (l := [_,_]) ?_
     refine bk h fun x16 e16 h => ?_
     refine LWo.int _ rfl rfl (add_ck e16) (hn := ?_)
     refine LWo.move (e_int x16) rfl (hn := ?_)
     refine LWo.nil (hN4 (t0, t7, x16) _ ⟨rfl, rfl, rfl, rfl, trivial⟩ trivial h)
   ·have h := bF h8 h
    refine LWP.exit (hN2 () _ trivial trivial h)

def m_slices_ContainsFunc_Limpl_Value_impl_Value (a0 : (List S_impl_Value)) (p1 : S_impl_Value → Option Bool) : Option Bool :=
  (m_slices_IndexFunc_Limpl_Value_impl_Value a0 p1).bind fun x3 =>
  some (decide (x3 ≥ (0 : Int)))
theorem c_slices_ContainsFunc_Limpl_Value_impl_Value (a0 : (List S_impl_Value)) (p1 : S_impl_Value → Option Bool) (f1 : FuncId) (q1 : List LV) (hq1 : ∀ k, LV.at?.atL k q1 = false) (hf1 : ∀ a0 v, p1 a0 = some v → Ret Try.prog f1 (e_impl_Value a0 :: q1) (e_bool v)) (r : Bool) (h : m_slices_ContainsFunc_Limpl_Value_impl_Value a0 p1 = some r) : Ret Try.prog f_slices_ContainsFunc_Limpl_Value_impl_Value [e_Limpl_Value a0, .clo f1 q1] (e_bool r) := by
  refine Does.goG [] F_slices_ContainsFunc_Limpl_Value_impl_Value rfl e_slices_ContainsFunc_Limpl_Value_impl_Value n_slices_ContainsFunc_Limpl_Value_impl_Value rfl (rvs := [.tmp 4]) rfl rfl ?_
  intro w0 ok0 lent ρ0
  refine LWP.seq_k fun N1 hN1 => ?_
  refine LWP.region (l := [_]) ?_
  refine LWo.assign (e_bool false) rfl (hn := ?_)
  refine LWo.nil (hN1 _ ?_)
  refine LWP.seq_k fun N2 hN2 => ?_
  refine LWP.region (l := [_,_,_,_,_]) ?_
  refine LWo.move (e_Limpl_Value a0) rfl (hn := ?_)
  refine LWo.move (.clo f1 q1) rfl (hn := ?_)
  refine bk h fun x3 e3 h => ?_
  refine LWo.vcall rfl rfl (c_slices_IndexFunc_Limpl_Value_impl_Value _ _ f1 q1 hq1 hf1 _ e3) (.same (.same (.nil))) (hn := ?_)
  refine LWo.int _ rfl rfl rfl (hn := ?_)
  refine LWo.assign (e_bool (decide (x3 ≥ (0 : Int)))) rfl (hn := ?_)
  refine LWo.nil (hN2 _ ?_)
  obtain rfl := Option.some.inj h
  refine LWP.ret (QG.mk (.inr rfl) (.cons (.tmp (x := (e_bool (decide (x3 ≥ (0 : Int))))) rfl) (.nil)) (RetOK.one0 (.pure rfl) (by decide)) rfl rfl)

def m_impl_letters_j1  : Option Bool :=
  some true
def m_impl_letters_l1 : Nat → (List UInt8) → Int → Int → Option Bool
  | 0, _, _, _ => none
  | n1 + 1, t6, t7, t8 =>
    bif decide (t8 < t7) then ((at? t6 t8).bind fun x12 =>
    (m_impl_between (x12.toNat : Int) (97 : Int) (122 : Int)).bind fun x14 =>
    bif (!x14) then (some false)
    else ((ckI (t8 + (1 : Int))).bind fun x17 =>
    (m_impl_letters_l1  n1) t6 t7 x17))
    else (m_impl_letters_j1  )
def m_impl_letters (a0 : ByteArray) : Option Bool :=
  (sBytes? a0).bind fun x4 =>
  m_impl_letters_l1  (((x4.length : Int) - (0 : Int)).toNat + 1) x4 (x4.length : Int) (0 : Int)
theorem c_impl_letters (a0 : ByteArray) (r : Bool) (h : m_impl_letters a0 = some r) : Ret Try.prog f_impl_letters [e_string a0] (e_bool r) := by
  refine Does.goG [] F_impl_letters rfl e_impl_letters n_impl_letters rfl (rvs := [.tmp 2]) rfl rfl ?_
  intro w0 ok0 lent ρ0
  refine LWP.seq_k fun N1 hN1 => ?_
  refine LWP.region (l := [_]) ?_
  refine LWo.assign (e_bool false) rfl (hn := ?_)
  refine LWo.nil (hN1 _ ?_)
  refine LWP.join (α := Unit) (fun z : Unit => []) (fun z : Unit => []) (fun z : Unit => m_impl_letters_j1  ) r (fun _ => by simp [hkeys]) ?_ ?_
  ·rintro _ h
   replace h : m_impl_letters_j1   = some _ := h
   refine LWP.seq_k fun N18 hN18 => ?_
   refine LWP.region (l := [_]) ?_
   refine LWo.assign (e_bool true) rfl (hn := ?_)
   refine LWo.nil (hN18 _ ?_)
   obtain rfl := Option.some.inj h
   refine LWP.ret (QG.mk (.inr rfl) (.cons (.tmp (x := (e_bool true)) rfl) (.nil)) (RetOK.one0 (.pure rfl) (by decide)) rfl rfl)
  ·intro N2 hN2
   refine LWP.seq_k fun N3 hN3 => ?_
   refine LWP.region (l := [_,_,_,_]) ?_
   refine LWo.move (e_string a0) rfl (hn := ?_)
   refine bk h fun x4 e4 h => ?_
   refine LWo.bytesM e4 u_string u_Luint8 u_uint8 rfl (hn := ?_)
   refine LWo.lenM (f := e_uint8) (l := x4) u_Luint8 rfl (hn := ?_)
   refine LWo.move (e_int (0 : Int)) rfl (hn := ?_)
   refine LWo.nil (hN3 _ ?_)
   refine LWP.block ?_
   refine LWP.loopM (α := (List UInt8) × Int × Int) (fun z : (List UInt8) × Int × Int => [(6, (e_Luint8 z.1)), (7, (e_int z.2.1)), (8, (e_int z.2.2))]) (fun z : (List UInt8) × Int × Int => []) (fun n1 (z : (List UInt8) × Int × Int) => m_impl_letters_l1  n1 z.1 z.2.1 z.2.2) r _ (x4, (x4.length : Int), (0 : Int)) h (fun _ => rfl) (fun _ => by simp [hkeys]) ⟨rfl, rfl, rfl, trivial⟩ trivial ?_
   rintro n1 ⟨t6, t7, t8⟩ h N5 hN5
   replace h : m_impl_letters_l1  (n1 + 1) t6 t7 t8 = some _ := h
   refine LWP.seq_k fun N7 hN7 => ?_
   refine LWP.region (l := [_]) ?_
   refine LWo.int _ rfl rfl rfl (hn := ?_)
   refine LWo.nil (hN7 _ ?_)
   refine LWP.seq_k fun N8 hN8 => ?_
   refine LWP.cond_split rfl (fun h9 => ?_) (fun h9 => ?_)
   ·have h := bT h9 h
    refine LWP.skip (hN8 _ ?_)
    refine LWP.seq_k fun N10 hN10 => ?_
    refine LWP.block ?_
    refine LWP.seq_k fun N11 hN11 => ?_
    refine LWP.region (l := [_,_,_]) ?_
    refine bk h fun x12 e12 h => ?_
    refine LWo.indexM (f := e_uint8) e12 u_Luint8 s_uint8 rfl rfl (hn := ?_)
    refine LWo.load1 (c := (e_uint8 x12)) g_uint8 rfl (hn := ?_)
    refine LWo.assign (e_uint8 x12) rfl (hn := ?_)
    refine LWo.nil (hN11 _ ?_)
    refine LWP.seq_k fun N13 hN13 => ?_
    refine LWP.region (l := [_,_,_,_]) ?_
    refine LWo.move (e_uint8 x12) rfl (hn := ?_)
    refine LWo.convByte _ u_uint8 u_int rfl (hn := ?_)
    refine bk h fun x14 e14 h => ?_
    refine LWo.vcall rfl rfl (c_impl_between _ _ _ _ e14) (.same (.same (.same (.nil)))) (hn := ?_)
    refine LWo.not rfl (hn := ?_)
    refine LWo.nil (hN13 _ ?_)
    refine LWP.cond_split rfl (fun h15 => ?_) (fun h15 => ?_)
    ·have h := bT h15 h
     refine LWP.seq_k fun N16 hN16 => ?_
     refine LWP.region (l := [_]) ?_
     refine LWo.assign (e_bool false) rfl (hn := ?_)
     refine LWo.nil (hN16 _ ?_)
     obtain rfl := Option.some.inj h
     refine LWP.ret (QG.mk (.inr rfl) (.cons (.tmp (x := (e_bool false)) rfl) (.nil)) (RetOK.one0 (.pure rfl) (by decide)) rfl rfl)
    ·have h := bF h15 h
     refine LWP.skip (hN10 _ ?_)
     refine LWP.region (l := [_,_]) ?_
     refine bk h fun x17 e17 h => ?_
     refine LWo.int _ rfl rfl (add_ck e17) (hn := ?_)
     refine LWo.move (e_int x17) rfl (hn := ?_)
     refine LWo.nil (hN5 (t6, t7, x17) _ ⟨rfl, rfl, rfl, trivial⟩ trivial h)
   ·have h := bF h9 h
    refine LWP.exit (hN2 () _ trivial trivial h)

def m_impl_Value_ok_j1 (t2 : Bool) : Option Bool :=
  some t2
def m_impl_Value_ok_j2 (t2 : Bool) : Option Bool :=
  some t2
def m_impl_Value_ok_j3 (t2 : Bool) : Option Bool :=
  some t2
def m_impl_Value_ok (a0 : S_impl_Value) : Option Bool :=
  bif (a0.Kind == (0 : Int)) then (some (decide (a0 = (⟨(0 : Int), (0 : Int), (⟨#[]⟩ : ByteArray)⟩ : S_impl_Value))))
  else (bif (a0.Kind == (1 : Int)) then (bif (sEq a0.S (⟨#[]⟩ : ByteArray)) then ((m_impl_between a0.N (-9999 : Int) (9999 : Int)).bind fun x11 =>
        m_impl_Value_ok_j1  x11)
      else (m_impl_Value_ok_j1  false))
    else (bif (a0.Kind == (2 : Int)) then (bif (a0.N == (0 : Int)) then (bif decide ((a0.S.size : Int) ≤ (6 : Int)) then ((m_impl_letters a0.S).bind fun x17 =>
            m_impl_Value_ok_j2  x17)
          else (m_impl_Value_ok_j2  false))
        else (m_impl_Value_ok_j2  false))
      else (bif (a0.Kind == (3 : Int)) then (bif (sEq a0.S (⟨#[]⟩ : ByteArray)) then ((m_impl_between a0.N (0 : Int) (1 : Int)).bind fun x22 =>
            m_impl_Value_ok_j3  x22)
          else (m_impl_Value_ok_j3  false))
        else (some false))))
theorem c_impl_Value_ok (a0 : S_impl_Value) (r : Bool) (h : m_impl_Value_ok a0 = some r) : Ret Try.prog f_impl_Value_ok [e_impl_Value a0] (e_bool r) := by
  refine Does.goG [] F_impl_Value_ok rfl e_impl_Value_ok n_impl_Value_ok rfl (rvs := [.tmp 2]) rfl rfl ?_
  intro w0 ok0 lent ρ0
  refine LWP.seq_k fun N1 hN1 => ?_
  refine LWP.region (l := [_,_]) ?_
  refine LWo.boxF (e_impl_Value a0) rfl rfl rfl (hn := ?_)
  refine LWo.assign (e_bool false) rfl (hn := ?_)
  refine LWo.nil (hN1 _ ?_)
  refine LWP.seq_k fun N2 hN2 => ?_
  refine LWP.seq_k fun N3 hN3 => ?_
  refine LWP.region (l := [_,_]) ?_
  refine LWo.fieldAddr _ u_impl_Value rfl s_int rfl rfl (hn := ?_)
  refine LWo.load1 (c := (e_int a0.Kind)) g_int rfl (hn := ?_)
  refine LWo.nil (hN3 _ ?_)
  refine LWP.block ?_
  refine LWP.seq_k fun N4 hN4 => ?_
  refine LWP.region (l := [_,_]) ?_
  refine LWo.int _ rfl rfl rfl (hn := ?_)
  refine LWo.assign (e_bool (a0.Kind == (0 : Int))) rfl (hn := ?_)
  refine LWo.nil (hN4 _ ?_)
  refine LWP.cond_split rfl (fun h5 => ?_) (fun h5 => ?_)
  ·have h := bT h5 h
   refine LWP.seq_k fun N6 hN6 => ?_
   refine LWP.region (l := [_,_,_,_]) ?_
   refine LWo.loadN ((e_impl_Value a0)).cells g_impl_Value s_impl_Value rfl (Nat.le_of_ble_eq_true rfl) rfl (hn := ?_)
   refine LWo.build_impl_Value (parts := []) (⟨(0 : Int), (0 : Int), (⟨#[]⟩ : ByteArray)⟩ : S_impl_Value) rfl rfl rfl .refl (hn := ?_)
   refine LWo.eq_impl_Value _ _ rfl rfl (hn := ?_)
   refine LWo.assign (e_bool (decide (a0 = (⟨(0 : Int), (0 : Int), (⟨#[]⟩ : ByteArray)⟩ : S_impl_Value)))) rfl (hn := ?_)
   refine LWo.nil (hN6 _ ?_)
   obtain rfl := Option.some.inj h
   refine LWP.ret (QG.mk (.inr rfl) (.cons (.tmp (x := (e_bool (decide (a0 = (⟨(0 : Int), (0 : Int), (⟨#[]⟩ : ByteArray)⟩ : S_impl_Value))))) rfl) (.nil)) (RetOK.one0 (.pure rfl) (by decide)) rfl rfl)
  ·have h := bF h5 h
   refine LWP.seq_k fun N7 hN7 => ?_
   refine LWP.region (l := [_,_]) ?_
   refine LWo.int _ rfl rfl rfl (hn := ?_)
   refine LWo.assign (e_bool (a0.Kind == (1 : Int))) rfl (hn := ?_)
   refine LWo.nil (hN7 _ ?_)
   refine LWP.cond_split rfl (fun h8 => ?_) (fun h8 => ?_)
   ·have h := bT h8 h
    refine LWP.join (α := Bool) (fun z : Bool => [(2, (e_bool z))]) (fun z : Bool => []) (fun z : Bool => m_impl_Value_ok_j1  z) r (fun _ => by simp [hkeys]) ?_ ?_
    ·rintro t2 h
     replace h : m_impl_Value_ok_j1  t2 = some _ := h
     obtain rfl := Option.some.inj h
     refine LWP.ret (QG.mk (.inr rfl) (.cons (.tmp (x := (e_bool t2)) rfl) (.nil)) (RetOK.one0 (.pure rfl) (by decide)) rfl rfl)
    ·intro N9 hN9
     refine LWP.region (l := [_,_,_,_,_,_,_,_,_]) ?_
     refine LWo.fieldAddr _ u_impl_Value rfl s_string rfl rfl (hn := ?_)
     refine LWo.load1 (c := (e_string a0.S)) g_string rfl (hn := ?_)
     refine LWo.str _ rfl rfl rfl (hn := ?_)
     refine LWo.move (e_bool (sEq a0.S (⟨#[]⟩ : ByteArray))) rfl (hn := ?_)
     refine LWo.byCases (t := 15) _ rfl (fun h10 => ?_) (fun h10 => ?_)
     ·have h := bT h10 h
      refine LWo.guardY (t := 15) rfl h10 rfl rfl ?_
      refine LWo.fieldAddr _ u_impl_Value rfl s_int rfl rfl (hn := ?_)
      refine LWo.guardY (t := 15) rfl h10 rfl rfl ?_
      refine LWo.load1 (c := (e_int a0.N)) g_int rfl (hn := ?_)
      refine bk h fun x11 e11 h => ?_
      refine LWo.guardY (t := 15) rfl h10 rfl rfl ?_
      refine LWo.vcall rfl rfl (c_impl_between _ _ _ _ e11) (.same (.same (.same (.nil)))) (hn := ?_)
      refine LWo.pickTM (e_bool x11) rfl h10 rfl (hn := ?_)
      refine LWo.assign (e_bool x11) rfl (hn := ?_)
      refine LWo.nil (hN9 x11 _ ⟨rfl, trivial⟩ trivial h)
     ·have h := bF h10 h
      refine LWo.guardNU (t := 15) rfl h10 rfl rfl rfl rfl rfl ?_
      refine LWo.guardNU (t := 15) rfl h10 rfl rfl rfl rfl rfl ?_
      refine LWo.guardNU (t := 15) rfl h10 rfl rfl rfl rfl rfl ?_
      refine LWo.pickFM (e_bool false) rfl h10 rfl (hn := ?_)
      refine LWo.assign (e_bool false) rfl (hn := ?_)
      refine LWo.nil (hN9 false _ ⟨rfl, trivial⟩ trivial h)
   ·have h := bF h8 h
    refine LWP.seq_k fun N12 hN12 => ?_
    refine LWP.region (l := [_,_]) ?_
    refine LWo.int _ rfl rfl rfl (hn := ?_)
    refine LWo.assign (e_bool (a0.Kind == (2 : Int))) rfl (hn := ?_)
    refine LWo.nil (hN12 _ ?_)
    refine LWP.cond_split rfl (fun h13 => ?_) (fun h13 => ?_)
    ·have h := bT h13 h
     refine LWP.join (α := Bool) (fun z : Bool => [(2, (e_bool z))]) (fun z : Bool => []) (fun z : Bool => m_impl_Value_ok_j2  z) r (fun _ => by simp [hkeys]) ?_ ?_
     ·rintro t2 h
      replace h : m_impl_Value_ok_j2  t2 = some _ := h
      obtain rfl := Option.some.inj h
      refine LWP.ret (QG.mk (.inr rfl) (.cons (.tmp (x := (e_bool t2)) rfl) (.nil)) (RetOK.one0 (.pure rfl) (by decide)) rfl rfl)
     ·intro N14 hN14
      refine LWP.region (l := [_,_,_,_,_,_,_,_,_,_,_,_,_,_,_]) ?_
      refine LWo.fieldAddr _ u_impl_Value rfl s_int rfl rfl (hn := ?_)
      refine LWo.load1 (c := (e_int a0.N)) g_int rfl (hn := ?_)
      refine LWo.int _ rfl rfl rfl (hn := ?_)
      refine LWo.move (e_bool (a0.N == (0 : Int))) rfl (hn := ?_)
      refine LWo.byCases (t := 25) _ rfl (fun h15 => ?_) (fun h15 => ?_)
      ·have h := bT h15 h
       refine LWo.guardY (t := 25) rfl h15 rfl rfl ?_
       refine LWo.fieldAddr _ u_impl_Value rfl s_string rfl rfl (hn := ?_)
       refine LWo.guardY (t := 25) rfl h15 rfl rfl ?_
       refine LWo.load1 (c := (e_string a0.S)) g_string rfl (hn := ?_)
       refine LWo.guardY (t := 25) rfl h15 rfl rfl ?_
       refine LWo.lenS u_string rfl (hn := ?_)
       refine LWo.guardY (t := 25) rfl h15 rfl rfl ?_
       refine LWo.int _ rfl rfl rfl (hn := ?_)
       refine LWo.pickTM (e_bool (decide ((a0.S.size : Int) ≤ (6 : Int)))) rfl h15 rfl (hn := ?_)
       refine LWo.move (e_bool (decide ((a0.S.size : Int) ≤ (6 : Int)))) rfl (hn := ?_)
       refine LWo.byCases (t := 31) _ rfl (fun h16 => ?_) (fun h16 => ?_)
       ·have h := bT h16 h
        refine LWo.guardY (t := 31) rfl h16 rfl rfl ?_
        refine LWo.fieldAddr _ u_impl_Value rfl s_string rfl rfl (hn := ?_)
        refine LWo.guardY (t := 31) rfl h16 rfl rfl ?_
        refine LWo.load1 (c := (e_string a0.S)) g_string rfl (hn := ?_)
        refine bk h fun x17 e17 h => ?_
        refine LWo.guardY (t := 31) rfl h16 rfl rfl ?_
        refine LWo.vcall rfl rfl (c_impl_letters _ _ e17) (.same (.nil)) (hn := ?_)
        refine LWo.pickTM (e_bool x17) rfl h16 rfl (hn := ?_)
        refine LWo.assign (e_bool x17) rfl (hn := ?_)
        refine LWo.nil (hN14 x17 _ ⟨rfl, trivial⟩ trivial h)
       ·have h := bF h16 h
        refine LWo.guardNU (t := 31) rfl h16 rfl rfl rfl rfl rfl ?_
        refine LWo.guardNU (t := 31) rfl h16 rfl rfl rfl rfl rfl ?_
        refine LWo.guardNU (t := 31) rfl h16 rfl rfl rfl rfl rfl ?_
        refine LWo.pickFM (e_bool false) rfl h16 rfl (hn := ?_)
        refine LWo.assign (e_bool false) rfl (hn := ?_)
        refine LWo.nil (hN14 false _ ⟨rfl, trivial⟩ trivial h)
      ·have h := bF h15 h
       refine LWo.guardNU (t := 25) rfl h15 rfl rfl rfl rfl rfl ?_
       refine LWo.guardNU (t := 25) rfl h15 rfl rfl rfl rfl rfl ?_
       refine LWo.guardNU (t := 25) rfl h15 rfl rfl rfl rfl rfl ?_
       refine LWo.guardNU (t := 25) rfl h15 rfl rfl rfl rfl rfl ?_
       refine LWo.pickFM (e_bool false) rfl h15 rfl (hn := ?_)
       refine LWo.move (e_bool false) rfl (hn := ?_)
       refine LWo.guardNU (t := 31) rfl rfl rfl rfl rfl rfl rfl ?_
       refine LWo.guardNU (t := 31) rfl rfl rfl rfl rfl rfl rfl ?_
       refine LWo.guardNU (t := 31) rfl rfl rfl rfl rfl rfl rfl ?_
       refine LWo.pickFM (e_bool false) rfl rfl rfl (hn := ?_)
       refine LWo.assign (e_bool false) rfl (hn := ?_)
       refine LWo.nil (hN14 false _ ⟨rfl, trivial⟩ trivial h)
    ·have h := bF h13 h
     refine LWP.seq_k fun N18 hN18 => ?_
     refine LWP.region (l := [_,_]) ?_
     refine LWo.int _ rfl rfl rfl (hn := ?_)
     refine LWo.assign (e_bool (a0.Kind == (3 : Int))) rfl (hn := ?_)
     refine LWo.nil (hN18 _ ?_)
     refine LWP.cond_split rfl (fun h19 => ?_) (fun h19 => ?_)
     ·have h := bT h19 h
      refine LWP.join (α := Bool) (fun z : Bool => [(2, (e_bool z))]) (fun z : Bool => []) (fun z : Bool => m_impl_Value_ok_j3  z) r (fun _ => by simp [hkeys]) ?_ ?_
      ·rintro t2 h
       replace h : m_impl_Value_ok_j3  t2 = some _ := h
       obtain rfl := Option.some.inj h
       refine LWP.ret (QG.mk (.inr rfl) (.cons (.tmp (x := (e_bool t2)) rfl) (.nil)) (RetOK.one0 (.pure rfl) (by decide)) rfl rfl)
      ·intro N20 hN20
       refine LWP.region (l := [_,_,_,_,_,_,_,_,_]) ?_
       refine LWo.fieldAddr _ u_impl_Value rfl s_string rfl rfl (hn := ?_)
       refine LWo.load1 (c := (e_string a0.S)) g_string rfl (hn := ?_)
       refine LWo.str _ rfl rfl rfl (hn := ?_)
       refine LWo.move (e_bool (sEq a0.S (⟨#[]⟩ : ByteArray))) rfl (hn := ?_)
       refine LWo.byCases (t := 41) _ rfl (fun h21 => ?_) (fun h21 => ?_)
       ·have h := bT h21 h
        refine LWo.guardY (t := 41) rfl h21 rfl rfl ?_
        refine LWo.fieldAddr _ u_impl_Value rfl s_int rfl rfl (hn := ?_)
        refine LWo.guardY (t := 41) rfl h21 rfl rfl ?_
        refine LWo.load1 (c := (e_int a0.N)) g_int rfl (hn := ?_)
        refine bk h fun x22 e22 h => ?_
        refine LWo.guardY (t := 41) rfl h21 rfl rfl ?_
        refine LWo.vcall rfl rfl (c_impl_between _ _ _ _ e22) (.same (.same (.same (.nil)))) (hn := ?_)
        refine LWo.pickTM (e_bool x22) rfl h21 rfl (hn := ?_)
        refine LWo.assign (e_bool x22) rfl (hn := ?_)
        refine LWo.nil (hN20 x22 _ ⟨rfl, trivial⟩ trivial h)
       ·have h := bF h21 h
        refine LWo.guardNU (t := 41) rfl h21 rfl rfl rfl rfl rfl ?_
        refine LWo.guardNU (t := 41) rfl h21 rfl rfl rfl rfl rfl ?_
        refine LWo.guardNU (t := 41) rfl h21 rfl rfl rfl rfl rfl ?_
        refine LWo.pickFM (e_bool false) rfl h21 rfl (hn := ?_)
        refine LWo.assign (e_bool false) rfl (hn := ?_)
        refine LWo.nil (hN20 false _ ⟨rfl, trivial⟩ trivial h)
     ·have h := bF h19 h
      refine LWP.skip (hN2 _ ?_)
      refine LWP.seq_k fun N23 hN23 => ?_
      refine LWP.region (l := [_]) ?_
      refine LWo.assign (e_bool false) rfl (hn := ?_)
      refine LWo.nil (hN23 _ ?_)
      obtain rfl := Option.some.inj h
      refine LWP.ret (QG.mk (.inr rfl) (.cons (.tmp (x := (e_bool false)) rfl) (.nil)) (RetOK.one0 (.pure rfl) (by decide)) rfl rfl)

def m_impl_RowOk_1 (a0 : S_impl_Value) : Option Bool :=
  (m_impl_Value_ok a0).bind fun x3 =>
  some (!x3)
theorem c_impl_RowOk_1 (a0 : S_impl_Value) (r : Bool) (h : m_impl_RowOk_1 a0 = some r) : Ret Try.prog f_impl_RowOk_1 [e_impl_Value a0] (e_bool r) := by
  refine Does.goG [] F_impl_RowOk_1 rfl e_impl_RowOk_1 n_impl_RowOk_1 rfl (rvs := [.tmp 2]) rfl rfl ?_
  intro w0 ok0 lent ρ0
  refine LWP.seq_k fun N1 hN1 => ?_
  refine LWP.region (l := [_,_]) ?_
  refine LWo.boxF (e_impl_Value a0) rfl rfl rfl (hn := ?_)
  refine LWo.assign (e_bool false) rfl (hn := ?_)
  refine LWo.nil (hN1 _ ?_)
  refine LWP.seq_k fun N2 hN2 => ?_
  refine LWP.region (l := [_,_,_,_]) ?_
  refine LWo.loadN ((e_impl_Value a0)).cells g_impl_Value s_impl_Value rfl (Nat.le_of_ble_eq_true rfl) rfl (hn := ?_)
  refine bk h fun x3 e3 h => ?_
  refine LWo.vcall rfl rfl (c_impl_Value_ok _ _ e3) (.same (.nil)) (hn := ?_)
  refine LWo.not rfl (hn := ?_)
  refine LWo.assign (e_bool (!x3)) rfl (hn := ?_)
  refine LWo.nil (hN2 _ ?_)
  obtain rfl := Option.some.inj h
  refine LWP.ret (QG.mk (.inr rfl) (.cons (.tmp (x := (e_bool (!x3))) rfl) (.nil)) (RetOK.one0 (.pure rfl) (by decide)) rfl rfl)

def m_impl_RowOk_j1 (t2 : Bool) : Option Bool :=
  some t2
def m_impl_RowOk (a0 : (List S_impl_Value)) : Option Bool :=
  bif decide ((a0.length : Int) ≤ (4 : Int)) then ((m_slices_ContainsFunc_Limpl_Value_impl_Value a0 (fun b0_ => m_impl_RowOk_1 b0_ )).bind fun x4 =>
    m_impl_RowOk_j1  (!x4))
  else (m_impl_RowOk_j1  false)
theorem c_impl_RowOk (a0 : (List S_impl_Value)) (r : Bool) (h : m_impl_RowOk a0 = some r) : Ret Try.prog f_impl_RowOk [e_Limpl_Value a0] (e_bool r) := by
  refine Does.goG [] F_impl_RowOk rfl e_impl_RowOk n_impl_RowOk rfl (rvs := [.tmp 2]) rfl rfl ?_
  intro w0 ok0 lent ρ0
  refine LWP.seq_k fun N1 hN1 => ?_
  refine LWP.region (l := [_]) ?_
  refine LWo.assign (e_bool false) rfl (hn := ?_)
  refine LWo.nil (hN1 _ ?_)
  refine LWP.join (α := Bool) (fun z : Bool => [(2, (e_bool z))]) (fun z : Bool => []) (fun z : Bool => m_impl_RowOk_j1  z) r (fun _ => by simp [hkeys]) ?_ ?_
  ·rintro t2 h
   replace h : m_impl_RowOk_j1  t2 = some _ := h
   obtain rfl := Option.some.inj h
   refine LWP.ret (QG.mk (.inr rfl) (.cons (.tmp (x := (e_bool t2)) rfl) (.nil)) (RetOK.one0 (.pure rfl) (by decide)) rfl rfl)
  ·intro N2 hN2
   refine LWP.region (l := [_,_,_,_,_,_,_,_,_]) ?_
   refine LWo.move (e_Limpl_Value a0) rfl (hn := ?_)
   refine LWo.lenM (f := e_impl_Value) (l := a0) u_Limpl_Value rfl (hn := ?_)
   refine LWo.int _ rfl rfl rfl (hn := ?_)
   refine LWo.move (e_bool (decide ((a0.length : Int) ≤ (4 : Int)))) rfl (hn := ?_)
   refine LWo.byCases (t := 6) _ rfl (fun h3 => ?_) (fun h3 => ?_)
   ·have h := bT h3 h
    refine LWo.guardY (t := 6) rfl h3 rfl rfl ?_
    refine LWo.move (e_Limpl_Value a0) rfl (hn := ?_)
    refine bk h fun x4 e4 h => ?_
    refine LWo.guardY (t := 6) rfl h3 rfl rfl ?_
    refine LWo.vcall rfl rfl (c_slices_ContainsFunc_Limpl_Value_impl_Value _ _ f_impl_RowOk_1 [] (fun _ => rfl) (fun b0_ v hv => c_impl_RowOk_1 b0_  v hv) _ e4) (.same (.same (.nil))) (hn := ?_)
    refine LWo.guardY (t := 6) rfl h3 rfl rfl ?_
    refine LWo.not rfl (hn := ?_)
    refine LWo.pickTM (e_bool (!x4)) rfl h3 rfl (hn := ?_)
    refine LWo.assign (e_bool (!x4)) rfl (hn := ?_)
    refine LWo.nil (hN2 (!x4) _ ⟨rfl, trivial⟩ trivial h)
   ·have h := bF h3 h
    refine LWo.guardNU (t := 6) rfl h3 rfl rfl rfl rfl rfl ?_
    refine LWo.guardNU (t := 6) rfl h3 rfl rfl rfl rfl rfl ?_
    refine LWo.guardNU (t := 6) rfl h3 rfl rfl rfl rfl rfl ?_
    refine LWo.pickFM (e_bool false) rfl h3 rfl (hn := ?_)
    refine LWo.assign (e_bool false) rfl (hn := ?_)
    refine LWo.nil (hN2 false _ ⟨rfl, trivial⟩ trivial h)

def m_impl_RowFits_j3  : Option Bool :=
  some true
def m_impl_RowFits_j2 (k1 : (List S_impl_Column) → (List S_impl_Value) → Int → Int → Option Bool) (t0 : (List S_impl_Column)) (t22 : (List S_impl_Value)) (t23 : Int) (t24 : Int) (t49 : Bool) : Option Bool :=
  bif t49 then (some false)
  else ((ckI (t24 + (1 : Int))).bind fun x28 =>
  k1 t0 t22 t23 x28)
def m_impl_RowFits_l1 : Nat → (List S_impl_Column) → (List S_impl_Value) → Int → Int → Option Bool
  | 0, _, _, _, _ => none
  | n1 + 1, t0, t22, t23, t24 =>
    bif decide (t24 < t23) then ((at? t22 t24).bind fun x19 =>
    lt (x19) fun y20 =>
    (at? t0 t24).bind fun x22 =>
    bif (y20.Kind != x22.Kind) then (bif (y20.Kind != (0 : Int)) then (m_impl_RowFits_j2  (m_impl_RowFits_l1  n1) t0 t22 t23 t24 true)
      else ((at? t0 t24).bind fun x25 =>
        m_impl_RowFits_j2  (m_impl_RowFits_l1  n1) t0 t22 t23 t24 (!x25.Empty)))
    else (m_impl_RowFits_j2  (m_impl_RowFits_l1  n1) t0 t22 t23 t24 false))
    else (m_impl_RowFits_j3  )
def m_impl_RowFits_j1 (t0 : (List S_impl_Column)) (t1 : (List S_impl_Value)) (t21 : Bool) : Option Bool :=
  bif t21 then (some false)
  else (m_impl_RowFits_l1  (((t1.length : Int) - (0 : Int)).toNat + 1) t0 t1 (t1.length : Int) (0 : Int))
def m_impl_RowFits (a0 : (List S_impl_Column)) (a1 : (List S_impl_Value)) : Option Bool :=
  (m_impl_ColumnsOk a0).bind fun x4 =>
  bif (!x4) then (m_impl_RowFits_j1  a0 a1 true)
  else ((m_impl_RowOk a1).bind fun x6 =>
    bif (!x6) then (m_impl_RowFits_j1  a0 a1 true)
    else (m_impl_RowFits_j1  a0 a1 ((a1.length : Int) != (a0.length : Int))))
theorem c_impl_RowFits (a0 : (List S_impl_Column)) (a1 : (List S_impl_Value)) (r : Bool) (h : m_impl_RowFits a0 a1 = some r) : Ret Try.prog f_impl_RowFits [e_Limpl_Column a0, e_Limpl_Value a1] (e_bool r) := by
  refine Does.goG [] F_impl_RowFits rfl e_impl_RowFits n_impl_RowFits rfl (rvs := [.tmp 4]) rfl rfl ?_
  intro w0 ok0 lent ρ0
  refine LWP.seq_k fun N1 hN1 => ?_
  refine LWP.region (l := [_]) ?_
  refine LWo.assign (e_bool false) rfl (hn := ?_)
  refine LWo.nil (hN1 _ ?_)
  refine LWP.seq_k fun N2 hN2 => ?_
  refine LWP.join (α := (List S_impl_Column) × (List S_impl_Value) × Bool) (fun z : (List S_impl_Column) × (List S_impl_Value) × Bool => [(0, (e_Limpl_Column z.1)), (1, (e_Limpl_Value z.2.1)), (21, (e_bool z.2.2))]) (fun z : (List S_impl_Column) × (List S_impl_Value) × Bool => []) (fun z : (List S_impl_Column) × (List S_impl_Value) × Bool => m_impl_RowFits_j1  z.1 z.2.1 z.2.2) r (fun _ => by simp [hkeys]) ?_ ?_
  ·rintro ⟨t0, t1, t21⟩ h
   replace h : m_impl_RowFits_j1  t0 t1 t21 = some _ := h
   refine LWP.cond_split rfl (fun h8 => ?_) (fun h8 => ?_)
   ·have h := bT h8 h
    refine LWP.seq_k fun N9 hN9 => ?_
    refine LWP.region (l := [_]) ?_
    refine LWo.assign (e_bool false) rfl (hn := ?_)
    refine LWo.nil (hN9 _ ?_)
    obtain rfl := Option.some.inj h
    refine LWP.ret (QG.mk (.inr rfl) (.cons (.tmp (x := (e_bool false)) rfl) (.nil)) (RetOK.one0 (.pure rfl) (by decide)) rfl rfl)
   ·have h := bF h8 h
    refine LWP.skip (hN2 _ ?_)
    refine LWP.join (α := Unit) (fun z : Unit => []) (fun z : Unit => []) (fun z : Unit => m_impl_RowFits_j3  ) r (fun _ => by simp [hkeys]) ?_ ?_
    ·rintro _ h
     replace h : m_impl_RowFits_j3   = some _ := h
     refine LWP.seq_k fun N29 hN29 => ?_
     refine LWP.region (l := [_]) ?_
     refine LWo.assign (e_bool true) rfl (hn := ?_)
     refine LWo.nil (hN29 _ ?_)
     obtain rfl := Option.some.inj h
     refine LWP.ret (QG.mk (.inr rfl) (.cons (.tmp (x := (e_bool true)) rfl) (.nil)) (RetOK.one0 (.pure rfl) (by decide)) rfl rfl)
    ·intro N10 hN10
     refine LWP.seq_k fun N11 hN11 => ?_
     refine LWP.region (l := [_,_,_]) ?_
     refine LWo.move (e_Limpl_Value t1) rfl (hn := ?_)
     refine LWo.lenM (f := e_impl_Value) (l := t1) u_Limpl_Value rfl (hn := ?_)
     refine LWo.move (e_int (0 : Int)) rfl (hn := ?_)
     refine LWo.nil (hN11 _ ?_)
     refine LWP.block ?_
     refine LWP.loopM (α := (List S_impl_Column) × (List S_impl_Value) × Int × Int) (fun z : (List S_impl_Column) × (List S_impl_Value) × Int × Int => [(0, (e_Limpl_Column z.1)), (22, (e_Limpl_Value z.2.1)), (23, (e_int z.2.2.1)), (24, (e_int z.2.2.2))]) (fun z : (List S_impl_Column) × (List S_impl_Value) × Int × Int => []) (fun n1 (z : (List S_impl_Column) × (List S_impl_Value) × Int × Int) => m_impl_RowFits_l1  n1 z.1 z.2.1 z.2.2.1 z.2.2.2) r _ (t0, t1, (t1.length : Int), (0 : Int)) h (fun _ => rfl) (fun _ => by simp [hkeys]) ⟨rfl, rfl, rfl, rfl, trivial⟩ trivial ?_
     rintro n1 ⟨t0, t22, t23, t24⟩ h N12 hN12
     replace h : m_impl_RowFits_l1  (n1 + 1) t0 t22 t23 t24 = some _ := h
     refine LWP.seq_k fun N14 hN14 => ?_
     refine LWP.region (l := [_]) ?_
     refine LWo.int _ rfl rfl rfl (hn := ?_)
     refine LWo.nil (hN14 _ ?_)
     refine LWP.seq_k fun N15 hN15 => ?_
     refine LWP.cond_split rfl (fun h16 => ?_) (fun h16 => ?_)
     ·have h := bT h16 h
      refine LWP.skip (hN15 _ ?_)
      refine LWP.seq_k fun N17 hN17 => ?_
      refine LWP.block ?_
      refine LWP.seq_k fun N18 hN18 => ?_
      refine LWP.region (l := [_,_,_,_,_,_]) ?_
      refine LWo.move (e_int t24) rfl (hn := ?_)
      refine bk h fun x19 e19 h => ?_
      refine LWo.indexM (f := e_impl_Value) e19 u_Limpl_Value s_impl_Value rfl rfl (hn := ?_)
      refine LWo.loadN ((e_impl_Value x19)).cells g_impl_Value s_impl_Value rfl (Nat.le_of_ble_eq_true rfl) rfl (hn := ?_)
      refine LWo.alloc_impl_Value 6 rfl (hn := ?_)
      refine LWo.assign (e_int t24) rfl (hn := ?_)
      refine lk h fun y20 e20 h => ?_
      refine LWo.storeW (y := (⟨(0 : Int), (0 : Int), (⟨#[]⟩ : ByteArray)⟩ : S_impl_Value)) y20 s_impl_Value rfl rfl rfl rfl rfl rfl (by rw [e20]; exact .refl) rfl (hn := ?_)
      refine LWo.nil (hN18 _ ?_)
      refine LWP.join (α := (List S_impl_Column) × (List S_impl_Value) × Int × Int × Bool) (fun z : (List S_impl_Column) × (List S_impl_Value) × Int × Int × Bool => [(0, (e_Limpl_Column z.1)), (22, (e_Limpl_Value z.2.1)), (23, (e_int z.2.2.1)), (24, (e_int z.2.2.2.1)), (49, (e_bool z.2.2.2.2))]) (fun z : (List S_impl_Column) × (List S_impl_Value) × Int × Int × Bool => []) (fun z : (List S_impl_Column) × (List S_impl_Value) × Int × Int × Bool => m_impl_RowFits_j2  (m_impl_RowFits_l1  n1) z.1 z.2.1 z.2.2.1 z.2.2.2.1 z.2.2.2.2) r (fun _ => by simp [hkeys]) ?_ ?_
      ·rintro ⟨t0, t22, t23, t24, t49⟩ h
       replace h : m_impl_RowFits_j2  (m_impl_RowFits_l1  n1) t0 t22 t23 t24 t49 = some _ := h
       refine LWP.cond_split rfl (fun h26 => ?_) (fun h26 => ?_)
       ·have h := bT h26 h
        refine LWP.seq_k fun N27 hN27 => ?_
        refine LWP.region (l := [_]) ?_
        refine LWo.assign (e_bool false) rfl (hn := ?_)
        refine LWo.nil (hN27 _ ?_)
        obtain rfl := Option.some.inj h
        refine LWP.ret (QG.mk (.inr rfl) (.cons (.tmp (x := (e_bool false)) rfl) (.nil)) (RetOK.one0 (.pure rfl) (by decide)) rfl rfl)
       ·have h := bF h26 h
        refine LWP.skip (hN17 _ ?_)
        refine LWP.region (l := [_,_]) ?_
        refine bk h fun x28 e28 h => ?_
        refine LWo.int _ rfl rfl (add_ck e28) (hn := ?_)
        refine LWo.move (e_int x28) rfl (hn := ?_)
        refine LWo.nil (hN12 (t0, t22, t23, x28) _ ⟨rfl, rfl, rfl, rfl, trivial⟩ trivial h)
      ·intro N21 hN21
       refine bk h fun x22 e22 h => ?_
       refine bS ((y20.Kind != x22.Kind)) (fun h23 => ?_) (fun h23 => ?_)
       ·have h := bT h23 h
        refine bS ((y20.Kind != (0 : Int))) (fun h24 => ?_) (fun h24 => ?_)
        ·have h := bT h24 h
         refine LWP.drawF (l := [_,_,_,_,_,_,_,_,_,_,_,_,_,_,_,_,_,_,_,_,_]) [] [0, 5, 6, 22, 23, 24] [([6], []), ([29], [6]), ([0], []), ([5], []), ([31, 32], []), ([33], []), ([34], []), ([30, 35], []), ([36], []), ([6, 37], []), ([37, 38], [6]), ([37, 39], []), ([37, 40], []), ([0, 41], []), ([5, 41], []), ([41, 42, 43], []), ([41, 44], []), ([41, 45], []), ([41, 46], []), ([37, 41, 47], []), ([37, 48], [])] [0, 22, 23, 24, 49] [] mixed (by kernel_rfl) rfl (by decide) ?_
         refine dq 29 rfl (fun _ g u h => LWo.fieldPtr u_impl_Value rfl s_int u.1 rfl (hn := .nil (zn g))) ?_
         refine dq 30 rfl (fun _ g u h => LWo.loadV1 (e_int y20.Kind)  g_int u.1 h.1 rfl (hn := .nil (zn g))) ?_
         refine dq 31 rfl (fun _ g u h => LWo.move (e_Limpl_Column t0) u.1 (hn := .nil (zn g))) ?_
         refine dq 32 rfl (fun _ g u h => LWo.move (e_int t24) u.1 (hn := .nil (zn g))) ?_
         refine dq 33 rfl (fun _ g u h => LWo.indexM (f := e_impl_Column) e22 u_Limpl_Column s_impl_Column u.1 u.2.1 (hn := .nil (zn g))) ?_
         refine dq 34 rfl (fun _ g u h => LWo.fieldAddr _ u_impl_Column rfl s_int u.1 rfl (hn := .nil (zn g))) ?_
         refine dq 35 rfl (fun _ g u h => LWo.load1 (c := (e_int x22.Kind)) g_int u.1 (hn := .nil (zn g))) ?_
         refine dq 36 rfl (fun _ g u h => LWo.int _ u.1 u.2.1 rfl (hn := .nil (zn g))) ?_
         refine dq 37 rfl (fun _ g u h => LWo.move (e_bool (y20.Kind != x22.Kind)) u.1 (hn := .nil (zn g))) ?_
         refine dq 38 rfl (fun _ g u h => LWo.guardY (t := 37) u.2.1 h23 rfl rfl (LWo.fieldPtr u_impl_Value rfl s_int u.1 rfl (hn := .nil (zn g)))) ?_
         refine dq 39 rfl (fun _ g u h => LWo.guardY (t := 37) u.1 h23 rfl rfl (LWo.loadV1 (e_int y20.Kind)  g_int u.2.1 h.1 rfl (hn := .nil (zn g)))) ?_
         refine dq 40 rfl (fun _ g u h => LWo.guardY (t := 37) u.1 h23 rfl rfl (LWo.int _ u.2.1 rfl rfl (hn := .nil (zn g)))) ?_
         refine dq 41 rfl (fun _ g u h => LWo.guardY (t := 37) u.1 h23 rfl rfl (LWo.move (e_bool (y20.Kind != (0 : Int))) u.2.1 (hn := .nil (zn g)))) ?_
         refine dq 42 rfl (fun _ g u h => LWo.guardNU (t := 41) u.2.1 h24 rfl rfl rfl rfl rfl (.nil (zn g))) ?_
         refine dq 43 rfl (fun _ g u h => LWo.guardNU (t := 41) u.2.1 h24 rfl rfl rfl rfl rfl (.nil (zn g))) ?_
         refine dq 44 rfl (fun _ g u h => LWo.guardNU (t := 41) u.1 h24 rfl rfl rfl rfl rfl (.nil (zn g))) ?_
         refine dq 45 rfl (fun _ g u h => LWo.guardNU (t := 41) u.1 h24 rfl rfl rfl rfl rfl (.nil (zn g))) ?_
         refine dq 46 rfl (fun _ g u h => LWo.guardNU (t := 41) u.1 h24 rfl rfl rfl rfl rfl (.nil (zn g))) ?_
         refine dq 47 rfl (fun _ g u h => LWo.guardNU (t := 41) u.1 h24 rfl rfl rfl rfl rfl (.nil (zn g))) ?_
         refine dq 48 rfl (fun _ g u h => LWo.guardY (t := 37) u.1 h23 rfl rfl (LWo.pickTM (e_bool true) u.2.1 h24 rfl (hn := .nil (zn g)))) ?_
         refine dq 49 rfl (fun _ g u h => LWo.pickTM (e_bool true) u.1 h23 u.2.1 (hn := .nil (zn g))) ?_
         refine ⟨rfl, by kernel_rfl, hN21 (t0, t22, t23, t24, true) _ ⟨rfl, rfl, rfl, rfl, rfl, trivial⟩ trivial h⟩
        ·have h := bF h24 h
         refine bk h fun x25 e25 h => ?_
         refine LWP.drawF (l := [_,_,_,_,_,_,_,_,_,_,_,_,_,_,_,_,_,_,_,_,_]) [] [0, 5, 6, 22, 23, 24] [([6], []), ([29], [6]), ([0], []), ([5], []), ([31, 32], []), ([33], []), ([34], []), ([30, 35], []), ([36], []), ([6, 37], []), ([37, 38], [6]), ([37, 39], []), ([37, 40], []), ([0, 41], []), ([5, 41], []), ([41, 42, 43], []), ([41, 44], []), ([41, 45], []), ([41, 46], []), ([37, 41, 47], []), ([37, 48], [])] [0, 22, 23, 24, 49] [] mixed (by kernel_rfl) rfl (by decide) ?_
         refine dq 29 rfl (fun _ g u h => LWo.fieldPtr u_impl_Value rfl s_int u.1 rfl (hn := .nil (zn g))) ?_
         refine dq 30 rfl (fun _ g u h => LWo.loadV1 (e_int y20.Kind)  g_int u.1 h.1 rfl (hn := .nil (zn g))) ?_
         refine dq 31 rfl (fun _ g u h => LWo.move (e_Limpl_Column t0) u.1 (hn := .nil (zn g))) ?_
         refine dq 32 rfl (fun _ g u h => LWo.move (e_int t24) u.1 (hn := .nil (zn g))) ?_
         refine dq 33 rfl (fun _ g u h => LWo.indexM (f := e_impl_Column) e22 u_Limpl_Column s_impl_Column u.1 u.2.1 (hn := .nil (zn g))) ?_
         refine dq 34 rfl (fun _ g u h => LWo.fieldAddr _ u_impl_Column rfl s_int u.1 rfl (hn := .nil (zn g))) ?_
         refine dq 35 rfl (fun _ g u h => LWo.load1 (c := (e_int x22.Kind)) g_int u.1 (hn := .nil (zn g))) ?_
         refine dq 36 rfl (fun _ g u h => LWo.int _ u.1 u.2.1 rfl (hn := .nil (zn g))) ?_
         refine dq 37 rfl (fun _ g u h => LWo.move (e_bool (y20.Kind != x22.Kind)) u.1 (hn := .nil (zn g))) ?_
         refine dq 38 rfl (fun _ g u h => LWo.guardY (t := 37) u.2.1 h23 rfl rfl (LWo.fieldPtr u_impl_Value rfl s_int u.1 rfl (hn := .nil (zn g)))) ?_
         refine dq 39 rfl (fun _ g u h => LWo.guardY (t := 37) u.1 h23 rfl rfl (LWo.loadV1 (e_int y20.Kind)  g_int u.2.1 h.1 rfl (hn := .nil (zn g)))) ?_
         refine dq 40 rfl (fun _ g u h => LWo.guardY (t := 37) u.1 h23 rfl rfl (LWo.int _ u.2.1 rfl rfl (hn := .nil (zn g)))) ?_
         refine dq 41 rfl (fun _ g u h => LWo.guardY (t := 37) u.1 h23 rfl rfl (LWo.move (e_bool (y20.Kind != (0 : Int))) u.2.1 (hn := .nil (zn g)))) ?_
         refine dq 42 rfl (fun _ g u h => LWo.guardY (t := 41) u.2.1 h24 rfl rfl (LWo.move (e_Limpl_Column t0) u.1 (hn := .nil (zn g)))) ?_
         refine dq 43 rfl (fun _ g u h => LWo.guardY (t := 41) u.2.1 h24 rfl rfl (LWo.move (e_int t24) u.1 (hn := .nil (zn g)))) ?_
         refine dq 44 rfl (fun _ g u h => LWo.guardY (t := 41) u.1 h24 rfl rfl (LWo.indexM (f := e_impl_Column) e25 u_Limpl_Column s_impl_Column u.2.1 u.2.2.1 (hn := .nil (zn g)))) ?_
         refine dq 45 rfl (fun _ g u h => LWo.guardY (t := 41) u.1 h24 rfl rfl (LWo.fieldAddr _ u_impl_Column rfl s_bool u.2.1 rfl (hn := .nil (zn g)))) ?_
         refine dq 46 rfl (fun _ g u h => LWo.guardY (t := 41) u.1 h24 rfl rfl (LWo.load1 (c := (e_bool x25.Empty)) g_bool u.2.1 (hn := .nil (zn g)))) ?_
         refine dq 47 rfl (fun _ g u h => LWo.guardY (t := 41) u.1 h24 rfl rfl (LWo.not u.2.1 (hn := .nil (zn g)))) ?_
         refine dq 48 rfl (fun _ g u h => LWo.guardY (t := 37) u.1 h23 rfl rfl (LWo.pickFM (e_bool (!x25.Empty)) u.2.1 h24 u.2.2.1 (hn := .nil (zn g)))) ?_
         refine dq 49 rfl (fun _ g u h => LWo.pickTM (e_bool (!x25.Empty)) u.1 h23 u.2.1 (hn := .nil (zn g))) ?_
         refine ⟨rfl, by kernel_rfl, hN21 (t0, t22, t23, t24, (!x25.Empty)) _ ⟨rfl, rfl, rfl, rfl, rfl, trivial⟩ trivial h⟩
       ·have h := bF h23 h
        refine LWP.drawF (l := [_,_,_,_,_,_,_,_,_,_,_,_,_,_,_,_,_,_,_,_,_]) [] [0, 5, 6, 22, 23, 24] [([6], []), ([29], [6]), ([0], []), ([5], []), ([31, 32], []), ([33], []), ([34], []), ([30, 35], []), ([36], []), ([6, 37], []), ([37, 38], []), ([37, 39], []), ([37, 40], []), ([0, 41], []), ([5, 41], []), ([41, 42, 43], []), ([41, 44], []), ([41, 45], []), ([41, 46], []), ([37, 41, 47], []), ([37, 48], [])] [0, 22, 23, 24, 49] [] mixed (by kernel_rfl) rfl (by decide) ?_
        refine dq 29 rfl (fun _ g u h => LWo.fieldPtr u_impl_Value rfl s_int u.1 rfl (hn := .nil (zn g))) ?_
        refine dq 30 rfl (fun _ g u h => LWo.loadV1 (e_int y20.Kind)  g_int u.1 h.1 rfl (hn := .nil (zn g))) ?_
        refine dq 31 rfl (fun _ g u h => LWo.move (e_Limpl_Column t0) u.1 (hn := .nil (zn g))) ?_
        refine dq 32 rfl (fun _ g u h => LWo.move (e_int t24) u.1 (hn := .nil (zn g))) ?_
        refine dq 33 rfl (fun _ g u h => LWo.indexM (f := e_impl_Column) e22 u_Limpl_Column s_impl_Column u.1 u.2.1 (hn := .nil (zn g))) ?_
        refine dq 34 rfl (fun _ g u h => LWo.fieldAddr _ u_impl_Column rfl s_int u.1 rfl (hn := .nil (zn g))) ?_
        refine dq 35 rfl (fun _ g u h => LWo.load1 (c := (e_int x22.Kind)) g_int u.1 (hn := .nil (zn g))) ?_
        refine dq 36 rfl (fun _ g u h => LWo.int _ u.1 u.2.1 rfl (hn := .nil (zn g))) ?_
        refine dq 37 rfl (fun _ g u h => LWo.move (e_bool (y20.Kind != x22.Kind)) u.1 (hn := .nil (zn g))) ?_
        refine dq 38 rfl (fun _ g u h => LWo.guardNU (t := 37) u.2.1 h23 rfl rfl rfl rfl rfl (.nil (zn g))) ?_
        refine dq 39 rfl (fun _ g u h => LWo.guardNU (t := 37) u.1 h23 rfl rfl rfl rfl rfl (.nil (zn g))) ?_
        refine dq 40 rfl (fun _ g u h => LWo.guardNU (t := 37) u.1 h23 rfl rfl rfl rfl rfl (.nil (zn g))) ?_
        refine dq 41 rfl (fun _ g u h => LWo.guardNU (t := 37) u.1 h23 rfl rfl rfl rfl rfl (.nil (zn g))) ?_
        refine dq 42 rfl (fun _ g u h => LWo.guardU (t := 41) u.2.1 rfl rfl rfl rfl (.nil (zn g))) ?_
        refine dq 43 rfl (fun _ g u h => LWo.guardU (t := 41) u.2.1 rfl rfl rfl rfl (.nil (zn g))) ?_
        refine dq 44 rfl (fun _ g u h => LWo.guardU (t := 41) u.1 rfl rfl rfl rfl (.nil (zn g))) ?_
        refine dq 45 rfl (fun _ g u h => LWo.guardU (t := 41) u.1 rfl rfl rfl rfl (.nil (zn g))) ?_
        refine dq 46 rfl (fun _ g u h => LWo.guardU (t := 41) u.1 rfl rfl rfl rfl (.nil (zn g))) ?_
        refine dq 47 rfl (fun _ g u h => LWo.guardU (t := 41) u.1 rfl rfl rfl rfl (.nil (zn g))) ?_
        refine dq 48 rfl (fun _ g u h => LWo.guardNU (t := 37) u.1 h23 rfl rfl rfl rfl rfl (.nil (zn g))) ?_
        refine dq 49 rfl (fun _ g u h => LWo.pickFM (e_bool false) u.1 h23 rfl (hn := .nil (zn g))) ?_
        refine ⟨rfl, by kernel_rfl, hN21 (t0, t22, t23, t24, false) _ ⟨rfl, rfl, rfl, rfl, rfl, trivial⟩ trivial h⟩
     ·have h := bF h16 h
      refine LWP.exit (hN10 () _ trivial trivial h)
  ·intro N3 hN3
   refine LWP.region (l := [_,_,_,_,_,_,_,_,_,_,_,_,_,_,_]) ?_
   refine LWo.move (e_Limpl_Column a0) rfl (hn := ?_)
   refine bk h fun x4 e4 h => ?_
   refine LWo.vcall rfl rfl (c_impl_ColumnsOk _ _ e4) (.same (.nil)) (hn := ?_)
   refine LWo.not rfl (hn := ?_)
   refine LWo.move (e_bool (!x4)) rfl (hn := ?_)
   refine LWo.byCases (t := 10) _ rfl (fun h5 => ?_) (fun h5 => ?_)
   ·have h := bT h5 h
    refine LWo.guardNU (t := 10) rfl h5 rfl rfl rfl rfl rfl ?_
    refine LWo.guardNU (t := 10) rfl h5 rfl rfl rfl rfl rfl ?_
    refine LWo.guardNU (t := 10) rfl h5 rfl rfl rfl rfl rfl ?_
    refine LWo.pickTM (e_bool true) rfl h5 rfl (hn := ?_)
    refine LWo.move (e_bool true) rfl (hn := ?_)
    refine LWo.guardNU (t := 15) rfl rfl rfl rfl rfl rfl rfl ?_
    refine LWo.guardNU (t := 15) rfl rfl rfl rfl rfl rfl rfl ?_
    refine LWo.guardNU (t := 15) rfl rfl rfl rfl rfl rfl rfl ?_
    refine LWo.guardNU (t := 15) rfl rfl rfl rfl rfl rfl rfl ?_
    refine LWo.guardNU (t := 15) rfl rfl rfl rfl rfl rfl rfl ?_
    refine LWo.pickTM (e_bool true) rfl rfl rfl (hn := ?_)
    refine LWo.nil (hN3 (a0, a1, true) _ ⟨rfl, rfl, rfl, trivial⟩ trivial h)
   ·have h := bF h5 h
    refine LWo.guardY (t := 10) rfl h5 rfl rfl ?_
    refine LWo.move (e_Limpl_Value a1) rfl (hn := ?_)
    refine bk h fun x6 e6 h => ?_
    refine LWo.guardY (t := 10) rfl h5 rfl rfl ?_
    refine LWo.vcall rfl rfl (c_impl_RowOk _ _ e6) (.same (.nil)) (hn := ?_)
    refine LWo.guardY (t := 10) rfl h5 rfl rfl ?_
    refine LWo.not rfl (hn := ?_)
    refine LWo.pickFM (e_bool (!x6)) rfl h5 rfl (hn := ?_)
    refine LWo.move (e_bool (!x6)) rfl (hn := ?_)
    refine LWo.byCases (t := 15) _ rfl (fun h7 => ?_) (fun h7 => ?_)
    ·have h := bT h7 h
     refine LWo.guardNU (t := 15) rfl h7 rfl rfl rfl rfl rfl ?_
     refine LWo.guardNU (t := 15) rfl h7 rfl rfl rfl rfl rfl ?_
     refine LWo.guardNU (t := 15) rfl h7 rfl rfl rfl rfl rfl ?_
     refine LWo.guardNU (t := 15) rfl h7 rfl rfl rfl rfl rfl ?_
     refine LWo.guardNU (t := 15) rfl h7 rfl rfl rfl rfl rfl ?_
     refine LWo.pickTM (e_bool true) rfl h7 rfl (hn := ?_)
     refine LWo.nil (hN3 (a0, a1, true) _ ⟨rfl, rfl, rfl, trivial⟩ trivial h)
    ·have h := bF h7 h
     refine LWo.guardY (t := 15) rfl h7 rfl rfl ?_
     refine LWo.move (e_Limpl_Value a1) rfl (hn := ?_)
     refine LWo.guardY (t := 15) rfl h7 rfl rfl ?_
     refine LWo.lenM (f := e_impl_Value) (l := a1) u_Limpl_Value rfl (hn := ?_)
     refine LWo.guardY (t := 15) rfl h7 rfl rfl ?_
     refine LWo.move (e_Limpl_Column a0) rfl (hn := ?_)
     refine LWo.guardY (t := 15) rfl h7 rfl rfl ?_
     refine LWo.lenM (f := e_impl_Column) (l := a0) u_Limpl_Column rfl (hn := ?_)
     refine LWo.guardY (t := 15) rfl h7 rfl rfl ?_
     refine LWo.int _ rfl rfl rfl (hn := ?_)
     refine LWo.pickFM (e_bool ((a1.length : Int) != (a0.length : Int))) rfl h7 rfl (hn := ?_)
     refine LWo.nil (hN3 (a0, a1, ((a1.length : Int) != (a0.length : Int))) _ ⟨rfl, rfl, rfl, trivial⟩ trivial h)

def m_impl_RowsOk_1 (a0 : (List S_impl_Value)) (a1 : (List S_impl_Column)) : Option Bool :=
  (m_impl_RowFits a1 a0).bind fun x3 =>
  some (!x3)
theorem c_impl_RowsOk_1 (a0 : (List S_impl_Value)) (a1 : (List S_impl_Column)) (r : Bool) (h : m_impl_RowsOk_1 a0 a1 = some r) : Ret Try.prog f_impl_RowsOk_1 [e_Limpl_Value a0, .fp (e_Limpl_Column a1).cells] (e_bool r) := by
  refine Does.goG [] F_impl_RowsOk_1 rfl e_impl_RowsOk_1 n_impl_RowsOk_1 rfl (rvs := [.tmp 3]) rfl rfl ?_
  intro w0 ok0 lent ρ0
  refine LWP.seq_k fun N1 hN1 => ?_
  refine LWP.region (l := [_]) ?_
  refine LWo.assign (e_bool false) rfl (hn := ?_)
  refine LWo.nil (hN1 _ ?_)
  refine LWP.seq_k fun N2 hN2 => ?_
  refine LWP.region (l := [_,_,_,_,_]) ?_
  refine LWo.load1 (c := (e_Limpl_Column a1)) g_Limpl_Column rfl (hn := ?_)
  refine LWo.move (e_Limpl_Value a0) rfl (hn := ?_)
  refine bk h fun x3 e3 h => ?_
  refine LWo.vcall rfl rfl (c_impl_RowFits _ _ _ e3) (.same (.same (.nil))) (hn := ?_)
  refine LWo.not rfl (hn := ?_)
  refine LWo.assign (e_bool (!x3)) rfl (hn := ?_)
  refine LWo.nil (hN2 _ ?_)
  obtain rfl := Option.some.inj h
  refine LWP.ret (QG.mk (.inr rfl) (.cons (.tmp (x := (e_bool (!x3))) rfl) (.nil)) (RetOK.one0 (.pure rfl) (by decide)) rfl rfl)

def m_slices_IndexFunc_LLimpl_Value_Limpl_Value_j1 (p1 : (List S_impl_Value) → Option Bool)  : Option Int :=
  some (-1 : Int)
def m_slices_IndexFunc_LLimpl_Value_Limpl_Value_l1 (p1 : (List S_impl_Value) → Option Bool) : Nat → (List (List S_impl_Value)) → Int → Int → Option Int
  | 0, _, _, _ => none
  | n1 + 1, t0, t7, t8 =>
    bif decide (t8 < t7) then ((at? t0 t8).bind fun x12 =>
    (p1 x12).bind fun x13 =>
    bif x13 then (some t8)
    else ((ckI (t8 + (1 : Int))).bind fun x16 =>
    (m_slices_IndexFunc_LLimpl_Value_Limpl_Value_l1 p1 n1) t0 t7 x16))
    else (m_slices_IndexFunc_LLimpl_Value_Limpl_Value_j1 p1 )
def m_slices_IndexFunc_LLimpl_Value_Limpl_Value (a0 : (List (List S_impl_Value))) (p1 : (List S_impl_Value) → Option Bool) : Option Int :=
  m_slices_IndexFunc_LLimpl_Value_Limpl_Value_l1 p1 (((a0.length : Int) - (0 : Int)).toNat + 1) a0 (a0.length : Int) (0 : Int)
theorem c_slices_IndexFunc_LLimpl_Value_Limpl_Value (a0 : (List (List S_impl_Value))) (p1 : (List S_impl_Value) → Option Bool) (f1 : FuncId) (q1 : List LV) (hq1 : ∀ k, LV.at?.atL k q1 = false) (hf1 : ∀ a0 v, p1 a0 = some v → Ret Try.prog f1 (e_Limpl_Value a0 :: q1) (e_bool v)) (r : Int) (h : m_slices_IndexFunc_LLimpl_Value_Limpl_Value a0 p1 = some r) : Ret Try.prog f_slices_IndexFunc_LLimpl_Value_Limpl_Value [e_LLimpl_Value a0, .clo f1 q1] (e_int r) := by
  refine Does.goG [] F_slices_IndexFunc_LLimpl_Value_Limpl_Value rfl e_slices_IndexFunc_LLimpl_Value_Limpl_Value n_slices_IndexFunc_LLimpl_Value_Limpl_Value rfl (rvs := [.tmp 4]) rfl rfl ?_
  intro w0 ok0 lent ρ0
  refine LWP.seq_k fun N1 hN1 => ?_
  refine LWP.region (l := [_]) ?_
  refine LWo.assign (e_int (0 : Int)) rfl (hn := ?_)
  refine LWo.nil (hN1 _ ?_)
  refine LWP.join (α := Unit) (fun z : Unit => []) (fun z : Unit => []) (fun z : Unit => m_slices_IndexFunc_LLimpl_Value_Limpl_Value_j1 p1 ) r (fun _ => by simp [hkeys]) ?_ ?_
  ·rintro _ h
   replace h : m_slices_IndexFunc_LLimpl_Value_Limpl_Value_j1 p1  = some _ := h
   refine LWP.seq_k fun N17 hN17 => ?_
   refine LWP.region (l := [_]) ?_
   refine LWo.assign (e_int (-1 : Int)) rfl (hn := ?_)
   refine LWo.nil (hN17 _ ?_)
   obtain rfl := Option.some.inj h
   refine LWP.ret (QG.mk (.inr rfl) (.cons (.tmp (x := (e_int (-1 : Int))) rfl) (.nil)) (RetOK.one0 (.pure rfl) (by decide)) rfl rfl)
  ·intro N2 hN2
   refine LWP.seq_k fun N3 hN3 => ?_
   refine LWP.region (l := [_,_,_]) ?_
   refine LWo.move (e_LLimpl_Value a0) rfl (hn := ?_)
   refine LWo.lenM (f := e_Limpl_Value) (l := a0) u_LLimpl_Value rfl (hn := ?_)
   refine LWo.move (e_int (0 : Int)) rfl (hn := ?_)
   refine LWo.nil (hN3 _ ?_)
   refine LWP.block ?_
   refine LWP.loopM (α := (List (List S_impl_Value)) × Int × Int) (fun z : (List (List S_impl_Value)) × Int × Int => [(0, (e_LLimpl_Value z.1)), (1, (.clo f1 q1)), (7, (e_int z.2.1)), (8, (e_int z.2.2))]) (fun z : (List (List S_impl_Value)) × Int × Int => []) (fun n1 (z : (List (List S_impl_Value)) × Int × Int) => m_slices_IndexFunc_LLimpl_Value_Limpl_Value_l1 p1 n1 z.1 z.2.1 z.2.2) r _ (a0, (a0.length : Int), (0 : Int)) h (fun _ => rfl) (fun _ => by simp [hkeys]) ⟨rfl, rfl, rfl, rfl, trivial⟩ trivial ?_
   rintro n1 ⟨t0, t7, t8⟩ h N4 hN4
   replace h : m_slices_IndexFunc_LLimpl_Value_Limpl_Value_l1 p1 (n1 + 1) t0 t7 t8 = some _ := h
   refine LWP.seq_k fun N6 hN6 => ?_
   refine LWP.region (l := [_]) ?_
   refine LWo.int _ rfl rfl rfl (hn := ?_)
   refine LWo.nil (hN6 _ ?_)
   refine LWP.seq_k fun N7 hN7 => ?_
   refine LWP.cond_split rfl (fun h8 => ?_) (fun h8 => ?_)
   ·have h := bT h8 h
    refine LWP.skip (hN7 _ ?_)
    refine LWP.seq_k fun N9 hN9 => ?_
    refine LWP.block ?_
    refine LWP.seq_k fun N10 hN10 => ?_
    refine LWP.region (l := [_,_]) ?_
    refine LWo.move (e_int t8) rfl (hn := ?_)
    refine LWo.assign (e_int t8) rfl (hn := ?_)
    refine LWo.nil (hN10 _ ?_)
    refine LWP.seq_k fun N11 hN11 => ?_
    refine LWP.region (l := [_,_,_,_,_,_]) ?_
    refine LWo.move (.clo f1 q1) rfl (hn := ?_)
    refine LWo.move (e_LLimpl_Value t0) rfl (hn := ?_)
    refine LWo.move (e_int t8) rfl (hn := ?_)
    refine bk h fun x12 e12 h => ?_
    refine LWo.indexM (f := e_Limpl_Value) e12 u_LLimpl_Value s_Limpl_Value rfl rfl (hn := ?_)
    refine LWo.load1 (c := (e_Limpl_Value x12)) g_Limpl_Value rfl (hn := ?_)
    refine bk h fun x13 e13 h => ?_
    refine LWo.vcall rfl rfl (hf1 _ _ e13) .refl (hn := ?_)
    refine LWo.nil (hN11 _ ?_)
    refine LWP.cond_split rfl (fun h14 => ?_) (fun h14 => ?_)
    ·have h := bT h14 h
     refine LWP.seq_k fun N15 hN15 => ?_
     refine LWP.region (l := [_,_]) ?_
     refine LWo.move (e_int t8) rfl (hn := ?_)
     refine LWo.assign (e_int t8) rfl (hn := ?_)
     refine LWo.nil (hN15 _ ?_)
     obtain rfl := Option.some.inj h
     refine LWP.ret (QG.mk (.inr rfl) (.cons (.tmp (x := (e_int t8)) rfl) (.nil)) (RetOK.one0 (.pure rfl) (by decide)) rfl rfl)
    ·have h := bF h14 h
     refine LWP.skip (hN9 _ ?_)
     refine LWP.region (l := [_,_]) ?_
     refine bk h fun x16 e16 h => ?_
     refine LWo.int _ rfl rfl (add_ck e16) (hn := ?_)
     refine LWo.move (e_int x16) rfl (hn := ?_)
     refine LWo.nil (hN4 (t0, t7, x16) _ ⟨rfl, rfl, rfl, rfl, trivial⟩ trivial h)
   ·have h := bF h8 h
    refine LWP.exit (hN2 () _ trivial trivial h)

def m_slices_ContainsFunc_LLimpl_Value_Limpl_Value (a0 : (List (List S_impl_Value))) (p1 : (List S_impl_Value) → Option Bool) : Option Bool :=
  (m_slices_IndexFunc_LLimpl_Value_Limpl_Value a0 p1).bind fun x3 =>
  some (decide (x3 ≥ (0 : Int)))
theorem c_slices_ContainsFunc_LLimpl_Value_Limpl_Value (a0 : (List (List S_impl_Value))) (p1 : (List S_impl_Value) → Option Bool) (f1 : FuncId) (q1 : List LV) (hq1 : ∀ k, LV.at?.atL k q1 = false) (hf1 : ∀ a0 v, p1 a0 = some v → Ret Try.prog f1 (e_Limpl_Value a0 :: q1) (e_bool v)) (r : Bool) (h : m_slices_ContainsFunc_LLimpl_Value_Limpl_Value a0 p1 = some r) : Ret Try.prog f_slices_ContainsFunc_LLimpl_Value_Limpl_Value [e_LLimpl_Value a0, .clo f1 q1] (e_bool r) := by
  refine Does.goG [] F_slices_ContainsFunc_LLimpl_Value_Limpl_Value rfl e_slices_ContainsFunc_LLimpl_Value_Limpl_Value n_slices_ContainsFunc_LLimpl_Value_Limpl_Value rfl (rvs := [.tmp 4]) rfl rfl ?_
  intro w0 ok0 lent ρ0
  refine LWP.seq_k fun N1 hN1 => ?_
  refine LWP.region (l := [_]) ?_
  refine LWo.assign (e_bool false) rfl (hn := ?_)
  refine LWo.nil (hN1 _ ?_)
  refine LWP.seq_k fun N2 hN2 => ?_
  refine LWP.region (l := [_,_,_,_,_]) ?_
  refine LWo.move (e_LLimpl_Value a0) rfl (hn := ?_)
  refine LWo.move (.clo f1 q1) rfl (hn := ?_)
  refine bk h fun x3 e3 h => ?_
  refine LWo.vcall rfl rfl (c_slices_IndexFunc_LLimpl_Value_Limpl_Value _ _ f1 q1 hq1 hf1 _ e3) (.same (.same (.nil))) (hn := ?_)
  refine LWo.int _ rfl rfl rfl (hn := ?_)
  refine LWo.assign (e_bool (decide (x3 ≥ (0 : Int)))) rfl (hn := ?_)
  refine LWo.nil (hN2 _ ?_)
  obtain rfl := Option.some.inj h
  refine LWP.ret (QG.mk (.inr rfl) (.cons (.tmp (x := (e_bool (decide (x3 ≥ (0 : Int))))) rfl) (.nil)) (RetOK.one0 (.pure rfl) (by decide)) rfl rfl)

def m_impl_RowsOk_j1 (t4 : Bool) : Option Bool :=
  some t4
def m_impl_RowsOk (a0 : (List S_impl_Column)) (a1 : (List (List S_impl_Value))) : Option Bool :=
  (m_impl_ColumnsOk a0).bind fun x3 =>
  bif x3 then ((m_slices_ContainsFunc_LLimpl_Value_Limpl_Value a1 (fun b0_ => m_impl_RowsOk_1 b0_ a0)).bind fun x5 =>
    m_impl_RowsOk_j1  (!x5))
  else (m_impl_RowsOk_j1  false)
theorem c_impl_RowsOk (a0 : (List S_impl_Column)) (a1 : (List (List S_impl_Value))) (r : Bool) (h : m_impl_RowsOk a0 a1 = some r) : Ret Try.prog f_impl_RowsOk [e_Limpl_Column a0, e_LLimpl_Value a1] (e_bool r) := by
  refine Does.goG [] F_impl_RowsOk rfl e_impl_RowsOk n_impl_RowsOk rfl (rvs := [.tmp 4]) rfl rfl ?_
  intro w0 ok0 lent ρ0
  refine LWP.seq_k fun N1 hN1 => ?_
  refine LWP.region (l := [_,_]) ?_
  refine LWo.boxF (e_Limpl_Column a0) rfl rfl rfl (hn := ?_)
  refine LWo.assign (e_bool false) rfl (hn := ?_)
  refine LWo.nil (hN1 _ ?_)
  refine LWP.join (α := Bool) (fun z : Bool => [(4, (e_bool z))]) (fun z : Bool => []) (fun z : Bool => m_impl_RowsOk_j1  z) r (fun _ => by simp [hkeys]) ?_ ?_
  ·rintro t4 h
   replace h : m_impl_RowsOk_j1  t4 = some _ := h
   obtain rfl := Option.some.inj h
   refine LWP.ret (QG.mk (.inr rfl) (.cons (.tmp (x := (e_bool t4)) rfl) (.nil)) (RetOK.one0 (.pure rfl) (by decide)) rfl rfl)
  ·intro N2 hN2
   refine LWP.region (l := [_,_,_,_,_,_,_,_,_]) ?_
   refine LWo.load1 (c := (e_Limpl_Column a0)) g_Limpl_Column rfl (hn := ?_)
   refine bk h fun x3 e3 h => ?_
   refine LWo.vcall rfl rfl (c_impl_ColumnsOk _ _ e3) (.same (.nil)) (hn := ?_)
   refine LWo.move (e_bool x3) rfl (hn := ?_)
   refine LWo.byCases (t := 7) _ rfl (fun h4 => ?_) (fun h4 => ?_)
   ·have h := bT h4 h
    refine LWo.guardY (t := 7) rfl h4 rfl rfl ?_
    refine LWo.move (e_LLimpl_Value a1) rfl (hn := ?_)
    refine LWo.guardY (t := 7) rfl h4 rfl rfl ?_
    refine LWo.makeFuncM [(.fp (e_Limpl_Column a0).cells)] rfl rfl (hn := ?_)
    refine bk h fun x5 e5 h => ?_
    refine LWo.guardY (t := 7) rfl h4 rfl rfl ?_
    refine LWo.vcall rfl rfl (c_slices_ContainsFunc_LLimpl_Value_Limpl_Value _ _ f_impl_RowsOk_1 [(.fp (e_Limpl_Column a0).cells)] (fun _ => rfl) (fun b0_ v hv => c_impl_RowsOk_1 b0_ a0 v hv) _ e5) (.same (.same (.nil))) (hn := ?_)
    refine LWo.guardY (t := 7) rfl h4 rfl rfl ?_
    refine LWo.not rfl (hn := ?_)
    refine LWo.pickTM (e_bool (!x5)) rfl h4 rfl (hn := ?_)
    refine LWo.assign (e_bool (!x5)) rfl (hn := ?_)
    refine LWo.nil (hN2 (!x5) _ ⟨rfl, trivial⟩ trivial h)
   ·have h := bF h4 h
    refine LWo.guardNU (t := 7) rfl h4 rfl rfl rfl rfl rfl ?_
    refine LWo.guardNU (t := 7) rfl h4 rfl rfl rfl rfl rfl ?_
    refine LWo.guardNU (t := 7) rfl h4 rfl rfl rfl rfl rfl ?_
    refine LWo.guardNU (t := 7) rfl h4 rfl rfl rfl rfl rfl ?_
    refine LWo.pickFM (e_bool false) rfl h4 rfl (hn := ?_)
    refine LWo.assign (e_bool false) rfl (hn := ?_)
    refine LWo.nil (hN2 false _ ⟨rfl, trivial⟩ trivial h)

def m_impl_TablesOk_1_j1 (t2 : Bool) : Option Bool :=
  some t2
def m_impl_TablesOk_1 (a0 : S_impl_Table) : Option Bool :=
  (m_impl_ColumnsOk a0.Columns).bind fun x3 =>
  bif (!x3) then (m_impl_TablesOk_1_j1  true)
  else (bif decide ((a0.Rows.length : Int) > (6 : Int)) then (m_impl_TablesOk_1_j1  true)
    else ((m_impl_RowsOk a0.Columns a0.Rows).bind fun x6 =>
      m_impl_TablesOk_1_j1  (!x6)))
theorem c_impl_TablesOk_1 (a0 : S_impl_Table) (r : Bool) (h : m_impl_TablesOk_1 a0 = some r) : Ret Try.prog f_impl_TablesOk_1 [e_impl_Table a0] (e_bool r) := by
  refine Does.goG [] F_impl_TablesOk_1 rfl e_impl_TablesOk_1 n_impl_TablesOk_1 rfl (rvs := [.tmp 2]) rfl rfl ?_
  intro w0 ok0 lent ρ0
  refine LWP.seq_k fun N1 hN1 => ?_
  refine LWP.region (l := [_,_]) ?_
  refine LWo.boxF (e_impl_Table a0) rfl rfl rfl (hn := ?_)
  refine LWo.assign (e_bool false) rfl (hn := ?_)
  refine LWo.nil (hN1 _ ?_)
  refine LWP.join (α := Bool) (fun z : Bool => [(2, (e_bool z))]) (fun z : Bool => []) (fun z : Bool => m_impl_TablesOk_1_j1  z) r (fun _ => by simp [hkeys]) ?_ ?_
  ·rintro t2 h
   replace h : m_impl_TablesOk_1_j1  t2 = some _ := h
   obtain rfl := Option.some.inj h
   refine LWP.ret (QG.mk (.inr rfl) (.cons (.tmp (x := (e_bool t2)) rfl) (.nil)) (RetOK.one0 (.pure rfl) (by decide)) rfl rfl)
  ·intro N2 hN2
   refine LWP.region (l := [_,_,_,_,_,_,_,_,_,_,_,_,_,_,_,_,_,_,_]) ?_
   refine LWo.fieldAddr _ u_impl_Table rfl s_Limpl_Column rfl rfl (hn := ?_)
   refine LWo.load1 (c := (e_Limpl_Column a0.Columns)) g_Limpl_Column rfl (hn := ?_)
   refine bk h fun x3 e3 h => ?_
   refine LWo.vcall rfl rfl (c_impl_ColumnsOk _ _ e3) (.same (.nil)) (hn := ?_)
   refine LWo.not rfl (hn := ?_)
   refine LWo.move (e_bool (!x3)) rfl (hn := ?_)
   refine LWo.byCases (t := 7) _ rfl (fun h4 => ?_) (fun h4 => ?_)
   ·have h := bT h4 h
    refine LWo.guardNU (t := 7) rfl h4 rfl rfl rfl rfl rfl ?_
    refine LWo.guardNU (t := 7) rfl h4 rfl rfl rfl rfl rfl ?_
    refine LWo.guardNU (t := 7) rfl h4 rfl rfl rfl rfl rfl ?_
    refine LWo.guardNU (t := 7) rfl h4 rfl rfl rfl rfl rfl ?_
    refine LWo.pickTM (e_bool true) rfl h4 rfl (hn := ?_)
    refine LWo.move (e_bool true) rfl (hn := ?_)
    refine LWo.guardNU (t := 13) rfl rfl rfl rfl rfl rfl rfl ?_
    refine LWo.guardNU (t := 13) rfl rfl rfl rfl rfl rfl rfl ?_
    refine LWo.guardNU (t := 13) rfl rfl rfl rfl rfl rfl rfl ?_
    refine LWo.guardNU (t := 13) rfl rfl rfl rfl rfl rfl rfl ?_
    refine LWo.guardNU (t := 13) rfl rfl rfl rfl rfl rfl rfl ?_
    refine LWo.guardNU (t := 13) rfl rfl rfl rfl rfl rfl rfl ?_
    refine LWo.pickTM (e_bool true) rfl rfl rfl (hn := ?_)
    refine LWo.assign (e_bool true) rfl (hn := ?_)
    refine LWo.nil (hN2 true _ ⟨rfl, trivial⟩ trivial h)
   ·have h := bF h4 h
    refine LWo.guardY (t := 7) rfl h4 rfl rfl ?_
    refine LWo.fieldAddr _ u_impl_Table rfl s_LLimpl_Value rfl rfl (hn := ?_)
    refine LWo.guardY (t := 7) rfl h4 rfl rfl ?_
    refine LWo.load1 (c := (e_LLimpl_Value a0.Rows)) g_LLimpl_Value rfl (hn := ?_)
    refine LWo.guardY (t := 7) rfl h4 rfl rfl ?_
    refine LWo.lenM (f := e_Limpl_Value) (l := a0.Rows) u_LLimpl_Value rfl (hn := ?_)
    refine LWo.guardY (t := 7) rfl h4 rfl rfl ?_
    refine LWo.int _ rfl rfl rfl (hn := ?_)
    refine LWo.pickFM (e_bool (decide ((a0.Rows.length : Int) > (6 : Int)))) rfl h4 rfl (hn := ?_)
    refine LWo.move (e_bool (decide ((a0.Rows.length : Int) > (6 : Int)))) rfl (hn := ?_)
    refine LWo.byCases (t := 13) _ rfl (fun h5 => ?_) (fun h5 => ?_)
    ·have h := bT h5 h
     refine LWo.guardNU (t := 13) rfl h5 rfl rfl rfl rfl rfl ?_
     refine LWo.guardNU (t := 13) rfl h5 rfl rfl rfl rfl rfl ?_
     refine LWo.guardNU (t := 13) rfl h5 rfl rfl rfl rfl rfl ?_
     refine LWo.guardNU (t := 13) rfl h5 rfl rfl rfl rfl rfl ?_
     refine LWo.guardNU (t := 13) rfl h5 rfl rfl rfl rfl rfl ?_
     refine LWo.guardNU (t := 13) rfl h5 rfl rfl rfl rfl rfl ?_
     refine LWo.pickTM (e_bool true) rfl h5 rfl (hn := ?_)
     refine LWo.assign (e_bool true) rfl (hn := ?_)
     refine LWo.nil (hN2 true _ ⟨rfl, trivial⟩ trivial h)
    ·have h := bF h5 h
     refine LWo.guardY (t := 13) rfl h5 rfl rfl ?_
     refine LWo.fieldAddr _ u_impl_Table rfl s_Limpl_Column rfl rfl (hn := ?_)
     refine LWo.guardY (t := 13) rfl h5 rfl rfl ?_
     refine LWo.load1 (c := (e_Limpl_Column a0.Columns)) g_Limpl_Column rfl (hn := ?_)
     refine LWo.guardY (t := 13) rfl h5 rfl rfl ?_
     refine LWo.fieldAddr _ u_impl_Table rfl s_LLimpl_Value rfl rfl (hn := ?_)
     refine LWo.guardY (t := 13) rfl h5 rfl rfl ?_
     refine LWo.load1 (c := (e_LLimpl_Value a0.Rows)) g_LLimpl_Value rfl (hn := ?_)
     refine bk h fun x6 e6 h => ?_
     refine LWo.guardY (t := 13) rfl h5 rfl rfl ?_
     refine LWo.vcall rfl rfl (c_impl_RowsOk _ _ _ e6) (.same (.same (.nil))) (hn := ?_)
     refine LWo.guardY (t := 13) rfl h5 rfl rfl ?_
     refine LWo.not rfl (hn := ?_)
     refine LWo.pickFM (e_bool (!x6)) rfl h5 rfl (hn := ?_)
     refine LWo.assign (e_bool (!x6)) rfl (hn := ?_)
     refine LWo.nil (hN2 (!x6) _ ⟨rfl, trivial⟩ trivial h)

def m_impl_TablesOk_j1 (t2 : Bool) : Option Bool :=
  some t2
def m_impl_TablesOk (a0 : (List S_impl_Table)) : Option Bool :=
  bif decide ((a0.length : Int) ≤ (3 : Int)) then ((m_slices_ContainsFunc_Limpl_Table_impl_Table a0 (fun b0_ => m_impl_TablesOk_1 b0_ )).bind fun x4 =>
    m_impl_TablesOk_j1  (!x4))
  else (m_impl_TablesOk_j1  false)
theorem c_impl_TablesOk (a0 : (List S_impl_Table)) (r : Bool) (h : m_impl_TablesOk a0 = some r) : Ret Try.prog f_impl_TablesOk [e_Limpl_Table a0] (e_bool r) := by
  refine Does.goG [] F_impl_TablesOk rfl e_impl_TablesOk n_impl_TablesOk rfl (rvs := [.tmp 2]) rfl rfl ?_
  intro w0 ok0 lent ρ0
  refine LWP.seq_k fun N1 hN1 => ?_
  refine LWP.region (l := [_]) ?_
  refine LWo.assign (e_bool false) rfl (hn := ?_)
  refine LWo.nil (hN1 _ ?_)
  refine LWP.join (α := Bool) (fun z : Bool => [(2, (e_bool z))]) (fun z : Bool => []) (fun z : Bool => m_impl_TablesOk_j1  z) r (fun _ => by simp [hkeys]) ?_ ?_
  ·rintro t2 h
   replace h : m_impl_TablesOk_j1  t2 = some _ := h
   obtain rfl := Option.some.inj h
   refine LWP.ret (QG.mk (.inr rfl) (.cons (.tmp (x := (e_bool t2)) rfl) (.nil)) (RetOK.one0 (.pure rfl) (by decide)) rfl rfl)
  ·intro N2 hN2
   refine LWP.region (l := [_,_,_,_,_,_,_,_,_]) ?_
   refine LWo.move (e_Limpl_Table a0) rfl (hn := ?_)
   refine LWo.lenM (f := e_impl_Table) (l := a0) u_Limpl_Table rfl (hn := ?_)
   refine LWo.int _ rfl rfl rfl (hn := ?_)
   refine LWo.move (e_bool (decide ((a0.length : Int) ≤ (3 : Int)))) rfl (hn := ?_)
   refine LWo.byCases (t := 6) _ rfl (fun h3 => ?_) (fun h3 => ?_)
   ·have h := bT h3 h
    refine LWo.guardY (t := 6) rfl h3 rfl rfl ?_
    refine LWo.move (e_Limpl_Table a0) rfl (hn := ?_)
    refine bk h fun x4 e4 h => ?_
    refine LWo.guardY (t := 6) rfl h3 rfl rfl ?_
    refine LWo.vcall rfl rfl (c_slices_ContainsFunc_Limpl_Table_impl_Table _ _ f_impl_TablesOk_1 [] (fun _ => rfl) (fun b0_ v hv => c_impl_TablesOk_1 b0_  v hv) _ e4) (.same (.same (.nil))) (hn := ?_)
    refine LWo.guardY (t := 6) rfl h3 rfl rfl ?_
    refine LWo.not rfl (hn := ?_)
    refine LWo.pickTM (e_bool (!x4)) rfl h3 rfl (hn := ?_)
    refine LWo.assign (e_bool (!x4)) rfl (hn := ?_)
    refine LWo.nil (hN2 (!x4) _ ⟨rfl, trivial⟩ trivial h)
   ·have h := bF h3 h
    refine LWo.guardNU (t := 6) rfl h3 rfl rfl rfl rfl rfl ?_
    refine LWo.guardNU (t := 6) rfl h3 rfl rfl rfl rfl rfl ?_
    refine LWo.guardNU (t := 6) rfl h3 rfl rfl rfl rfl rfl ?_
    refine LWo.pickFM (e_bool false) rfl h3 rfl (hn := ?_)
    refine LWo.assign (e_bool false) rfl (hn := ?_)
    refine LWo.nil (hN2 false _ ⟨rfl, trivial⟩ trivial h)

def m_impl_listOk_1 (a0 : Int) (a1 : S_impl_Table) : Option Bool :=
  (ckI ((a1.Columns.length : Int) - (1 : Int))).bind fun x3 =>
  (m_impl_between a0 (0 : Int) x3).bind fun x4 =>
  some (!x4)
theorem c_impl_listOk_1 (a0 : Int) (a1 : S_impl_Table) (r : Bool) (h : m_impl_listOk_1 a0 a1 = some r) : Ret Try.prog f_impl_listOk_1 [e_int a0, .fp (e_impl_Table a1).cells] (e_bool r) := by
  refine Does.goG [] F_impl_listOk_1 rfl e_impl_listOk_1 n_impl_listOk_1 rfl (rvs := [.tmp 3]) rfl rfl ?_
  intro w0 ok0 lent ρ0
  refine LWP.seq_k fun N1 hN1 => ?_
  refine LWP.region (l := [_]) ?_
  refine LWo.assign (e_bool false) rfl (hn := ?_)
  refine LWo.nil (hN1 _ ?_)
  refine LWP.seq_k fun N2 hN2 => ?_
  refine LWP.region (l := [_,_,_,_,_,_,_,_]) ?_
  refine LWo.move (e_int a0) rfl (hn := ?_)
  refine LWo.fieldAddr _ u_impl_Table rfl s_Limpl_Column rfl rfl (hn := ?_)
  refine LWo.load1 (c := (e_Limpl_Column a1.Columns)) g_Limpl_Column rfl (hn := ?_)
  refine LWo.lenM (f := e_impl_Column) (l := a1.Columns) u_Limpl_Column rfl (hn := ?_)
  refine bk h fun x3 e3 h => ?_
  refine LWo.int _ rfl rfl (sub_ck e3) (hn := ?_)
  refine bk h fun x4 e4 h => ?_
  refine LWo.vcall rfl rfl (c_impl_between _ _ _ _ e4) (.same (.same (.same (.nil)))) (hn := ?_)
  refine LWo.not rfl (hn := ?_)
  refine LWo.assign (e_bool (!x4)) rfl (hn := ?_)
  refine LWo.nil (hN2 _ ?_)
  obtain rfl := Option.some.inj h
  refine LWP.ret (QG.mk (.inr rfl) (.cons (.tmp (x := (e_bool (!x4))) rfl) (.nil)) (RetOK.one0 (.pure rfl) (by decide)) rfl rfl)

def m_slices_IndexFunc_Lint_int_j1 (p1 : Int → Option Bool)  : Option Int :=
  some (-1 : Int)
def m_slices_IndexFunc_Lint_int_l1 (p1 : Int → Option Bool) : Nat → (List Int) → Int → Int → Option Int
  | 0, _, _, _ => none
  | n1 + 1, t0, t7, t8 =>
    bif decide (t8 < t7) then ((at? t0 t8).bind fun x12 =>
    (p1 x12).bind fun x13 =>
    bif x13 then (some t8)
    else ((ckI (t8 + (1 : Int))).bind fun x16 =>
    (m_slices_IndexFunc_Lint_int_l1 p1 n1) t0 t7 x16))
    else (m_slices_IndexFunc_Lint_int_j1 p1 )
def m_slices_IndexFunc_Lint_int (a0 : (List Int)) (p1 : Int → Option Bool) : Option Int :=
  m_slices_IndexFunc_Lint_int_l1 p1 (((a0.length : Int) - (0 : Int)).toNat + 1) a0 (a0.length : Int) (0 : Int)
theorem c_slices_IndexFunc_Lint_int (a0 : (List Int)) (p1 : Int → Option Bool) (f1 : FuncId) (q1 : List LV) (hq1 : ∀ k, LV.at?.atL k q1 = false) (hf1 : ∀ a0 v, p1 a0 = some v → Ret Try.prog f1 (e_int a0 :: q1) (e_bool v)) (r : Int) (h : m_slices_IndexFunc_Lint_int a0 p1 = some r) : Ret Try.prog f_slices_IndexFunc_Lint_int [e_Lint a0, .clo f1 q1] (e_int r) := by
  refine Does.goG [] F_slices_IndexFunc_Lint_int rfl e_slices_IndexFunc_Lint_int n_slices_IndexFunc_Lint_int rfl (rvs := [.tmp 4]) rfl rfl ?_
  intro w0 ok0 lent ρ0
  refine LWP.seq_k fun N1 hN1 => ?_
  refine LWP.region (l := [_]) ?_
  refine LWo.assign (e_int (0 : Int)) rfl (hn := ?_)
  refine LWo.nil (hN1 _ ?_)
  refine LWP.join (α := Unit) (fun z : Unit => []) (fun z : Unit => []) (fun z : Unit => m_slices_IndexFunc_Lint_int_j1 p1 ) r (fun _ => by simp [hkeys]) ?_ ?_
  ·rintro _ h
   replace h : m_slices_IndexFunc_Lint_int_j1 p1  = some _ := h
   refine LWP.seq_k fun N17 hN17 => ?_
   refine LWP.region (l := [_]) ?_
   refine LWo.assign (e_int (-1 : Int)) rfl (hn := ?_)
   refine LWo.nil (hN17 _ ?_)
   obtain rfl := Option.some.inj h
   refine LWP.ret (QG.mk (.inr rfl) (.cons (.tmp (x := (e_int (-1 : Int))) rfl) (.nil)) (RetOK.one0 (.pure rfl) (by decide)) rfl rfl)
  ·intro N2 hN2
   refine LWP.seq_k fun N3 hN3 => ?_
   refine LWP.region (l := [_,_,_]) ?_
   refine LWo.move (e_Lint a0) rfl (hn := ?_)
   refine LWo.lenM (f := e_int) (l := a0) u_Lint rfl (hn := ?_)
   refine LWo.move (e_int (0 : Int)) rfl (hn := ?_)
   refine LWo.nil (hN3 _ ?_)
   refine LWP.block ?_
   refine LWP.loopM (α := (List Int) × Int × Int) (fun z : (List Int) × Int × Int => [(0, (e_Lint z.1)), (1, (.clo f1 q1)), (7, (e_int z.2.1)), (8, (e_int z.2.2))]) (fun z : (List Int) × Int × Int => []) (fun n1 (z : (List Int) × Int × Int) => m_slices_IndexFunc_Lint_int_l1 p1 n1 z.1 z.2.1 z.2.2) r _ (a0, (a0.length : Int), (0 : Int)) h (fun _ => rfl) (fun _ => by simp [hkeys]) ⟨rfl, rfl, rfl, rfl, trivial⟩ trivial ?_
   rintro n1 ⟨t0, t7, t8⟩ h N4 hN4
   replace h : m_slices_IndexFunc_Lint_int_l1 p1 (n1 + 1) t0 t7 t8 = some _ := h
   refine LWP.seq_k fun N6 hN6 => ?_
   refine LWP.region (l := [_]) ?_
   refine LWo.int _ rfl rfl rfl (hn := ?_)
   refine LWo.nil (hN6 _ ?_)
   refine LWP.seq_k fun N7 hN7 => ?_
   refine LWP.cond_split rfl (fun h8 => ?_) (fun h8 => ?_)
   ·have h := bT h8 h
    refine LWP.skip (hN7 _ ?_)
    refine LWP.seq_k fun N9 hN9 => ?_
    refine LWP.block ?_
    refine LWP.seq_k fun N10 hN10 => ?_
    refine LWP.region (l := [_,_]) ?_
    refine LWo.move (e_int t8) rfl (hn := ?_)
    refine LWo.assign (e_int t8) rfl (hn := ?_)
    refine LWo.nil (hN10 _ ?_)
    refine LWP.seq_k fun N11 hN11 => ?_
    refine LWP.region (l := [_,_,_,_,_,_]) ?_
    refine LWo.move (.clo f1 q1) rfl (hn := ?_)
    refine LWo.move (e_Lint t0) rfl (hn := ?_)
    refine LWo.move (e_int t8) rfl (hn := ?_)
    refine bk h fun x12 e12 h => ?_
    refine LWo.indexM (f := e_int) e12 u_Lint s_int rfl rfl (hn := ?_)
    refine LWo.load1 (c := (e_int x12)) g_int rfl (hn := ?_)
    refine bk h fun x13 e13 h => ?_
    refine LWo.vcall rfl rfl (hf1 _ _ e13) .refl (hn := ?_)
    refine LWo.nil (hN11 _ ?_)
    refine LWP.cond_split rfl (fun h14 => ?_) (fun h14 => ?_)
    ·have h := bT h14 h
     refine LWP.seq_k fun N15 hN15 => ?_
     refine LWP.region (l := [_,_]) ?_
     refine LWo.move (e_int t8) rfl (hn := ?_)
     refine LWo.assign (e_int t8) rfl (hn := ?_)
     refine LWo.nil (hN15 _ ?_)
     obtain rfl := Option.some.inj h
     refine LWP.ret (QG.mk (.inr rfl) (.cons (.tmp (x := (e_int t8)) rfl) (.nil)) (RetOK.one0 (.pure rfl) (by decide)) rfl rfl)
    ·have h := bF h14 h
     refine LWP.skip (hN9 _ ?_)
     refine LWP.region (l := [_,_]) ?_
     refine bk h fun x16 e16 h => ?_
     refine LWo.int _ rfl rfl (add_ck e16) (hn := ?_)
     refine LWo.move (e_int x16) rfl (hn := ?_)
     refine LWo.nil (hN4 (t0, t7, x16) _ ⟨rfl, rfl, rfl, rfl, trivial⟩ trivial h)
   ·have h := bF h8 h
    refine LWP.exit (hN2 () _ trivial trivial h)

def m_slices_ContainsFunc_Lint_int (a0 : (List Int)) (p1 : Int → Option Bool) : Option Bool :=
  (m_slices_IndexFunc_Lint_int a0 p1).bind fun x3 =>
  some (decide (x3 ≥ (0 : Int)))
theorem c_slices_ContainsFunc_Lint_int (a0 : (List Int)) (p1 : Int → Option Bool) (f1 : FuncId) (q1 : List LV) (hq1 : ∀ k, LV.at?.atL k q1 = false) (hf1 : ∀ a0 v, p1 a0 = some v → Ret Try.prog f1 (e_int a0 :: q1) (e_bool v)) (r : Bool) (h : m_slices_ContainsFunc_Lint_int a0 p1 = some r) : Ret Try.prog f_slices_ContainsFunc_Lint_int [e_Lint a0, .clo f1 q1] (e_bool r) := by
  refine Does.goG [] F_slices_ContainsFunc_Lint_int rfl e_slices_ContainsFunc_Lint_int n_slices_ContainsFunc_Lint_int rfl (rvs := [.tmp 4]) rfl rfl ?_
  intro w0 ok0 lent ρ0
  refine LWP.seq_k fun N1 hN1 => ?_
  refine LWP.region (l := [_]) ?_
  refine LWo.assign (e_bool false) rfl (hn := ?_)
  refine LWo.nil (hN1 _ ?_)
  refine LWP.seq_k fun N2 hN2 => ?_
  refine LWP.region (l := [_,_,_,_,_]) ?_
  refine LWo.move (e_Lint a0) rfl (hn := ?_)
  refine LWo.move (.clo f1 q1) rfl (hn := ?_)
  refine bk h fun x3 e3 h => ?_
  refine LWo.vcall rfl rfl (c_slices_IndexFunc_Lint_int _ _ f1 q1 hq1 hf1 _ e3) (.same (.same (.nil))) (hn := ?_)
  refine LWo.int _ rfl rfl rfl (hn := ?_)
  refine LWo.assign (e_bool (decide (x3 ≥ (0 : Int)))) rfl (hn := ?_)
  refine LWo.nil (hN2 _ ?_)
  obtain rfl := Option.some.inj h
  refine LWP.ret (QG.mk (.inr rfl) (.cons (.tmp (x := (e_bool (decide (x3 ≥ (0 : Int))))) rfl) (.nil)) (RetOK.one0 (.pure rfl) (by decide)) rfl rfl)

def m_impl_listOk_j1 (t4 : Bool) : Option Bool :=
  some t4
def m_impl_listOk (a0 : S_impl_Table) (a1 : (List Int)) : Option Bool :=
  (m_impl_between (a1.length : Int) (1 : Int) (4 : Int)).bind fun x3 =>
  bif x3 then ((m_slices_ContainsFunc_Lint_int a1 (fun b0_ => m_impl_listOk_1 b0_ a0)).bind fun x5 =>
    m_impl_listOk_j1  (!x5))
  else (m_impl_listOk_j1  false)
theorem c_impl_listOk (a0 : S_impl_Table) (a1 : (List Int)) (r : Bool) (h : m_impl_listOk a0 a1 = some r) : Ret Try.prog f_impl_listOk [e_impl_Table a0, e_Lint a1] (e_bool r) := by
  refine Does.goG [] F_impl_listOk rfl e_impl_listOk n_impl_listOk rfl (rvs := [.tmp 4]) rfl rfl ?_
  intro w0 ok0 lent ρ0
  refine LWP.seq_k fun N1 hN1 => ?_
  refine LWP.region (l := [_,_]) ?_
  refine LWo.boxF (e_impl_Table a0) rfl rfl rfl (hn := ?_)
  refine LWo.assign (e_bool false) rfl (hn := ?_)
  refine LWo.nil (hN1 _ ?_)
  refine LWP.join (α := Bool) (fun z : Bool => [(4, (e_bool z))]) (fun z : Bool => []) (fun z : Bool => m_impl_listOk_j1  z) r (fun _ => by simp [hkeys]) ?_ ?_
  ·rintro t4 h
   replace h : m_impl_listOk_j1  t4 = some _ := h
   obtain rfl := Option.some.inj h
   refine LWP.ret (QG.mk (.inr rfl) (.cons (.tmp (x := (e_bool t4)) rfl) (.nil)) (RetOK.one0 (.pure rfl) (by decide)) rfl rfl)
  ·intro N2 hN2
   refine LWP.region (l := [_,_,_,_,_,_,_,_,_,_]) ?_
   refine LWo.move (e_Lint a1) rfl (hn := ?_)
   refine LWo.lenM (f := e_int) (l := a1) u_Lint rfl (hn := ?_)
   refine bk h fun x3 e3 h => ?_
   refine LWo.vcall rfl rfl (c_impl_between _ _ _ _ e3) (.same (.same (.same (.nil)))) (hn := ?_)
   refine LWo.move (e_bool x3) rfl (hn := ?_)
   refine LWo.byCases (t := 8) _ rfl (fun h4 => ?_) (fun h4 => ?_)
   ·have h := bT h4 h
    refine LWo.guardY (t := 8) rfl h4 rfl rfl ?_
    refine LWo.move (e_Lint a1) rfl (hn := ?_)
    refine LWo.guardY (t := 8) rfl h4 rfl rfl ?_
    refine LWo.makeFuncM [(.fp (e_impl_Table a0).cells)] rfl rfl (hn := ?_)
    refine bk h fun x5 e5 h => ?_
    refine LWo.guardY (t := 8) rfl h4 rfl rfl ?_
    refine LWo.vcall rfl rfl (c_slices_ContainsFunc_Lint_int _ _ f_impl_listOk_1 [(.fp (e_impl_Table a0).cells)] (fun _ => rfl) (fun b0_ v hv => c_impl_listOk_1 b0_ a0 v hv) _ e5) (.same (.same (.nil))) (hn := ?_)
    refine LWo.guardY (t := 8) rfl h4 rfl rfl ?_
    refine LWo.not rfl (hn := ?_)
    refine LWo.pickTM (e_bool (!x5)) rfl h4 rfl (hn := ?_)
    refine LWo.assign (e_bool (!x5)) rfl (hn := ?_)
    refine LWo.nil (hN2 (!x5) _ ⟨rfl, trivial⟩ trivial h)
   ·have h := bF h4 h
    refine LWo.guardNU (t := 8) rfl h4 rfl rfl rfl rfl rfl ?_
    refine LWo.guardNU (t := 8) rfl h4 rfl rfl rfl rfl rfl ?_
    refine LWo.guardNU (t := 8) rfl h4 rfl rfl rfl rfl rfl ?_
    refine LWo.guardNU (t := 8) rfl h4 rfl rfl rfl rfl rfl ?_
    refine LWo.pickFM (e_bool false) rfl h4 rfl (hn := ?_)
    refine LWo.assign (e_bool false) rfl (hn := ?_)
    refine LWo.nil (hN2 false _ ⟨rfl, trivial⟩ trivial h)

def m_impl_Part_takes_j2 (t10 : Bool) : Option Int :=
  bif t10 then (some (1 : Int))
  else (some (0 : Int))
def m_impl_Part_takes_j1 (t4 : Int) (t5 : Bool) : Option Int :=
  bif t5 then (some (2 : Int))
  else (bif (t4 == (7 : Int)) then (m_impl_Part_takes_j2  (t4 == (7 : Int)))
    else (m_impl_Part_takes_j2  (t4 == (8 : Int))))
def m_impl_Part_takes (a0 : S_impl_Part) : Option Int :=
  bif (a0.Kind == (3 : Int)) then (m_impl_Part_takes_j1  a0.Kind (a0.Kind == (3 : Int)))
  else (bif (a0.Kind == (4 : Int)) then (m_impl_Part_takes_j1  a0.Kind (a0.Kind == (4 : Int)))
    else (bif (a0.Kind == (5 : Int)) then (m_impl_Part_takes_j1  a0.Kind (a0.Kind == (5 : Int)))
      else (m_impl_Part_takes_j1  a0.Kind (a0.Kind == (6 : Int)))))
theorem c_impl_Part_takes (a0 : S_impl_Part) (r : Int) (h : m_impl_Part_takes a0 = some r) : Ret Try.prog f_impl_Part_takes [e_impl_Part a0] (e_int r) := by
  refine Does.goG [] F_impl_Part_takes rfl e_impl_Part_takes n_impl_Part_takes rfl (rvs := [.tmp 2]) rfl rfl ?_
  intro w0 ok0 lent ρ0
  refine LWP.seq_k fun N1 hN1 => ?_
  refine LWP.region (l := [_,_]) ?_
  refine LWo.boxF (e_impl_Part a0) rfl rfl rfl (hn := ?_)
  refine LWo.assign (e_int (0 : Int)) rfl (hn := ?_)
  refine LWo.nil (hN1 _ ?_)
  refine LWP.seq_k fun N2 hN2 => ?_
  refine LWP.seq_k fun N3 hN3 => ?_
  refine LWP.region (l := [_,_]) ?_
  refine LWo.fieldAddr _ u_impl_Part rfl s_int rfl rfl (hn := ?_)
  refine LWo.load1 (c := (e_int a0.Kind)) g_int rfl (hn := ?_)
  refine LWo.nil (hN3 _ ?_)
  refine LWP.block ?_
  refine LWP.join (α := Int × Bool) (fun z : Int × Bool => [(4, (e_int z.1)), (5, (e_bool z.2))]) (fun z : Int × Bool => []) (fun z : Int × Bool => m_impl_Part_takes_j1  z.1 z.2) r (fun _ => by simp [hkeys]) ?_ ?_
  ·rintro ⟨t4, t5⟩ h
   replace h : m_impl_Part_takes_j1  t4 t5 = some _ := h
   refine LWP.cond_split rfl (fun h11 => ?_) (fun h11 => ?_)
   ·have h := bT h11 h
    refine LWP.seq_k fun N12 hN12 => ?_
    refine LWP.region (l := [_]) ?_
    refine LWo.assign (e_int (2 : Int)) rfl (hn := ?_)
    refine LWo.nil (hN12 _ ?_)
    obtain rfl := Option.some.inj h
    refine LWP.ret (QG.mk (.inr rfl) (.cons (.tmp (x := (e_int (2 : Int))) rfl) (.nil)) (RetOK.one0 (.pure rfl) (by decide)) rfl rfl)
   ·have h := bF h11 h
    refine LWP.join (α := Bool) (fun z : Bool => [(10, (e_bool z))]) (fun z : Bool => []) (fun z : Bool => m_impl_Part_takes_j2  z) r (fun _ => by simp [hkeys]) ?_ ?_
    ·rintro t10 h
     replace h : m_impl_Part_takes_j2  t10 = some _ := h
     refine LWP.cond_split rfl (fun h16 => ?_) (fun h16 => ?_)
     ·have h := bT h16 h
      refine LWP.seq_k fun N17 hN17 => ?_
      refine LWP.region (l := [_]) ?_
      refine LWo.assign (e_int (1 : Int)) rfl (hn := ?_)
      refine LWo.nil (hN17 _ ?_)
      obtain rfl := Option.some.inj h
      refine LWP.ret (QG.mk (.inr rfl) (.cons (.tmp (x := (e_int (1 : Int))) rfl) (.nil)) (RetOK.one0 (.pure rfl) (by decide)) rfl rfl)
     ·have h := bF h16 h
      refine LWP.skip (hN2 _ ?_)
      refine LWP.seq_k fun N18 hN18 => ?_
      refine LWP.region (l := [_]) ?_
      refine LWo.assign (e_int (0 : Int)) rfl (hn := ?_)
      refine LWo.nil (hN18 _ ?_)
      obtain rfl := Option.some.inj h
      refine LWP.ret (QG.mk (.inr rfl) (.cons (.tmp (x := (e_int (0 : Int))) rfl) (.nil)) (RetOK.one0 (.pure rfl) (by decide)) rfl rfl)
    ·intro N13 hN13
     refine LWP.seq_k fun N14 hN14 => ?_
     refine LWP.region (l := [_,_]) ?_
     refine LWo.int _ rfl rfl rfl (hn := ?_)
     refine LWo.assign (e_bool (t4 == (7 : Int))) rfl (hn := ?_)
     refine LWo.nil (hN14 _ ?_)
     refine LWP.cond_split rfl (fun h15 => ?_) (fun h15 => ?_)
     ·have h := bT h15 h
      refine LWP.skip (hN13 (t4 == (7 : Int)) _ ⟨rfl, trivial⟩ trivial h)
     ·have h := bF h15 h
      refine LWP.region (l := [_,_]) ?_
      refine LWo.int _ rfl rfl rfl (hn := ?_)
      refine LWo.assign (e_bool (t4 == (8 : Int))) rfl (hn := ?_)
      refine LWo.nil (hN13 (t4 == (8 : Int)) _ ⟨rfl, trivial⟩ trivial h)
  ·intro N4 hN4
   refine LWP.seq_k fun N5 hN5 => ?_
   refine LWP.region (l := [_,_]) ?_
   refine LWo.int _ rfl rfl rfl (hn := ?_)
   refine LWo.assign (e_bool (a0.Kind == (3 : Int))) rfl (hn := ?_)
   refine LWo.nil (hN5 _ ?_)
   refine LWP.cond_split rfl (fun h6 => ?_) (fun h6 => ?_)
   ·have h := bT h6 h
    refine LWP.skip (hN4 (a0.Kind, (a0.Kind == (3 : Int))) _ ⟨rfl, rfl, trivial⟩ trivial h)
   ·have h := bF h6 h
    refine LWP.seq_k fun N7 hN7 => ?_
    refine LWP.region (l := [_,_]) ?_
    refine LWo.int _ rfl rfl rfl (hn := ?_)
    refine LWo.assign (e_bool (a0.Kind == (4 : Int))) rfl (hn := ?_)
    refine LWo.nil (hN7 _ ?_)
    refine LWP.cond_split rfl (fun h8 => ?_) (fun h8 => ?_)
    ·have h := bT h8 h
     refine LWP.skip (hN4 (a0.Kind, (a0.Kind == (4 : Int))) _ ⟨rfl, rfl, trivial⟩ trivial h)
    ·have h := bF h8 h
     refine LWP.seq_k fun N9 hN9 => ?_
     refine LWP.region (l := [_,_]) ?_
     refine LWo.int _ rfl rfl rfl (hn := ?_)
     refine LWo.assign (e_bool (a0.Kind == (5 : Int))) rfl (hn := ?_)
     refine LWo.nil (hN9 _ ?_)
     refine LWP.cond_split rfl (fun h10 => ?_) (fun h10 => ?_)
     ·have h := bT h10 h
      refine LWP.skip (hN4 (a0.Kind, (a0.Kind == (5 : Int))) _ ⟨rfl, rfl, trivial⟩ trivial h)
     ·have h := bF h10 h
      refine LWP.region (l := [_,_]) ?_
      refine LWo.int _ rfl rfl rfl (hn := ?_)
      refine LWo.assign (e_bool (a0.Kind == (6 : Int))) rfl (hn := ?_)
      refine LWo.nil (hN4 (a0.Kind, (a0.Kind == (6 : Int))) _ ⟨rfl, rfl, trivial⟩ trivial h)

def m_impl_Part_tells_j1 (t4 : Bool) : Option Bool :=
  some t4
def m_impl_Part_tells_j2 (t4 : Bool) : Option Bool :=
  some t4
def m_impl_Part_tells_j3 (t4 : Bool) : Option Bool :=
  some t4
def m_impl_Part_tells_j5 (t4 : Bool) : Option Bool :=
  some t4
def m_impl_Part_tells_j4 (t2 : S_impl_Part) (t48 : Bool) : Option Bool :=
  bif t48 then (bif (t2.N == (0 : Int)) then (m_impl_Part_tells_j5  (decide (t2.V = (⟨(0 : Int), (0 : Int), (⟨#[]⟩ : ByteArray)⟩ : S_impl_Value))))
    else (m_impl_Part_tells_j5  false))
  else (some false)
def m_impl_Part_tells (a0 : S_impl_Part) (a1 : (List S_impl_Column)) : Option Bool :=
  bif (a0.Kind == (1 : Int)) then (bif (a0.N == (0 : Int)) then ((m_impl_Value_ok a0.V).bind fun x8 =>
      bif x8 then (m_impl_Part_tells_j1  (a0.V.Kind != (0 : Int)))
      else (m_impl_Part_tells_j1  false))
    else (m_impl_Part_tells_j1  false))
  else (bif (a0.Kind == (2 : Int)) then ((ckI ((a1.length : Int) - (1 : Int))).bind fun x13 =>
      (m_impl_between a0.N (0 : Int) x13).bind fun x14 =>
      bif x14 then (m_impl_Part_tells_j2  (decide (a0.V = (⟨(0 : Int), (0 : Int), (⟨#[]⟩ : ByteArray)⟩ : S_impl_Value))))
      else (m_impl_Part_tells_j2  false))
    else (bif (a0.Kind == (4 : Int)) then ((m_impl_between a0.N (1 : Int) (4 : Int)).bind fun x19 =>
        bif x19 then (m_impl_Part_tells_j3  (decide (a0.V = (⟨(0 : Int), (0 : Int), (⟨#[]⟩ : ByteArray)⟩ : S_impl_Value))))
        else (m_impl_Part_tells_j3  false))
      else (bif (a0.Kind == (3 : Int)) then (m_impl_Part_tells_j4  a0 (a0.Kind == (3 : Int)))
        else (bif (a0.Kind == (5 : Int)) then (m_impl_Part_tells_j4  a0 (a0.Kind == (5 : Int)))
          else (bif (a0.Kind == (6 : Int)) then (m_impl_Part_tells_j4  a0 (a0.Kind == (6 : Int)))
            else (bif (a0.Kind == (7 : Int)) then (m_impl_Part_tells_j4  a0 (a0.Kind == (7 : Int)))
              else (m_impl_Part_tells_j4  a0 (a0.Kind == (8 : Int)))))))))
theorem c_impl_Part_tells (a0 : S_impl_Part) (a1 : (List S_impl_Column)) (r : Bool) (h : m_impl_Part_tells a0 a1 = some r) : Ret Try.prog f_impl_Part_tells [e_impl_Part a0, e_Limpl_Column a1] (e_bool r) := by
  refine Does.goG [] F_impl_Part_tells rfl e_impl_Part_tells n_impl_Part_tells rfl (rvs := [.tmp 4]) rfl rfl ?_
  intro w0 ok0 lent ρ0
  refine LWP.seq_k fun N1 hN1 => ?_
  refine LWP.region (l := [_,_]) ?_
  refine LWo.boxF (e_impl_Part a0) rfl rfl rfl (hn := ?_)
  refine LWo.assign (e_bool false) rfl (hn := ?_)
  refine LWo.nil (hN1 _ ?_)
  refine LWP.seq_k fun N2 hN2 => ?_
  refine LWP.seq_k fun N3 hN3 => ?_
  refine LWP.region (l := [_,_]) ?_
  refine LWo.fieldAddr _ u_impl_Part rfl s_int rfl rfl (hn := ?_)
  refine LWo.load1 (c := (e_int a0.Kind)) g_int rfl (hn := ?_)
  refine LWo.nil (hN3 _ ?_)
  refine LWP.block ?_
  refine LWP.seq_k fun N4 hN4 => ?_
  refine LWP.region (l := [_,_]) ?_
  refine LWo.int _ rfl rfl rfl (hn := ?_)
  refine LWo.assign (e_bool (a0.Kind == (1 : Int))) rfl (hn := ?_)
  refine LWo.nil (hN4 _ ?_)
  refine LWP.cond_split rfl (fun h5 => ?_) (fun h5 => ?_)
  ·have h := bT h5 h
   refine LWP.join (α := Bool) (fun z : Bool => [(4, (e_bool z))]) (fun z : Bool => []) (fun z : Bool => m_impl_Part_tells_j1  z) r (fun _ => by simp [hkeys]) ?_ ?_
   ·rintro t4 h
    replace h : m_impl_Part_tells_j1  t4 = some _ := h
    obtain rfl := Option.some.inj h
    refine LWP.ret (QG.mk (.inr rfl) (.cons (.tmp (x := (e_bool t4)) rfl) (.nil)) (RetOK.one0 (.pure rfl) (by decide)) rfl rfl)
   ·intro N6 hN6
    refine LWP.region (l := [_,_,_,_,_,_,_,_,_,_,_,_,_,_,_]) ?_
    refine LWo.fieldAddr _ u_impl_Part rfl s_int rfl rfl (hn := ?_)
    refine LWo.load1 (c := (e_int a0.N)) g_int rfl (hn := ?_)
    refine LWo.int _ rfl rfl rfl (hn := ?_)
    refine LWo.move (e_bool (a0.N == (0 : Int))) rfl (hn := ?_)
    refine LWo.byCases (t := 12) _ rfl (fun h7 => ?_) (fun h7 => ?_)
    ·have h := bT h7 h
     refine LWo.guardY (t := 12) rfl h7 rfl rfl ?_
     refine LWo.fieldAddr _ u_impl_Part rfl s_impl_Value rfl rfl (hn := ?_)
     refine LWo.guardY (t := 12) rfl h7 rfl rfl ?_
     refine LWo.loadN ((e_impl_Value a0.V)).cells g_impl_Value s_impl_Value rfl (Nat.le_of_ble_eq_true rfl) rfl (hn := ?_)
     refine bk h fun x8 e8 h => ?_
     refine LWo.guardY (t := 12) rfl h7 rfl rfl ?_
     refine LWo.vcall rfl rfl (c_impl_Value_ok _ _ e8) (.same (.nil)) (hn := ?_)
     refine LWo.pickTM (e_bool x8) rfl h7 rfl (hn := ?_)
     refine LWo.move (e_bool x8) rfl (hn := ?_)
     refine LWo.byCases (t := 17) _ rfl (fun h9 => ?_) (fun h9 => ?_)
     ·have h := bT h9 h
      refine LWo.guardY (t := 17) rfl h9 rfl rfl ?_
      refine LWo.fieldAddr _ u_impl_Part rfl s_impl_Value rfl rfl (hn := ?_)
      refine LWo.guardY (t := 17) rfl h9 rfl rfl ?_
      refine LWo.fieldAddr _ u_impl_Value rfl s_int rfl rfl (hn := ?_)
      refine LWo.guardY (t := 17) rfl h9 rfl rfl ?_
      refine LWo.load1 (c := (e_int a0.V.Kind)) g_int rfl (hn := ?_)
      refine LWo.guardY (t := 17) rfl h9 rfl rfl ?_
      refine LWo.int _ rfl rfl rfl (hn := ?_)
      refine LWo.pickTM (e_bool (a0.V.Kind != (0 : Int))) rfl h9 rfl (hn := ?_)
      refine LWo.assign (e_bool (a0.V.Kind != (0 : Int))) rfl (hn := ?_)
      refine LWo.nil (hN6 (a0.V.Kind != (0 : Int)) _ ⟨rfl, trivial⟩ trivial h)
     ·have h := bF h9 h
      refine LWo.guardNU (t := 17) rfl h9 rfl rfl rfl rfl rfl ?_
      refine LWo.guardNU (t := 17) rfl h9 rfl rfl rfl rfl rfl ?_
      refine LWo.guardNU (t := 17) rfl h9 rfl rfl rfl rfl rfl ?_
      refine LWo.guardNU (t := 17) rfl h9 rfl rfl rfl rfl rfl ?_
      refine LWo.pickFM (e_bool false) rfl h9 rfl (hn := ?_)
      refine LWo.assign (e_bool false) rfl (hn := ?_)
      refine LWo.nil (hN6 false _ ⟨rfl, trivial⟩ trivial h)
    ·have h := bF h7 h
     refine LWo.guardNU (t := 12) rfl h7 rfl rfl rfl rfl rfl ?_
     refine LWo.guardNU (t := 12) rfl h7 rfl rfl rfl rfl rfl ?_
     refine LWo.guardNU (t := 12) rfl h7 rfl rfl rfl rfl rfl ?_
     refine LWo.pickFM (e_bool false) rfl h7 rfl (hn := ?_)
     refine LWo.move (e_bool false) rfl (hn := ?_)
     refine LWo.guardNU (t := 17) rfl rfl rfl rfl rfl rfl rfl ?_
     refine LWo.guardNU (t := 17) rfl rfl rfl rfl rfl rfl rfl ?_
     refine LWo.guardNU (t := 17) rfl rfl rfl rfl rfl rfl rfl ?_
     refine LWo.guardNU (t := 17) rfl rfl rfl rfl rfl rfl rfl ?_
     refine LWo.pickFM (e_bool false) rfl rfl rfl (hn := ?_)
     refine LWo.assign (e_bool false) rfl (hn := ?_)
     refine LWo.nil (hN6 false _ ⟨rfl, trivial⟩ trivial h)
  ·have h := bF h5 h
   refine LWP.seq_k fun N10 hN10 => ?_
   refine LWP.region (l := [_,_]) ?_
   refine LWo.int _ rfl rfl rfl (hn := ?_)
   refine LWo.assign (e_bool (a0.Kind == (2 : Int))) rfl (hn := ?_)
   refine LWo.nil (hN10 _ ?_)
   refine LWP.cond_split rfl (fun h11 => ?_) (fun h11 => ?_)
   ·have h := bT h11 h
    refine LWP.join (α := Bool) (fun z : Bool => [(4, (e_bool z))]) (fun z : Bool => []) (fun z : Bool => m_impl_Part_tells_j2  z) r (fun _ => by simp [hkeys]) ?_ ?_
    ·rintro t4 h
     replace h : m_impl_Part_tells_j2  t4 = some _ := h
     obtain rfl := Option.some.inj h
     refine LWP.ret (QG.mk (.inr rfl) (.cons (.tmp (x := (e_bool t4)) rfl) (.nil)) (RetOK.one0 (.pure rfl) (by decide)) rfl rfl)
    ·intro N12 hN12
     refine LWP.region (l := [_,_,_,_,_,_,_,_,_,_,_,_,_]) ?_
     refine LWo.fieldAddr _ u_impl_Part rfl s_int rfl rfl (hn := ?_)
     refine LWo.load1 (c := (e_int a0.N)) g_int rfl (hn := ?_)
     refine LWo.move (e_Limpl_Column a1) rfl (hn := ?_)
     refine LWo.lenM (f := e_impl_Column) (l := a1) u_Limpl_Column rfl (hn := ?_)
     refine bk h fun x13 e13 h => ?_
     refine LWo.int _ rfl rfl (sub_ck e13) (hn := ?_)
     refine bk h fun x14 e14 h => ?_
     refine LWo.vcall rfl rfl (c_impl_between _ _ _ _ e14) (.same (.same (.same (.nil)))) (hn := ?_)
     refine LWo.move (e_bool x14) rfl (hn := ?_)
     refine LWo.byCases (t := 31) _ rfl (fun h15 => ?_) (fun h15 => ?_)
     ·have h := bT h15 h
      refine LWo.guardY (t := 31) rfl h15 rfl rfl ?_
      refine LWo.fieldAddr _ u_impl_Part rfl s_impl_Value rfl rfl (hn := ?_)
      refine LWo.guardY (t := 31) rfl h15 rfl rfl ?_
      refine LWo.loadN ((e_impl_Value a0.V)).cells g_impl_Value s_impl_Value rfl (Nat.le_of_ble_eq_true rfl) rfl (hn := ?_)
      refine LWo.guardY (t := 31) rfl h15 rfl rfl ?_
      refine LWo.build_impl_Value (parts := []) (⟨(0 : Int), (0 : Int), (⟨#[]⟩ : ByteArray)⟩ : S_impl_Value) rfl rfl rfl .refl (hn := ?_)
      refine LWo.guardY (t := 31) rfl h15 rfl rfl ?_
      refine LWo.eq_impl_Value _ _ rfl rfl (hn := ?_)
      refine LWo.pickTM (e_bool (decide (a0.V = (⟨(0 : Int), (0 : Int), (⟨#[]⟩ : ByteArray)⟩ : S_impl_Value)))) rfl h15 rfl (hn := ?_)
      refine LWo.assign (e_bool (decide (a0.V = (⟨(0 : Int), (0 : Int), (⟨#[]⟩ : ByteArray)⟩ : S_impl_Value)))) rfl (hn := ?_)
      refine LWo.nil (hN12 (decide (a0.V = (⟨(0 : Int), (0 : Int), (⟨#[]⟩ : ByteArray)⟩ : S_impl_Value))) _ ⟨rfl, trivial⟩ trivial h)
     ·have h := bF h15 h
      refine LWo.guardNU (t := 31) rfl h15 rfl rfl rfl rfl rfl ?_
      refine LWo.guardNU (t := 31) rfl h15 rfl rfl rfl rfl rfl ?_
      refine LWo.guardNU (t := 31) rfl h15 rfl rfl rfl rfl rfl ?_
      refine LWo.guardNU (t := 31) rfl h15 rfl rfl rfl rfl rfl ?_
      refine LWo.pickFM (e_bool false) rfl h15 rfl (hn := ?_)
      refine LWo.assign (e_bool false) rfl (hn := ?_)
      refine LWo.nil (hN12 false _ ⟨rfl, trivial⟩ trivial h)
   ·have h := bF h11 h
    refine LWP.seq_k fun N16 hN16 => ?_
    refine LWP.region (l := [_,_]) ?_
    refine LWo.int _ rfl rfl rfl (hn := ?_)
    refine LWo.assign (e_bool (a0.Kind == (4 : Int))) rfl (hn := ?_)
    refine LWo.nil (hN16 _ ?_)
    refine LWP.cond_split rfl (fun h17 => ?_) (fun h17 => ?_)
    ·have h := bT h17 h
     refine LWP.join (α := Bool) (fun z : Bool => [(4, (e_bool z))]) (fun z : Bool => []) (fun z : Bool => m_impl_Part_tells_j3  z) r (fun _ => by simp [hkeys]) ?_ ?_
     ·rintro t4 h
      replace h : m_impl_Part_tells_j3  t4 = some _ := h
      obtain rfl := Option.some.inj h
      refine LWP.ret (QG.mk (.inr rfl) (.cons (.tmp (x := (e_bool t4)) rfl) (.nil)) (RetOK.one0 (.pure rfl) (by decide)) rfl rfl)
     ·intro N18 hN18
      refine LWP.region (l := [_,_,_,_,_,_,_,_,_,_]) ?_
      refine LWo.fieldAddr _ u_impl_Part rfl s_int rfl rfl (hn := ?_)
      refine LWo.load1 (c := (e_int a0.N)) g_int rfl (hn := ?_)
      refine bk h fun x19 e19 h => ?_
      refine LWo.vcall rfl rfl (c_impl_between _ _ _ _ e19) (.same (.same (.same (.nil)))) (hn := ?_)
      refine LWo.move (e_bool x19) rfl (hn := ?_)
      refine LWo.byCases (t := 42) _ rfl (fun h20 => ?_) (fun h20 => ?_)
      ·have h := bT h20 h
       refine LWo.guardY (t := 42) rfl h20 rfl rfl ?_
       refine LWo.fieldAddr _ u_impl_Part rfl s_impl_Value rfl rfl (hn := ?_)
       refine LWo.guardY (t := 42) rfl h20 rfl rfl ?_
       refine LWo.loadN ((e_impl_Value a0.V)).cells g_impl_Value s_impl_Value rfl (Nat.le_of_ble_eq_true rfl) rfl (hn := ?_)
       refine LWo.guardY (t := 42) rfl h20 rfl rfl ?_
       refine LWo.build_impl_Value (parts := []) (⟨(0 : Int), (0 : Int), (⟨#[]⟩ : ByteArray)⟩ : S_impl_Value) rfl rfl rfl .refl (hn := ?_)
       refine LWo.guardY (t := 42) rfl h20 rfl rfl ?_
       refine LWo.eq_impl_Value _ _ rfl rfl (hn := ?_)
       refine LWo.pickTM (e_bool (decide (a0.V = (⟨(0 : Int), (0 : Int), (⟨#[]⟩ : ByteArray)⟩ : S_impl_Value)))) rfl h20 rfl (hn := ?_)
       refine LWo.assign (e_bool (decide (a0.V = (⟨(0 : Int), (0 : Int), (⟨#[]⟩ : ByteArray)⟩ : S_impl_Value)))) rfl (hn := ?_)
       refine LWo.nil (hN18 (decide (a0.V = (⟨(0 : Int), (0 : Int), (⟨#[]⟩ : ByteArray)⟩ : S_impl_Value))) _ ⟨rfl, trivial⟩ trivial h)
      ·have h := bF h20 h
       refine LWo.guardNU (t := 42) rfl h20 rfl rfl rfl rfl rfl ?_
       refine LWo.guardNU (t := 42) rfl h20 rfl rfl rfl rfl rfl ?_
       refine LWo.guardNU (t := 42) rfl h20 rfl rfl rfl rfl rfl ?_
       refine LWo.guardNU (t := 42) rfl h20 rfl rfl rfl rfl rfl ?_
       refine LWo.pickFM (e_bool false) rfl h20 rfl (hn := ?_)
       refine LWo.assign (e_bool false) rfl (hn := ?_)
       refine LWo.nil (hN18 false _ ⟨rfl, trivial⟩ trivial h)
    ·have h := bF h17 h
     refine LWP.join (α := S_impl_Part × Bool) (fun z : S_impl_Part × Bool => [(2, (.fp (e_impl_Part z.1).cells)), (48, (e_bool z.2))]) (fun z : S_impl_Part × Bool => []) (fun z : S_impl_Part × Bool => m_impl_Part_tells_j4  z.1 z.2) r (fun _ => by simp [hkeys]) ?_ ?_
     ·rintro ⟨t2, t48⟩ h
      replace h : m_impl_Part_tells_j4  t2 t48 = some _ := h
      refine LWP.cond_split rfl (fun h30 => ?_) (fun h30 => ?_)
      ·have h := bT h30 h
       refine LWP.join (α := Bool) (fun z : Bool => [(4, (e_bool z))]) (fun z : Bool => []) (fun z : Bool => m_impl_Part_tells_j5  z) r (fun _ => by simp [hkeys]) ?_ ?_
       ·rintro t4 h
        replace h : m_impl_Part_tells_j5  t4 = some _ := h
        obtain rfl := Option.some.inj h
        refine LWP.ret (QG.mk (.inr rfl) (.cons (.tmp (x := (e_bool t4)) rfl) (.nil)) (RetOK.one0 (.pure rfl) (by decide)) rfl rfl)
       ·intro N31 hN31
        refine LWP.region (l := [_,_,_,_,_,_,_,_,_,_]) ?_
        refine LWo.fieldAddr _ u_impl_Part rfl s_int rfl rfl (hn := ?_)
        refine LWo.load1 (c := (e_int t2.N)) g_int rfl (hn := ?_)
        refine LWo.int _ rfl rfl rfl (hn := ?_)
        refine LWo.move (e_bool (t2.N == (0 : Int))) rfl (hn := ?_)
        refine LWo.byCases (t := 57) _ rfl (fun h32 => ?_) (fun h32 => ?_)
        ·have h := bT h32 h
         refine LWo.guardY (t := 57) rfl h32 rfl rfl ?_
         refine LWo.fieldAddr _ u_impl_Part rfl s_impl_Value rfl rfl (hn := ?_)
         refine LWo.guardY (t := 57) rfl h32 rfl rfl ?_
         refine LWo.loadN ((e_impl_Value t2.V)).cells g_impl_Value s_impl_Value rfl (Nat.le_of_ble_eq_true rfl) rfl (hn := ?_)
         refine LWo.guardY (t := 57) rfl h32 rfl rfl ?_
         refine LWo.build_impl_Value (parts := []) (⟨(0 : Int), (0 : Int), (⟨#[]⟩ : ByteArray)⟩ : S_impl_Value) rfl rfl rfl .refl (hn := ?_)
         refine LWo.guardY (t := 57) rfl h32 rfl rfl ?_
         refine LWo.eq_impl_Value _ _ rfl rfl (hn := ?_)
         refine LWo.pickTM (e_bool (decide (t2.V = (⟨(0 : Int), (0 : Int), (⟨#[]⟩ : ByteArray)⟩ : S_impl_Value)))) rfl h32 rfl (hn := ?_)
         refine LWo.assign (e_bool (decide (t2.V = (⟨(0 : Int), (0 : Int), (⟨#[]⟩ : ByteArray)⟩ : S_impl_Value)))) rfl (hn := ?_)
         refine LWo.nil (hN31 (decide (t2.V = (⟨(0 : Int), (0 : Int), (⟨#[]⟩ : ByteArray)⟩ : S_impl_Value))) _ ⟨rfl, trivial⟩ trivial h)
        ·have h := bF h32 h
         refine LWo.guardNU (t := 57) rfl h32 rfl rfl rfl rfl rfl ?_
         refine LWo.guardNU (t := 57) rfl h32 rfl rfl rfl rfl rfl ?_
         refine LWo.guardNU (t := 57) rfl h32 rfl rfl rfl rfl rfl ?_
         refine LWo.guardNU (t := 57) rfl h32 rfl rfl rfl rfl rfl ?_
         refine LWo.pickFM (e_bool false) rfl h32 rfl (hn := ?_)
         refine LWo.assign (e_bool false) rfl (hn := ?_)
         refine LWo.nil (hN31 false _ ⟨rfl, trivial⟩ trivial h)
      ·have h := bF h30 h
       refine LWP.skip (hN2 _ ?_)
       refine LWP.seq_k fun N33 hN33 => ?_
       refine LWP.region (l := [_]) ?_
       refine LWo.assign (e_bool false) rfl (hn := ?_)
       refine LWo.nil (hN33 _ ?_)
       obtain rfl := Option.some.inj h
       refine LWP.ret (QG.mk (.inr rfl) (.cons (.tmp (x := (e_bool false)) rfl) (.nil)) (RetOK.one0 (.pure rfl) (by decide)) rfl rfl)
     ·intro N21 hN21
      refine LWP.seq_k fun N22 hN22 => ?_
      refine LWP.region (l := [_,_]) ?_
      refine LWo.int _ rfl rfl rfl (hn := ?_)
      refine LWo.assign (e_bool (a0.Kind == (3 : Int))) rfl (hn := ?_)
      refine LWo.nil (hN22 _ ?_)
      refine LWP.cond_split rfl (fun h23 => ?_) (fun h23 => ?_)
      ·have h := bT h23 h
       refine LWP.skip (hN21 (a0, (a0.Kind == (3 : Int))) _ ⟨rfl, rfl, trivial⟩ trivial h)
      ·have h := bF h23 h
       refine LWP.seq_k fun N24 hN24 => ?_
       refine LWP.region (l := [_,_]) ?_
       refine LWo.int _ rfl rfl rfl (hn := ?_)
       refine LWo.assign (e_bool (a0.Kind == (5 : Int))) rfl (hn := ?_)
       refine LWo.nil (hN24 _ ?_)
       refine LWP.cond_split rfl (fun h25 => ?_) (fun h25 => ?_)
       ·have h := bT h25 h
        refine LWP.skip (hN21 (a0, (a0.Kind == (5 : Int))) _ ⟨rfl, rfl, trivial⟩ trivial h)
       ·have h := bF h25 h
        refine LWP.seq_k fun N26 hN26 => ?_
        refine LWP.region (l := [_,_]) ?_
        refine LWo.int _ rfl rfl rfl (hn := ?_)
        refine LWo.assign (e_bool (a0.Kind == (6 : Int))) rfl (hn := ?_)
        refine LWo.nil (hN26 _ ?_)
        refine LWP.cond_split rfl (fun h27 => ?_) (fun h27 => ?_)
        ·have h := bT h27 h
         refine LWP.skip (hN21 (a0, (a0.Kind == (6 : Int))) _ ⟨rfl, rfl, trivial⟩ trivial h)
        ·have h := bF h27 h
         refine LWP.seq_k fun N28 hN28 => ?_
         refine LWP.region (l := [_,_]) ?_
         refine LWo.int _ rfl rfl rfl (hn := ?_)
         refine LWo.assign (e_bool (a0.Kind == (7 : Int))) rfl (hn := ?_)
         refine LWo.nil (hN28 _ ?_)
         refine LWP.cond_split rfl (fun h29 => ?_) (fun h29 => ?_)
         ·have h := bT h29 h
          refine LWP.skip (hN21 (a0, (a0.Kind == (7 : Int))) _ ⟨rfl, rfl, trivial⟩ trivial h)
         ·have h := bF h29 h
          refine LWP.region (l := [_,_]) ?_
          refine LWo.int _ rfl rfl rfl (hn := ?_)
          refine LWo.assign (e_bool (a0.Kind == (8 : Int))) rfl (hn := ?_)
          refine LWo.nil (hN21 (a0, (a0.Kind == (8 : Int))) _ ⟨rfl, rfl, trivial⟩ trivial h)

def m_impl_Part_kind_1_1 (a0 : Int) (a1 : Int) : Option Bool :=
  some (a0 != a1)
theorem c_impl_Part_kind_1_1 (a0 : Int) (a1 : Int) (r : Bool) (h : m_impl_Part_kind_1_1 a0 a1 = some r) : Ret Try.prog f_impl_Part_kind_1_1 [e_int a0, .fp (e_int a1).cells] (e_bool r) := by
  refine Does.goG [] F_impl_Part_kind_1_1 rfl e_impl_Part_kind_1_1 n_impl_Part_kind_1_1 rfl (rvs := [.tmp 3]) rfl rfl ?_
  intro w0 ok0 lent ρ0
  refine LWP.seq_k fun N1 hN1 => ?_
  refine LWP.region (l := [_]) ?_
  refine LWo.assign (e_bool false) rfl (hn := ?_)
  refine LWo.nil (hN1 _ ?_)
  refine LWP.seq_k fun N2 hN2 => ?_
  refine LWP.region (l := [_,_,_,_]) ?_
  refine LWo.move (e_int a0) rfl (hn := ?_)
  refine LWo.load1 (c := (e_int a1)) g_int rfl (hn := ?_)
  refine LWo.int _ rfl rfl rfl (hn := ?_)
  refine LWo.assign (e_bool (a0 != a1)) rfl (hn := ?_)
  refine LWo.nil (hN2 _ ?_)
  obtain rfl := Option.some.inj h
  refine LWP.ret (QG.mk (.inr rfl) (.cons (.tmp (x := (e_bool (a0 != a1))) rfl) (.nil)) (RetOK.one0 (.pure rfl) (by decide)) rfl rfl)

def m_impl_Part_kind_1 (a0 : Int) (a1 : (List Int)) : Option Bool :=
  (m_slices_ContainsFunc_Lint_int a1 (fun b0_ => m_impl_Part_kind_1_1 b0_ a0)).bind fun x3 =>
  some (!x3)
theorem c_impl_Part_kind_1 (a0 : Int) (a1 : (List Int)) (r : Bool) (h : m_impl_Part_kind_1 a0 a1 = some r) : Ret Try.prog f_impl_Part_kind_1 [e_int a0, .fp (e_Lint a1).cells] (e_bool r) := by
  refine Does.goG [] F_impl_Part_kind_1 rfl e_impl_Part_kind_1 n_impl_Part_kind_1 rfl (rvs := [.tmp 3]) rfl rfl ?_
  intro w0 ok0 lent ρ0
  refine LWP.seq_k fun N1 hN1 => ?_
  refine LWP.region (l := [_,_]) ?_
  refine LWo.boxF (e_int a0) rfl rfl rfl (hn := ?_)
  refine LWo.assign (e_bool false) rfl (hn := ?_)
  refine LWo.nil (hN1 _ ?_)
  refine LWP.seq_k fun N2 hN2 => ?_
  refine LWP.region (l := [_,_,_,_,_]) ?_
  refine LWo.load1 (c := (e_Lint a1)) g_Lint rfl (hn := ?_)
  refine LWo.makeFuncM [(.fp (e_int a0).cells)] rfl rfl (hn := ?_)
  refine bk h fun x3 e3 h => ?_
  refine LWo.vcall rfl rfl (c_slices_ContainsFunc_Lint_int _ _ f_impl_Part_kind_1_1 [(.fp (e_int a0).cells)] (fun _ => rfl) (fun b0_ v hv => c_impl_Part_kind_1_1 b0_ a0 v hv) _ e3) (.same (.same (.nil))) (hn := ?_)
  refine LWo.not rfl (hn := ?_)
  refine LWo.assign (e_bool (!x3)) rfl (hn := ?_)
  refine LWo.nil (hN2 _ ?_)
  obtain rfl := Option.some.inj h
  refine LWP.ret (QG.mk (.inr rfl) (.cons (.tmp (x := (e_bool (!x3))) rfl) (.nil)) (RetOK.one0 (.pure rfl) (by decide)) rfl rfl)
end Go.Proofs.Ytgepipglchpabaa
