/- Mirrors of functions, and that the functions return what the mirrors say. -/
import Derived.Test.YtkgmomocjkmipaaXW1
set_option linter.unusedVariables false
set_option linter.unusedSimpArgs false
set_option linter.unnecessarySimpa false
namespace Go.Proofs.Ytkgmomocjkmipaa
open Go.Proofs Go.Lift Go.RowKit
def m_slices_IndexFunc_LLimpl_Value_Limpl_Value_j1 (p1 : (List S_impl_Value) → Option Bool)  : Option Int :=
  some (-1 : Int)
def m_slices_IndexFunc_LLimpl_Value_Limpl_Value_l1 (p1 : (List S_impl_Value) → Option Bool) : Nat → (List (List S_impl_Value)) → Int → Int → Option Int
  | 0, _, _, _ => none
  | n1 + 1, t0, t7, t8 =>
    bif decide (t8 < t7) then ((at? t0 t8).bind fun x12 =>
    (p1 x12).bind fun x13 =>
    bif x13 then (some t8)
    else ((ckI (t8 + (1 : Int))).bind fun x16 =>
    (m_slices_IndexFunc_LLimpl_Value_Limpl_Value_l1 p1 n1) t0 t7 x16))
    else (m_slices_IndexFunc_LLimpl_Value_Limpl_Value_j1 p1 )
def m_slices_IndexFunc_LLimpl_Value_Limpl_Value (a0 : (List (List S_impl_Value))) (p1 : (List S_impl_Value) → Option Bool) : Option Int :=
  m_slices_IndexFunc_LLimpl_Value_Limpl_Value_l1 p1 (((a0.length : Int) - (0 : Int)).toNat + 1) a0 (a0.length : Int) (0 : Int)
theorem c_slices_IndexFunc_LLimpl_Value_Limpl_Value (a0 : (List (List S_impl_Value))) (p1 : (List S_impl_Value) → Option Bool) (f1 : FuncId) (q1 : List LV) (hq1 : ∀ k, LV.at?.atL k q1 = false) (hf1 : ∀ a0 v, p1 a0 = some v → Ret Try.prog f1 (e_Limpl_Value a0 :: q1) (e_bool v)) (r : Int) (h : m_slices_IndexFunc_LLimpl_Value_Limpl_Value a0 p1 = some r) : Ret Try.prog f_slices_IndexFunc_LLimpl_Value_Limpl_Value [e_LLimpl_Value a0, .clo f1 q1] (e_int r) := by
  refine Does.goG [] F_slices_IndexFunc_LLimpl_Value_Limpl_Value rfl e_slices_IndexFunc_LLimpl_Value_Limpl_Value n_slices_IndexFunc_LLimpl_Value_Limpl_Value rfl (rvs := [.tmp 4]) rfl rfl ?_
  intro w0 ok0 lent ρ0
  refine LWP.seq_k fun N1 hN1 => ?_
  refine LWP.region (l := [_]) ?_
  refine LWo.assign (e_int (0 : Int)) rfl (hn := ?_)
  refine LWo.nil (hN1 _ ?_)
  refine LWP.join (α := Unit) (fun z : Unit => []) (fun z : Unit => []) (fun z : Unit => m_slices_IndexFunc_LLimpl_Value_Limpl_Value_j1 p1 ) r (fun _ => by simp [hkeys]) ?_ ?_
  ·rintro _ h
   replace h : m_slices_IndexFunc_LLimpl_Value_Limpl_Value_j1 p1  = some _ := h
   refine LWP.seq_k fun N17 hN17 => ?_
   refine LWP.region (l := [_]) ?_
   refine LWo.assign (e_int (-1 : Int)) rfl (hn := ?_)
   refine LWo.nil (hN17 _ ?_)
   obtain rfl := Option.some.inj h
   refine LWP.ret (QG.mk (.inr rfl) (.cons (.tmp (x := (e_int (-1 : Int))) rfl) (.nil)) (RetOK.one0 (.pure rfl) (by decide)) rfl rfl)
  ·intro N2 hN2
   refine LWP.seq_k fun N3 hN3 => ?_
   refine LWP.region (l := [_,_,_]) ?_
   refine LWo.move (e_LLimpl_Value a0) rfl (hn := ?_)
   refine LWo.lenM (f := e_Limpl_Value) (l := a0) u_LLimpl_Value rfl (hn := ?_)
   refine LWo.move (e_int (0 : Int)) rfl (hn := ?_)
   refine LWo.nil (hN3 _ ?_)
   refine LWP.block ?_
   refine LWP.loopM (α := (List (List S_impl_Value)) × Int × Int) (fun z : (List (List S_impl_Value)) × Int × Int => [(0, (e_LLimpl_Value z.1)), (1, (.clo f1 q1)), (7, (e_int z.2.1)), (8, (e_int z.2.2))]) (fun z : (List (List S_impl_Value)) × Int × Int => []) (fun n1 (z : (List (List S_impl_Value)) × Int × Int) => m_slices_IndexFunc_LLimpl_Value_Limpl_Value_l1 p1 n1 z.1 z.2.1 z.2.2) r _ (a0, (a0.length : Int), (0 : Int)) h (fun _ => rfl) (fun _ => by simp [hkeys]) ⟨rfl, rfl, rfl, rfl, trivial⟩ trivial ?_
   rintro n1 ⟨t0, t7, t8⟩ h N4 hN4
   replace h : m_slices_IndexFunc_LLimpl_Value_Limpl_Value_l1 p1 (n1 + 1) t0 t7 t8 = some _ := h
   refine LWP.seq_k fun N6 hN6 => ?_
   refine LWP.region (l := [_]) ?_
   refine LWo.int _ rfl rfl rfl (hn := ?_)
   refine LWo.nil (hN6 _ ?_)
   refine LWP.seq_k fun N7 hN7 => ?_
   refine LWP.cond_split rfl (fun h8 => ?_) (fun h8 => ?_)
   ·have h := bT h8 h
    refine LWP.skip (hN7 _ ?_)
    refine LWP.seq_k fun N9 hN9 => ?_
    refine LWP.block ?_
    refine LWP.seq_k fun N10 hN10 => ?_
    refine LWP.region (l := [_,_]) ?_
    refine LWo.move (e_int t8) rfl (hn := ?_)
    refine LWo.assign (e_int t8) rfl (hn := ?_)
    refine LWo.nil (hN10 _ ?_)
    refine LWP.seq_k fun N11 hN11 => ?_
    refine LWP.region (l := [_,_,_,_,_,_]) ?_
    refine LWo.move (.clo f1 q1) rfl (hn := ?_)
    refine LWo.move (e_LLimpl_Value t0) rfl (hn := ?_)
    refine LWo.move (e_int t8) rfl (hn := ?_)
    refine bk h fun x12 e12 h => ?_
    refine LWo.indexM (f := e_Limpl_Value) e12 u_LLimpl_Value s_Limpl_Value rfl rfl (hn := ?_)
    refine LWo.load1 (c := (e_Limpl_Value x12)) g_Limpl_Value rfl (hn := ?_)
    refine bk h fun x13 e13 h => ?_
    refine LWo.vcall rfl rfl (hf1 _ _ e13) .refl (hn := ?_)
    refine LWo.nil (hN11 _ ?_)
    refine LWP.cond_split rfl (fun h14 => ?_) (fun h14 => ?_)
    ·have h := bT h14 h
     refine LWP.seq_k fun N15 hN15 => ?_
     refine LWP.region (l := [_,_]) ?_
     refine LWo.move (e_int t8) rfl (hn := ?_)
     refine LWo.assign (e_int t8) rfl (hn := ?_)
     refine LWo.nil (hN15 _ ?_)
     obtain rfl := Option.some.inj h
     refine LWP.ret (QG.mk (.inr rfl) (.cons (.tmp (x := (e_int t8)) rfl) (.nil)) (RetOK.one0 (.pure rfl) (by decide)) rfl rfl)
    ·have h := bF h14 h
     refine LWP.skip (hN9 _ ?_)
     refine LWP.region (l := [_,_]) ?_
     refine bk h fun x16 e16 h => ?_
     refine LWo.int _ rfl rfl (add_ck e16) (hn := ?_)
     refine LWo.move (e_int x16) rfl (hn := ?_)
     refine LWo.nil (hN4 (t0, t7, x16) _ ⟨rfl, rfl, rfl, rfl, trivial⟩ trivial h)
   ·have h := bF h8 h
    refine LWP.exit (hN2 () _ trivial trivial h)

def m_slices_ContainsFunc_LLimpl_Value_Limpl_Value (a0 : (List (List S_impl_Value))) (p1 : (List S_impl_Value) → Option Bool) : Option Bool :=
  (m_slices_IndexFunc_LLimpl_Value_Limpl_Value a0 p1).bind fun x3 =>
  some (decide (x3 ≥ (0 : Int)))
theorem c_slices_ContainsFunc_LLimpl_Value_Limpl_Value (a0 : (List (List S_impl_Value))) (p1 : (List S_impl_Value) → Option Bool) (f1 : FuncId) (q1 : List LV) (hq1 : ∀ k, LV.at?.atL k q1 = false) (hf1 : ∀ a0 v, p1 a0 = some v → Ret Try.prog f1 (e_Limpl_Value a0 :: q1) (e_bool v)) (r : Bool) (h : m_slices_ContainsFunc_LLimpl_Value_Limpl_Value a0 p1 = some r) : Ret Try.prog f_slices_ContainsFunc_LLimpl_Value_Limpl_Value [e_LLimpl_Value a0, .clo f1 q1] (e_bool r) := by
  refine Does.goG [] F_slices_ContainsFunc_LLimpl_Value_Limpl_Value rfl e_slices_ContainsFunc_LLimpl_Value_Limpl_Value n_slices_ContainsFunc_LLimpl_Value_Limpl_Value rfl (rvs := [.tmp 4]) rfl rfl ?_
  intro w0 ok0 lent ρ0
  refine LWP.seq_k fun N1 hN1 => ?_
  refine LWP.region (l := [_]) ?_
  refine LWo.assign (e_bool false) rfl (hn := ?_)
  refine LWo.nil (hN1 _ ?_)
  refine LWP.seq_k fun N2 hN2 => ?_
  refine LWP.region (l := [_,_,_,_,_]) ?_
  refine LWo.move (e_LLimpl_Value a0) rfl (hn := ?_)
  refine LWo.move (.clo f1 q1) rfl (hn := ?_)
  refine bk h fun x3 e3 h => ?_
  refine LWo.vcall rfl rfl (c_slices_IndexFunc_LLimpl_Value_Limpl_Value _ _ f1 q1 hq1 hf1 _ e3) (.same (.same (.nil))) (hn := ?_)
  refine LWo.int _ rfl rfl rfl (hn := ?_)
  refine LWo.assign (e_bool (decide (x3 ≥ (0 : Int)))) rfl (hn := ?_)
  refine LWo.nil (hN2 _ ?_)
  obtain rfl := Option.some.inj h
  refine LWP.ret (QG.mk (.inr rfl) (.cons (.tmp (x := (e_bool (decide (x3 ≥ (0 : Int))))) rfl) (.nil)) (RetOK.one0 (.pure rfl) (by decide)) rfl rfl)

def m_slices_IndexFunc_Limpl_Value_impl_Value_j1 (p1 : S_impl_Value → Option Bool)  : Option Int :=
  some (-1 : Int)
def m_slices_IndexFunc_Limpl_Value_impl_Value_l1 (p1 : S_impl_Value → Option Bool) : Nat → (List S_impl_Value) → Int → Int → Option Int
  | 0, _, _, _ => none
  | n1 + 1, t0, t7, t8 =>
    bif decide (t8 < t7) then ((at? t0 t8).bind fun x12 =>
    (p1 x12).bind fun x13 =>
    bif x13 then (some t8)
    else ((ckI (t8 + (1 : Int))).bind fun x16 =>
    (m_slices_IndexFunc_Limpl_Value_impl_Value_l1 p1 n1) t0 t7 x16))
    else (m_slices_IndexFunc_Limpl_Value_impl_Value_j1 p1 )
def m_slices_IndexFunc_Limpl_Value_impl_Value (a0 : (List S_impl_Value)) (p1 : S_impl_Value → Option Bool) : Option Int :=
  m_slices_IndexFunc_Limpl_Value_impl_Value_l1 p1 (((a0.length : Int) - (0 : Int)).toNat + 1) a0 (a0.length : Int) (0 : Int)
theorem c_slices_IndexFunc_Limpl_Value_impl_Value (a0 : (List S_impl_Value)) (p1 : S_impl_Value → Option Bool) (f1 : FuncId) (q1 : List LV) (hq1 : ∀ k, LV.at?.atL k q1 = false) (hf1 : ∀ a0 v, p1 a0 = some v → Ret Try.prog f1 (e_impl_Value a0 :: q1) (e_bool v)) (r : Int) (h : m_slices_IndexFunc_Limpl_Value_impl_Value a0 p1 = some r) : Ret Try.prog f_slices_IndexFunc_Limpl_Value_impl_Value [e_Limpl_Value a0, .clo f1 q1] (e_int r) := by
  refine Does.goG [] F_slices_IndexFunc_Limpl_Value_impl_Value rfl e_slices_IndexFunc_Limpl_Value_impl_Value n_slices_IndexFunc_Limpl_Value_impl_Value rfl (rvs := [.tmp 4]) rfl rfl ?_
  intro w0 ok0 lent ρ0
  refine LWP.seq_k fun N1 hN1 => ?_
  refine LWP.region (l := [_]) ?_
  refine LWo.assign (e_int (0 : Int)) rfl (hn := ?_)
  refine LWo.nil (hN1 _ ?_)
  refine LWP.join (α := Unit) (fun z : Unit => []) (fun z : Unit => []) (fun z : Unit => m_slices_IndexFunc_Limpl_Value_impl_Value_j1 p1 ) r (fun _ => by simp [hkeys]) ?_ ?_
  ·rintro _ h
   replace h : m_slices_IndexFunc_Limpl_Value_impl_Value_j1 p1  = some _ := h
   refine LWP.seq_k fun N17 hN17 => ?_
   refine LWP.region (l := [_]) ?_
   refine LWo.assign (e_int (-1 : Int)) rfl (hn := ?_)
   refine LWo.nil (hN17 _ ?_)
   obtain rfl := Option.some.inj h
   refine LWP.ret (QG.mk (.inr rfl) (.cons (.tmp (x := (e_int (-1 : Int))) rfl) (.nil)) (RetOK.one0 (.pure rfl) (by decide)) rfl rfl)
  ·intro N2 hN2
   refine LWP.seq_k fun N3 hN3 => ?_
   refine LWP.region (l := [_,_,_]) ?_
   refine LWo.move (e_Limpl_Value a0) rfl (hn := ?_)
   refine LWo.lenM (f := e_impl_Value) (l := a0) u_Limpl_Value rfl (hn := ?_)
   refine LWo.move (e_int (0 : Int)) rfl (hn := ?_)
   refine LWo.nil (hN3 _ ?_)
   refine LWP.block ?_
   refine LWP.loopM (α := (List S_impl_Value) × Int × Int) (fun z : (List S_impl_Value) × Int × Int => [(0, (e_Limpl_Value z.1)), (1, (.clo f1 q1)), (7, (e_int z.2.1)), (8, (e_int z.2.2))]) (fun z : (List S_impl_Value) × Int × Int => []) (fun n1 (z : (List S_impl_Value) × Int × Int) => m_slices_IndexFunc_Limpl_Value_impl_Value_l1 p1 n1 z.1 z.2.1 z.2.2) r _ (a0, (a0.length : Int), (0 : Int)) h (fun _ => rfl) (fun _ => by simp [hkeys]) ⟨rfl, rfl, rfl, rfl, trivial⟩ trivial ?_
   rintro n1 ⟨t0, t7, t8⟩ h N4 hN4
   replace h : m_slices_IndexFunc_Limpl_Value_impl_Value_l1 p1 (n1 + 1) t0 t7 t8 = some _ := h
   refine LWP.seq_k fun N6 hN6 => ?_
   refine LWP.region (l := [_]) ?_
   refine LWo.int _ rfl rfl rfl (hn := ?_)
   refine LWo.nil (hN6 _ ?_)
   refine LWP.seq_k fun N7 hN7 => ?_
   refine LWP.cond_split rfl (fun h8 => ?_) (fun h8 => ?_)
   ·have h := bT h8 h
    refine LWP.skip (hN7 _ ?_)
    refine LWP.seq_k fun N9 hN9 => ?_
    refine LWP.block ?_
    refine LWP.seq_k fun N10 hN10 => ?_
    refine LWP.region (l := [_,_]) ?_
    refine LWo.move (e_int t8) rfl (hn := ?_)
    refine LWo.assign (e_int t8) rfl (hn := ?_)
    refine LWo.nil (hN10 _ ?_)
    refine LWP.seq_k fun N11 hN11 => ?_
    refine LWP.region (l := [_,_,_,_,_,_]) ?_
    refine LWo.move (.clo f1 q1) rfl (hn := ?_)
    refine LWo.move (e_Limpl_Value t0) rfl (hn := ?_)
    refine LWo.move (e_int t8) rfl (hn := ?_)
    refine bk h fun x12 e12 h => ?_
    refine LWo.indexM (f := e_impl_Value) e12 u_Limpl_Value s_impl_Value rfl rfl (hn := ?_)
    refine LWo.loadN ((e_impl_Value x12)).cells g_impl_Value s_impl_Value rfl (Nat.le_of_ble_eq_true rfl) rfl (hn := ?_)
    refine bk h fun x13 e13 h => ?_
    refine LWo.vcall rfl rfl (hf1 _ _ e13) .refl (hn := ?_)
    refine LWo.nil (hN11 _ ?_)
    refine LWP.cond_split rfl (fun h14 => ?_) (fun h14 => ?_)
    ·have h := bT h14 h
     refine LWP.seq_k fun N15 hN15 => ?_
     refine LWP.region (l := [_,_]) ?_
     refine LWo.move (e_int t8) rfl (hn := ?_)
     refine LWo.assign (e_int t8) rfl (hn := ?_)
     refine LWo.nil (hN15 _ ?_)
     obtain rfl := Option.some.inj h
     refine LWP.ret (QG.mk (.inr rfl) (.cons (.tmp (x := (e_int t8)) rfl) (.nil)) (RetOK.one0 (.pure rfl) (by decide)) rfl rfl)
    ·have h := bF h14 h
     refine LWP.skip (hN9 _ ?_)
     refine LWP.region (l := [_,_]) ?_
     refine bk h fun x16 e16 h => ?_
     refine LWo.int _ rfl rfl (add_ck e16) (hn := ?_)
     refine LWo.move (e_int x16) rfl (hn := ?_)
     refine LWo.nil (hN4 (t0, t7, x16) _ ⟨rfl, rfl, rfl, rfl, trivial⟩ trivial h)
   ·have h := bF h8 h
    refine LWP.exit (hN2 () _ trivial trivial h)

def m_slices_ContainsFunc_Limpl_Value_impl_Value (a0 : (List S_impl_Value)) (p1 : S_impl_Value → Option Bool) : Option Bool :=
  (m_slices_IndexFunc_Limpl_Value_impl_Value a0 p1).bind fun x3 =>
  some (decide (x3 ≥ (0 : Int)))
theorem c_slices_ContainsFunc_Limpl_Value_impl_Value (a0 : (List S_impl_Value)) (p1 : S_impl_Value → Option Bool) (f1 : FuncId) (q1 : List LV) (hq1 : ∀ k, LV.at?.atL k q1 = false) (hf1 : ∀ a0 v, p1 a0 = some v → Ret Try.prog f1 (e_impl_Value a0 :: q1) (e_bool v)) (r : Bool) (h : m_slices_ContainsFunc_Limpl_Value_impl_Value a0 p1 = some r) : Ret Try.prog f_slices_ContainsFunc_Limpl_Value_impl_Value [e_Limpl_Value a0, .clo f1 q1] (e_bool r) := by
  refine Does.goG [] F_slices_ContainsFunc_Limpl_Value_impl_Value rfl e_slices_ContainsFunc_Limpl_Value_impl_Value n_slices_ContainsFunc_Limpl_Value_impl_Value rfl (rvs := [.tmp 4]) rfl rfl ?_
  intro w0 ok0 lent ρ0
  refine LWP.seq_k fun N1 hN1 => ?_
  refine LWP.region (l := [_]) ?_
  refine LWo.assign (e_bool false) rfl (hn := ?_)
  refine LWo.nil (hN1 _ ?_)
  refine LWP.seq_k fun N2 hN2 => ?_
  refine LWP.region (l := [_,_,_,_,_]) ?_
  refine LWo.move (e_Limpl_Value a0) rfl (hn := ?_)
  refine LWo.move (.clo f1 q1) rfl (hn := ?_)
  refine bk h fun x3 e3 h => ?_
  refine LWo.vcall rfl rfl (c_slices_IndexFunc_Limpl_Value_impl_Value _ _ f1 q1 hq1 hf1 _ e3) (.same (.same (.nil))) (hn := ?_)
  refine LWo.int _ rfl rfl rfl (hn := ?_)
  refine LWo.assign (e_bool (decide (x3 ≥ (0 : Int)))) rfl (hn := ?_)
  refine LWo.nil (hN2 _ ?_)
  obtain rfl := Option.some.inj h
  refine LWP.ret (QG.mk (.inr rfl) (.cons (.tmp (x := (e_bool (decide (x3 ≥ (0 : Int))))) rfl) (.nil)) (RetOK.one0 (.pure rfl) (by decide)) rfl rfl)

def m_impl_between_j1 (t6 : Bool) : Option Bool :=
  some t6
def m_impl_between (a0 : Int) (a1 : Int) (a2 : Int) : Option Bool :=
  bif decide (a0 ≥ a1) then (m_impl_between_j1  (decide (a0 ≤ a2)))
  else (m_impl_between_j1  false)
theorem c_impl_between (a0 : Int) (a1 : Int) (a2 : Int) (r : Bool) (h : m_impl_between a0 a1 a2 = some r) : Ret Try.prog f_impl_between [e_int a0, e_int a1, e_int a2] (e_bool r) := by
  refine Does.goG [] F_impl_between rfl e_impl_between n_impl_between rfl (rvs := [.tmp 6]) rfl rfl ?_
  intro w0 ok0 lent ρ0
  refine LWP.seq_k fun N1 hN1 => ?_
  refine LWP.region (l := [_]) ?_
  refine LWo.assign (e_bool false) rfl (hn := ?_)
  refine LWo.nil (hN1 _ ?_)
  refine LWP.join (α := Bool) (fun z : Bool => [(6, (e_bool z))]) (fun z : Bool => []) (fun z : Bool => m_impl_between_j1  z) r (fun _ => by simp [hkeys]) ?_ ?_
  ·rintro t6 h
   replace h : m_impl_between_j1  t6 = some _ := h
   obtain rfl := Option.some.inj h
   refine LWP.ret (QG.mk (.inr rfl) (.cons (.tmp (x := (e_bool t6)) rfl) (.nil)) (RetOK.one0 (.pure rfl) (by decide)) rfl rfl)
  ·intro N2 hN2
   refine LWP.region (l := [_,_,_,_,_,_,_,_,_]) ?_
   refine LWo.move (e_int a0) rfl (hn := ?_)
   refine LWo.move (e_int a1) rfl (hn := ?_)
   refine LWo.int _ rfl rfl rfl (hn := ?_)
   refine LWo.move (e_bool (decide (a0 ≥ a1))) rfl (hn := ?_)
   refine LWo.byCases (t := 10) _ rfl (fun h3 => ?_) (fun h3 => ?_)
   ·have h := bT h3 h
    refine LWo.guardY (t := 10) rfl h3 rfl rfl ?_
    refine LWo.move (e_int a0) rfl (hn := ?_)
    refine LWo.guardY (t := 10) rfl h3 rfl rfl ?_
    refine LWo.move (e_int a2) rfl (hn := ?_)
    refine LWo.guardY (t := 10) rfl h3 rfl rfl ?_
    refine LWo.int _ rfl rfl rfl (hn := ?_)
    refine LWo.pickTM (e_bool (decide (a0 ≤ a2))) rfl h3 rfl (hn := ?_)
    refine LWo.assign (e_bool (decide (a0 ≤ a2))) rfl (hn := ?_)
    refine LWo.nil (hN2 (decide (a0 ≤ a2)) _ ⟨rfl, trivial⟩ trivial h)
   ·have h := bF h3 h
    refine LWo.guardNU (t := 10) rfl h3 rfl rfl rfl rfl rfl ?_
    refine LWo.guardNU (t := 10) rfl h3 rfl rfl rfl rfl rfl ?_
    refine LWo.guardNU (t := 10) rfl h3 rfl rfl rfl rfl rfl ?_
    refine LWo.pickFM (e_bool false) rfl h3 rfl (hn := ?_)
    refine LWo.assign (e_bool false) rfl (hn := ?_)
    refine LWo.nil (hN2 false _ ⟨rfl, trivial⟩ trivial h)

def m_impl_letters_j1  : Option Bool :=
  some true
def m_impl_letters_l1 : Nat → (List UInt8) → Int → Int → Option Bool
  | 0, _, _, _ => none
  | n1 + 1, t6, t7, t8 =>
    bif decide (t8 < t7) then ((at? t6 t8).bind fun x12 =>
    (m_impl_between (x12.toNat : Int) (97 : Int) (122 : Int)).bind fun x14 =>
    bif (!x14) then (some false)
    else ((ckI (t8 + (1 : Int))).bind fun x17 =>
    (m_impl_letters_l1  n1) t6 t7 x17))
    else (m_impl_letters_j1  )
def m_impl_letters (a0 : ByteArray) : Option Bool :=
  (sBytes? a0).bind fun x4 =>
  m_impl_letters_l1  (((x4.length : Int) - (0 : Int)).toNat + 1) x4 (x4.length : Int) (0 : Int)
theorem c_impl_letters (a0 : ByteArray) (r : Bool) (h : m_impl_letters a0 = some r) : Ret Try.prog f_impl_letters [e_string a0] (e_bool r) := by
  refine Does.goG [] F_impl_letters rfl e_impl_letters n_impl_letters rfl (rvs := [.tmp 2]) rfl rfl ?_
  intro w0 ok0 lent ρ0
  refine LWP.seq_k fun N1 hN1 => ?_
  refine LWP.region (l := [_]) ?_
  refine LWo.assign (e_bool false) rfl (hn := ?_)
  refine LWo.nil (hN1 _ ?_)
  refine LWP.join (α := Unit) (fun z : Unit => []) (fun z : Unit => []) (fun z : Unit => m_impl_letters_j1  ) r (fun _ => by simp [hkeys]) ?_ ?_
  ·rintro _ h
   replace h : m_impl_letters_j1   = some _ := h
   refine LWP.seq_k fun N18 hN18 => ?_
   refine LWP.region (l := [_]) ?_
   refine LWo.assign (e_bool true) rfl (hn := ?_)
   refine LWo.nil (hN18 _ ?_)
   obtain rfl := Option.some.inj h
   refine LWP.ret (QG.mk (.inr rfl) (.cons (.tmp (x := (e_bool true)) rfl) (.nil)) (RetOK.one0 (.pure rfl) (by decide)) rfl rfl)
  ·intro N2 hN2
   refine LWP.seq_k fun N3 hN3 => ?_
   refine LWP.region (l := [_,_,_,_]) ?_
   refine LWo.move (e_string a0) rfl (hn := ?_)
   refine bk h fun x4 e4 h => ?_
   refine LWo.bytesM e4 u_string u_Luint8 u_uint8 rfl (hn := ?_)
   refine LWo.lenM (f := e_uint8) (l := x4) u_Luint8 rfl (hn := ?_)
   refine LWo.move (e_int (0 : Int)) rfl (hn := ?_)
   refine LWo.nil (hN3 _ ?_)
   refine LWP.block ?_
   refine LWP.loopM (α := (List UInt8) × Int × Int) (fun z : (List UInt8) × Int × Int => [(6, (e_Luint8 z.1)), (7, (e_int z.2.1)), (8, (e_int z.2.2))]) (fun z : (List UInt8) × Int × Int => []) (fun n1 (z : (List UInt8) × Int × Int) => m_impl_letters_l1  n1 z.1 z.2.1 z.2.2) r _ (x4, (x4.length : Int), (0 : Int)) h (fun _ => rfl) (fun _ => by simp [hkeys]) ⟨rfl, rfl, rfl, trivial⟩ trivial ?_
   rintro n1 ⟨t6, t7, t8⟩ h N5 hN5
   replace h : m_impl_letters_l1  (n1 + 1) t6 t7 t8 = some _ := h
   refine LWP.seq_k fun N7 hN7 => ?_
   refine LWP.region (l := [_]) ?_
   refine LWo.int _ rfl rfl rfl (hn := ?_)
   refine LWo.nil (hN7 _ ?_)
   refine LWP.seq_k fun N8 hN8 => ?_
   refine LWP.cond_split rfl (fun h9 => ?_) (fun h9 => ?_)
   ·have h := bT h9 h
    refine LWP.skip (hN8 _ ?_)
    refine LWP.seq_k fun N10 hN10 => ?_
    refine LWP.block ?_
    refine LWP.seq_k fun N11 hN11 => ?_
    refine LWP.region (l := [_,_,_]) ?_
    refine bk h fun x12 e12 h => ?_
    refine LWo.indexM (f := e_uint8) e12 u_Luint8 s_uint8 rfl rfl (hn := ?_)
    refine LWo.load1 (c := (e_uint8 x12)) g_uint8 rfl (hn := ?_)
    refine LWo.assign (e_uint8 x12) rfl (hn := ?_)
    refine LWo.nil (hN11 _ ?_)
    refine LWP.seq_k fun N13 hN13 => ?_
    refine LWP.region (l := [_,_,_,_]) ?_
    refine LWo.move (e_uint8 x12) rfl (hn := ?_)
    refine LWo.convByte _ u_uint8 u_int rfl (hn := ?_)
    refine bk h fun x14 e14 h => ?_
    refine LWo.vcall rfl rfl (c_impl_between _ _ _ _ e14) (.same (.same (.same (.nil)))) (hn := ?_)
    refine LWo.not rfl (hn := ?_)
    refine LWo.nil (hN13 _ ?_)
    refine LWP.cond_split rfl (fun h15 => ?_) (fun h15 => ?_)
    ·have h := bT h15 h
     refine LWP.seq_k fun N16 hN16 => ?_
     refine LWP.region (l := [_]) ?_
     refine LWo.assign (e_bool false) rfl (hn := ?_)
     refine LWo.nil (hN16 _ ?_)
     obtain rfl := Option.some.inj h
     refine LWP.ret (QG.mk (.inr rfl) (.cons (.tmp (x := (e_bool false)) rfl) (.nil)) (RetOK.one0 (.pure rfl) (by decide)) rfl rfl)
    ·have h := bF h15 h
     refine LWP.skip (hN10 _ ?_)
     refine LWP.region (l := [_,_]) ?_
     refine bk h fun x17 e17 h => ?_
     refine LWo.int _ rfl rfl (add_ck e17) (hn := ?_)
     refine LWo.move (e_int x17) rfl (hn := ?_)
     refine LWo.nil (hN5 (t6, t7, x17) _ ⟨rfl, rfl, rfl, trivial⟩ trivial h)
   ·have h := bF h9 h
    refine LWP.exit (hN2 () _ trivial trivial h)

def m_impl_Value_ok_j1 (t2 : Bool) : Option Bool :=
  some t2
def m_impl_Value_ok_j2 (t2 : Bool) : Option Bool :=
  some t2
def m_impl_Value_ok_j3 (t2 : Bool) : Option Bool :=
  some t2
def m_impl_Value_ok (a0 : S_impl_Value) : Option Bool :=
  bif (a0.Kind == (0 : Int)) then (some (decide (a0 = (⟨(0 : Int), (0 : Int), (⟨#[]⟩ : ByteArray)⟩ : S_impl_Value))))
  else (bif (a0.Kind == (1 : Int)) then (bif (sEq a0.S (⟨#[]⟩ : ByteArray)) then ((m_impl_between a0.N (-9999 : Int) (9999 : Int)).bind fun x11 =>
        m_impl_Value_ok_j1  x11)
      else (m_impl_Value_ok_j1  false))
    else (bif (a0.Kind == (2 : Int)) then (bif (a0.N == (0 : Int)) then (bif decide ((a0.S.size : Int) ≤ (6 : Int)) then ((m_impl_letters a0.S).bind fun x17 =>
            m_impl_Value_ok_j2  x17)
          else (m_impl_Value_ok_j2  false))
        else (m_impl_Value_ok_j2  false))
      else (bif (a0.Kind == (3 : Int)) then (bif (sEq a0.S (⟨#[]⟩ : ByteArray)) then ((m_impl_between a0.N (0 : Int) (1 : Int)).bind fun x22 =>
            m_impl_Value_ok_j3  x22)
          else (m_impl_Value_ok_j3  false))
        else (some false))))
theorem c_impl_Value_ok (a0 : S_impl_Value) (r : Bool) (h : m_impl_Value_ok a0 = some r) : Ret Try.prog f_impl_Value_ok [e_impl_Value a0] (e_bool r) := by
  refine Does.goG [] F_impl_Value_ok rfl e_impl_Value_ok n_impl_Value_ok rfl (rvs := [.tmp 2]) rfl rfl ?_
  intro w0 ok0 lent ρ0
  refine LWP.seq_k fun N1 hN1 => ?_
  refine LWP.region (l := [_,_]) ?_
  refine LWo.boxF (e_impl_Value a0) rfl rfl rfl (hn := ?_)
  refine LWo.assign (e_bool false) rfl (hn := ?_)
  refine LWo.nil (hN1 _ ?_)
  refine LWP.seq_k fun N2 hN2 => ?_
  refine LWP.seq_k fun N3 hN3 => ?_
  refine LWP.region (l := [_,_]) ?_
  refine LWo.fieldAddr _ u_impl_Value rfl s_int rfl rfl (hn := ?_)
  refine LWo.load1 (c := (e_int a0.Kind)) g_int rfl (hn := ?_)
  refine LWo.nil (hN3 _ ?_)
  refine LWP.block ?_
  refine LWP.seq_k fun N4 hN4 => ?_
  refine LWP.region (l := [_,_]) ?_
  refine LWo.int _ rfl rfl rfl (hn := ?_)
  refine LWo.assign (e_bool (a0.Kind == (0 : Int))) rfl (hn := ?_)
  refine LWo.nil (hN4 _ ?_)
  refine LWP.cond_split rfl (fun h5 => ?_) (fun h5 => ?_)
  ·have h := bT h5 h
   refine LWP.seq_k fun N6 hN6 => ?_
   refine LWP.region (l := [_,_,_,_]) ?_
   refine LWo.loadN ((e_impl_Value a0)).cells g_impl_Value s_impl_Value rfl (Nat.le_of_ble_eq_true rfl) rfl (hn := ?_)
   refine LWo.build_impl_Value (parts := []) (⟨(0 : Int), (0 : Int), (⟨#[]⟩ : ByteArray)⟩ : S_impl_Value) rfl rfl rfl .refl (hn := ?_)
   refine LWo.eq_impl_Value _ _ rfl rfl (hn := ?_)
   refine LWo.assign (e_bool (decide (a0 = (⟨(0 : Int), (0 : Int), (⟨#[]⟩ : ByteArray)⟩ : S_impl_Value)))) rfl (hn := ?_)
   refine LWo.nil (hN6 _ ?_)
   obtain rfl := Option.some.inj h
   refine LWP.ret (QG.mk (.inr rfl) (.cons (.tmp (x := (e_bool (decide (a0 = (⟨(0 : Int), (0 : Int), (⟨#[]⟩ : ByteArray)⟩ : S_impl_Value))))) rfl) (.nil)) (RetOK.one0 (.pure rfl) (by decide)) rfl rfl)
  ·have h := bF h5 h
   refine LWP.seq_k fun N7 hN7 => ?_
   refine LWP.region (l := [_,_]) ?_
   refine LWo.int _ rfl rfl rfl (hn := ?_)
   refine LWo.assign (e_bool (a0.Kind == (1 : Int))) rfl (hn := ?_)
   refine LWo.nil (hN7 _ ?_)
   refine LWP.cond_split rfl (fun h8 => ?_) (fun h8 => ?_)
   ·have h := bT h8 h
    refine LWP.join (α := Bool) (fun z : Bool => [(2, (e_bool z))]) (fun z : Bool => []) (fun z : Bool => m_impl_Value_ok_j1  z) r (fun _ => by simp [hkeys]) ?_ ?_
    ·rintro t2 h
     replace h : m_impl_Value_ok_j1  t2 = some _ := h
     obtain rfl := Option.some.inj h
     refine LWP.ret (QG.mk (.inr rfl) (.cons (.tmp (x := (e_bool t2)) rfl) (.nil)) (RetOK.one0 (.pure rfl) (by decide)) rfl rfl)
    ·intro N9 hN9
     refine LWP.region (l := [_,_,_,_,_,_,_,_,_]) ?_
     refine LWo.fieldAddr _ u_impl_Value rfl s_string rfl rfl (hn := ?_)
     refine LWo.load1 (c := (e_string a0.S)) g_string rfl (hn := ?_)
     refine LWo.str _ rfl rfl rfl (hn := ?_)
     refine LWo.move (e_bool (sEq a0.S (⟨#[]⟩ : ByteArray))) rfl (hn := ?_)
     refine LWo.byCases (t := 15) _ rfl (fun h10 => ?_) (fun h10 => ?_)
     ·have h := bT h10 h
      refine LWo.guardY (t := 15) rfl h10 rfl rfl ?_
      refine LWo.fieldAddr _ u_impl_Value rfl s_int rfl rfl (hn := ?_)
      refine LWo.guardY (t := 15) rfl h10 rfl rfl ?_
      refine LWo.load1 (c := (e_int a0.N)) g_int rfl (hn := ?_)
      refine bk h fun x11 e11 h => ?_
      refine LWo.guardY (t := 15) rfl h10 rfl rfl ?_
      refine LWo.vcall rfl rfl (c_impl_between _ _ _ _ e11) (.same (.same (.same (.nil)))) (hn := ?_)
      refine LWo.pickTM (e_bool x11) rfl h10 rfl (hn := ?_)
      refine LWo.assign (e_bool x11) rfl (hn := ?_)
      refine LWo.nil (hN9 x11 _ ⟨rfl, trivial⟩ trivial h)
     ·have h := bF h10 h
      refine LWo.guardNU (t := 15) rfl h10 rfl rfl rfl rfl rfl ?_
      refine LWo.guardNU (t := 15) rfl h10 rfl rfl rfl rfl rfl ?_
      refine LWo.guardNU (t := 15) rfl h10 rfl rfl rfl rfl rfl ?_
      refine LWo.pickFM (e_bool false) rfl h10 rfl (hn := ?_)
      refine LWo.assign (e_bool false) rfl (hn := ?_)
      refine LWo.nil (hN9 false _ ⟨rfl, trivial⟩ trivial h)
   ·have h := bF h8 h
    refine LWP.seq_k fun N12 hN12 => ?_
    refine LWP.region (l := [_,_]) ?_
    refine LWo.int _ rfl rfl rfl (hn := ?_)
    refine LWo.assign (e_bool (a0.Kind == (2 : Int))) rfl (hn := ?_)
    refine LWo.nil (hN12 _ ?_)
    refine LWP.cond_split rfl (fun h13 => ?_) (fun h13 => ?_)
    ·have h := bT h13 h
     refine LWP.join (α := Bool) (fun z : Bool => [(2, (e_bool z))]) (fun z : Bool => []) (fun z : Bool => m_impl_Value_ok_j2  z) r (fun _ => by simp [hkeys]) ?_ ?_
     ·rintro t2 h
      replace h : m_impl_Value_ok_j2  t2 = some _ := h
      obtain rfl := Option.some.inj h
      refine LWP.ret (QG.mk (.inr rfl) (.cons (.tmp (x := (e_bool t2)) rfl) (.nil)) (RetOK.one0 (.pure rfl) (by decide)) rfl rfl)
     ·intro N14 hN14
      refine LWP.region (l := [_,_,_,_,_,_,_,_,_,_,_,_,_,_,_]) ?_
      refine LWo.fieldAddr _ u_impl_Value rfl s_int rfl rfl (hn := ?_)
      refine LWo.load1 (c := (e_int a0.N)) g_int rfl (hn := ?_)
      refine LWo.int _ rfl rfl rfl (hn := ?_)
      refine LWo.move (e_bool (a0.N == (0 : Int))) rfl (hn := ?_)
      refine LWo.byCases (t := 25) _ rfl (fun h15 => ?_) (fun h15 => ?_)
      ·have h := bT h15 h
       refine LWo.guardY (t := 25) rfl h15 rfl rfl ?_
       refine LWo.fieldAddr _ u_impl_Value rfl s_string rfl rfl (hn := ?_)
       refine LWo.guardY (t := 25) rfl h15 rfl rfl ?_
       refine LWo.load1 (c := (e_string a0.S)) g_string rfl (hn := ?_)
       refine LWo.guardY (t := 25) rfl h15 rfl rfl ?_
       refine LWo.lenS u_string rfl (hn := ?_)
       refine LWo.guardY (t := 25) rfl h15 rfl rfl ?_
       refine LWo.int _ rfl rfl rfl (hn := ?_)
       refine LWo.pickTM (e_bool (decide ((a0.S.size : Int) ≤ (6 : Int)))) rfl h15 rfl (hn := ?_)
       refine LWo.move (e_bool (decide ((a0.S.size : Int) ≤ (6 : Int)))) rfl (hn := ?_)
       refine LWo.byCases (t := 31) _ rfl (fun h16 => ?_) (fun h16 => ?_)
       ·have h := bT h16 h
        refine LWo.guardY (t := 31) rfl h16 rfl rfl ?_
        refine LWo.fieldAddr _ u_impl_Value rfl s_string rfl rfl (hn := ?_)
        refine LWo.guardY (t := 31) rfl h16 rfl rfl ?_
        refine LWo.load1 (c := (e_string a0.S)) g_string rfl (hn := ?_)
        refine bk h fun x17 e17 h => ?_
        refine LWo.guardY (t := 31) rfl h16 rfl rfl ?_
        refine LWo.vcall rfl rfl (c_impl_letters _ _ e17) (.same (.nil)) (hn := ?_)
        refine LWo.pickTM (e_bool x17) rfl h16 rfl (hn := ?_)
        refine LWo.assign (e_bool x17) rfl (hn := ?_)
        refine LWo.nil (hN14 x17 _ ⟨rfl, trivial⟩ trivial h)
       ·have h := bF h16 h
        refine LWo.guardNU (t := 31) rfl h16 rfl rfl rfl rfl rfl ?_
        refine LWo.guardNU (t := 31) rfl h16 rfl rfl rfl rfl rfl ?_
        refine LWo.guardNU (t := 31) rfl h16 rfl rfl rfl rfl rfl ?_
        refine LWo.pickFM (e_bool false) rfl h16 rfl (hn := ?_)
        refine LWo.assign (e_bool false) rfl (hn := ?_)
        refine LWo.nil (hN14 false _ ⟨rfl, trivial⟩ trivial h)
      ·have h := bF h15 h
       refine LWo.guardNU (t := 25) rfl h15 rfl rfl rfl rfl rfl ?_
       refine LWo.guardNU (t := 25) rfl h15 rfl rfl rfl rfl rfl ?_
       refine LWo.guardNU (t := 25) rfl h15 rfl rfl rfl rfl rfl ?_
       refine LWo.guardNU (t := 25) rfl h15 rfl rfl rfl rfl rfl ?_
       refine LWo.pickFM (e_bool false) rfl h15 rfl (hn := ?_)
       refine LWo.move (e_bool false) rfl (hn := ?_)
       refine LWo.guardNU (t := 31) rfl rfl rfl rfl rfl rfl rfl ?_
       refine LWo.guardNU (t := 31) rfl rfl rfl rfl rfl rfl rfl ?_
       refine LWo.guardNU (t := 31) rfl rfl rfl rfl rfl rfl rfl ?_
       refine LWo.pickFM (e_bool false) rfl rfl rfl (hn := ?_)
       refine LWo.assign (e_bool false) rfl (hn := ?_)
       refine LWo.nil (hN14 false _ ⟨rfl, trivial⟩ trivial h)
    ·have h := bF h13 h
     refine LWP.seq_k fun N18 hN18 => ?_
     refine LWP.region (l := [_,_]) ?_
     refine LWo.int _ rfl rfl rfl (hn := ?_)
     refine LWo.assign (e_bool (a0.Kind == (3 : Int))) rfl (hn := ?_)
     refine LWo.nil (hN18 _ ?_)
     refine LWP.cond_split rfl (fun h19 => ?_) (fun h19 => ?_)
     ·have h := bT h19 h
      refine LWP.join (α := Bool) (fun z : Bool => [(2, (e_bool z))]) (fun z : Bool => []) (fun z : Bool => m_impl_Value_ok_j3  z) r (fun _ => by simp [hkeys]) ?_ ?_
      ·rintro t2 h
       replace h : m_impl_Value_ok_j3  t2 = some _ := h
       obtain rfl := Option.some.inj h
       refine LWP.ret (QG.mk (.inr rfl) (.cons (.tmp (x := (e_bool t2)) rfl) (.nil)) (RetOK.one0 (.pure rfl) (by decide)) rfl rfl)
      ·intro N20 hN20
       refine LWP.region (l := [_,_,_,_,_,_,_,_,_]) ?_
       refine LWo.fieldAddr _ u_impl_Value rfl s_string rfl rfl (hn := ?_)
       refine LWo.load1 (c := (e_string a0.S)) g_string rfl (hn := ?_)
       refine LWo.str _ rfl rfl rfl (hn := ?_)
       refine LWo.move (e_bool (sEq a0.S (⟨#[]⟩ : ByteArray))) rfl (hn := ?_)
       refine LWo.byCases (t := 41) _ rfl (fun h21 => ?_) (fun h21 => ?_)
       ·have h := bT h21 h
        refine LWo.guardY (t := 41) rfl h21 rfl rfl ?_
        refine LWo.fieldAddr _ u_impl_Value rfl s_int rfl rfl (hn := ?_)
        refine LWo.guardY (t := 41) rfl h21 rfl rfl ?_
        refine LWo.load1 (c := (e_int a0.N)) g_int rfl (hn := ?_)
        refine bk h fun x22 e22 h => ?_
        refine LWo.guardY (t := 41) rfl h21 rfl rfl ?_
        refine LWo.vcall rfl rfl (c_impl_between _ _ _ _ e22) (.same (.same (.same (.nil)))) (hn := ?_)
        refine LWo.pickTM (e_bool x22) rfl h21 rfl (hn := ?_)
        refine LWo.assign (e_bool x22) rfl (hn := ?_)
        refine LWo.nil (hN20 x22 _ ⟨rfl, trivial⟩ trivial h)
       ·have h := bF h21 h
        refine LWo.guardNU (t := 41) rfl h21 rfl rfl rfl rfl rfl ?_
        refine LWo.guardNU (t := 41) rfl h21 rfl rfl rfl rfl rfl ?_
        refine LWo.guardNU (t := 41) rfl h21 rfl rfl rfl rfl rfl ?_
        refine LWo.pickFM (e_bool false) rfl h21 rfl (hn := ?_)
        refine LWo.assign (e_bool false) rfl (hn := ?_)
        refine LWo.nil (hN20 false _ ⟨rfl, trivial⟩ trivial h)
     ·have h := bF h19 h
      refine LWP.skip (hN2 _ ?_)
      refine LWP.seq_k fun N23 hN23 => ?_
      refine LWP.region (l := [_]) ?_
      refine LWo.assign (e_bool false) rfl (hn := ?_)
      refine LWo.nil (hN23 _ ?_)
      obtain rfl := Option.some.inj h
      refine LWP.ret (QG.mk (.inr rfl) (.cons (.tmp (x := (e_bool false)) rfl) (.nil)) (RetOK.one0 (.pure rfl) (by decide)) rfl rfl)

def m_impl_RowOk_1 (a0 : S_impl_Value) : Option Bool :=
  (m_impl_Value_ok a0).bind fun x3 =>
  some (!x3)
theorem c_impl_RowOk_1 (a0 : S_impl_Value) (r : Bool) (h : m_impl_RowOk_1 a0 = some r) : Ret Try.prog f_impl_RowOk_1 [e_impl_Value a0] (e_bool r) := by
  refine Does.goG [] F_impl_RowOk_1 rfl e_impl_RowOk_1 n_impl_RowOk_1 rfl (rvs := [.tmp 2]) rfl rfl ?_
  intro w0 ok0 lent ρ0
  refine LWP.seq_k fun N1 hN1 => ?_
  refine LWP.region (l := [_,_]) ?_
  refine LWo.boxF (e_impl_Value a0) rfl rfl rfl (hn := ?_)
  refine LWo.assign (e_bool false) rfl (hn := ?_)
  refine LWo.nil (hN1 _ ?_)
  refine LWP.seq_k fun N2 hN2 => ?_
  refine LWP.region (l := [_,_,_,_]) ?_
  refine LWo.loadN ((e_impl_Value a0)).cells g_impl_Value s_impl_Value rfl (Nat.le_of_ble_eq_true rfl) rfl (hn := ?_)
  refine bk h fun x3 e3 h => ?_
  refine LWo.vcall rfl rfl (c_impl_Value_ok _ _ e3) (.same (.nil)) (hn := ?_)
  refine LWo.not rfl (hn := ?_)
  refine LWo.assign (e_bool (!x3)) rfl (hn := ?_)
  refine LWo.nil (hN2 _ ?_)
  obtain rfl := Option.some.inj h
  refine LWP.ret (QG.mk (.inr rfl) (.cons (.tmp (x := (e_bool (!x3))) rfl) (.nil)) (RetOK.one0 (.pure rfl) (by decide)) rfl rfl)

def m_impl_RowOk_j1 (t2 : Bool) : Option Bool :=
  some t2
def m_impl_RowOk (a0 : (List S_impl_Value)) : Option Bool :=
  bif decide ((a0.length : Int) ≤ (4 : Int)) then ((m_slices_ContainsFunc_Limpl_Value_impl_Value a0 (fun b0_ => m_impl_RowOk_1 b0_ )).bind fun x4 =>
    m_impl_RowOk_j1  (!x4))
  else (m_impl_RowOk_j1  false)
theorem c_impl_RowOk (a0 : (List S_impl_Value)) (r : Bool) (h : m_impl_RowOk a0 = some r) : Ret Try.prog f_impl_RowOk [e_Limpl_Value a0] (e_bool r) := by
  refine Does.goG [] F_impl_RowOk rfl e_impl_RowOk n_impl_RowOk rfl (rvs := [.tmp 2]) rfl rfl ?_
  intro w0 ok0 lent ρ0
  refine LWP.seq_k fun N1 hN1 => ?_
  refine LWP.region (l := [_]) ?_
  refine LWo.assign (e_bool false) rfl (hn := ?_)
  refine LWo.nil (hN1 _ ?_)
  refine LWP.join (α := Bool) (fun z : Bool => [(2, (e_bool z))]) (fun z : Bool => []) (fun z : Bool => m_impl_RowOk_j1  z) r (fun _ => by simp [hkeys]) ?_ ?_
  ·rintro t2 h
   replace h : m_impl_RowOk_j1  t2 = some _ := h
   obtain rfl := Option.some.inj h
   refine LWP.ret (QG.mk (.inr rfl) (.cons (.tmp (x := (e_bool t2)) rfl) (.nil)) (RetOK.one0 (.pure rfl) (by decide)) rfl rfl)
  ·intro N2 hN2
   refine LWP.region (l := [_,_,_,_,_,_,_,_,_]) ?_
   refine LWo.move (e_Limpl_Value a0) rfl (hn := ?_)
   refine LWo.lenM (f := e_impl_Value) (l := a0) u_Limpl_Value rfl (hn := ?_)
   refine LWo.int _ rfl rfl rfl (hn := ?_)
   refine LWo.move (e_bool (decide ((a0.length : Int) ≤ (4 : Int)))) rfl (hn := ?_)
   refine LWo.byCases (t := 6) _ rfl (fun h3 => ?_) (fun h3 => ?_)
   ·have h := bT h3 h
    refine LWo.guardY (t := 6) rfl h3 rfl rfl ?_
    refine LWo.move (e_Limpl_Value a0) rfl (hn := ?_)
    refine bk h fun x4 e4 h => ?_
    refine LWo.guardY (t := 6) rfl h3 rfl rfl ?_
    refine LWo.vcall rfl rfl (c_slices_ContainsFunc_Limpl_Value_impl_Value _ _ f_impl_RowOk_1 [] (fun _ => rfl) (fun b0_ v hv => c_impl_RowOk_1 b0_  v hv) _ e4) (.same (.same (.nil))) (hn := ?_)
    refine LWo.guardY (t := 6) rfl h3 rfl rfl ?_
    refine LWo.not rfl (hn := ?_)
    refine LWo.pickTM (e_bool (!x4)) rfl h3 rfl (hn := ?_)
    refine LWo.assign (e_bool (!x4)) rfl (hn := ?_)
    refine LWo.nil (hN2 (!x4) _ ⟨rfl, trivial⟩ trivial h)
   ·have h := bF h3 h
    refine LWo.guardNU (t := 6) rfl h3 rfl rfl rfl rfl rfl ?_
    refine LWo.guardNU (t := 6) rfl h3 rfl rfl rfl rfl rfl ?_
    refine LWo.guardNU (t := 6) rfl h3 rfl rfl rfl rfl rfl ?_
    refine LWo.pickFM (e_bool false) rfl h3 rfl (hn := ?_)
    refine LWo.assign (e_bool false) rfl (hn := ?_)
    refine LWo.nil (hN2 false _ ⟨rfl, trivial⟩ trivial h)

def m_impl_counted_j1 (t2 : Bool) : Option Bool :=
  some t2
def m_impl_counted (a0 : (List S_impl_Value)) : Option Bool :=
  bif ((a0.length : Int) == (2 : Int)) then ((m_impl_RowOk a0).bind fun x4 =>
    bif x4 then ((at? a0 (1 : Int)).bind fun x6 =>
      bif (x6.Kind == (1 : Int)) then (m_impl_counted_j1  true)
      else ((at? a0 (1 : Int)).bind fun x8 =>
        m_impl_counted_j1  (x8.Kind == (0 : Int))))
    else (m_impl_counted_j1  false))
  else (m_impl_counted_j1  false)
theorem c_impl_counted (a0 : (List S_impl_Value)) (r : Bool) (h : m_impl_counted a0 = some r) : Ret Try.prog f_impl_counted [e_Limpl_Value a0] (e_bool r) := by
  refine Does.goG [] F_impl_counted rfl e_impl_counted n_impl_counted rfl (rvs := [.tmp 2]) rfl rfl ?_
  intro w0 ok0 lent ρ0
  refine LWP.seq_k fun N1 hN1 => ?_
  refine LWP.region (l := [_]) ?_
  refine LWo.assign (e_bool false) rfl (hn := ?_)
  refine LWo.nil (hN1 _ ?_)
  refine LWP.join (α := Bool) (fun z : Bool => [(2, (e_bool z))]) (fun z : Bool => []) (fun z : Bool => m_impl_counted_j1  z) r (fun _ => by simp [hkeys]) ?_ ?_
  ·rintro t2 h
   replace h : m_impl_counted_j1  t2 = some _ := h
   obtain rfl := Option.some.inj h
   refine LWP.ret (QG.mk (.inr rfl) (.cons (.tmp (x := (e_bool t2)) rfl) (.nil)) (RetOK.one0 (.pure rfl) (by decide)) rfl rfl)
  ·intro N2 hN2
   refine LWP.region (l := [_,_,_,_,_,_,_,_,_,_,_,_,_,_,_,_,_,_,_,_,_,_]) ?_
   refine LWo.move (e_Limpl_Value a0) rfl (hn := ?_)
   refine LWo.lenM (f := e_impl_Value) (l := a0) u_Limpl_Value rfl (hn := ?_)
   refine LWo.int _ rfl rfl rfl (hn := ?_)
   refine LWo.move (e_bool ((a0.length : Int) == (2 : Int))) rfl (hn := ?_)
   refine LWo.byCases (t := 6) _ rfl (fun h3 => ?_) (fun h3 => ?_)
   ·have h := bT h3 h
    refine LWo.guardY (t := 6) rfl h3 rfl rfl ?_
    refine LWo.move (e_Limpl_Value a0) rfl (hn := ?_)
    refine bk h fun x4 e4 h => ?_
    refine LWo.guardY (t := 6) rfl h3 rfl rfl ?_
    refine LWo.vcall rfl rfl (c_impl_RowOk _ _ e4) (.same (.nil)) (hn := ?_)
    refine LWo.pickTM (e_bool x4) rfl h3 rfl (hn := ?_)
    refine LWo.move (e_bool x4) rfl (hn := ?_)
    refine LWo.byCases (t := 10) _ rfl (fun h5 => ?_) (fun h5 => ?_)
    ·have h := bT h5 h
     refine LWo.guardY (t := 10) rfl h5 rfl rfl ?_
     refine LWo.move (e_Limpl_Value a0) rfl (hn := ?_)
     refine bk h fun x6 e6 h => ?_
     refine LWo.guardY (t := 10) rfl h5 rfl rfl ?_
     refine LWo.indexM (f := e_impl_Value) e6 u_Limpl_Value s_impl_Value rfl rfl (hn := ?_)
     refine LWo.guardY (t := 10) rfl h5 rfl rfl ?_
     refine LWo.fieldAddr _ u_impl_Value rfl s_int rfl rfl (hn := ?_)
     refine LWo.guardY (t := 10) rfl h5 rfl rfl ?_
     refine LWo.load1 (c := (e_int x6.Kind)) g_int rfl (hn := ?_)
     refine LWo.guardY (t := 10) rfl h5 rfl rfl ?_
     refine LWo.int _ rfl rfl rfl (hn := ?_)
     refine LWo.guardY (t := 10) rfl h5 rfl rfl ?_
     refine LWo.move (e_bool (x6.Kind == (1 : Int))) rfl (hn := ?_)
     refine LWo.byCases (t := 16) _ rfl (fun h7 => ?_) (fun h7 => ?_)
     ·have h := bT h7 h
      refine LWo.guardNU (t := 16) rfl h7 rfl rfl rfl rfl rfl ?_
      refine LWo.guardNU (t := 16) rfl h7 rfl rfl rfl rfl rfl ?_
      refine LWo.guardNU (t := 16) rfl h7 rfl rfl rfl rfl rfl ?_
      refine LWo.guardNU (t := 16) rfl h7 rfl rfl rfl rfl rfl ?_
      refine LWo.guardNU (t := 16) rfl h7 rfl rfl rfl rfl rfl ?_
      refine LWo.guardY (t := 10) rfl h5 rfl rfl ?_
      refine LWo.pickTM (e_bool true) rfl h7 rfl (hn := ?_)
      refine LWo.pickTM (e_bool true) rfl h5 rfl (hn := ?_)
      refine LWo.assign (e_bool true) rfl (hn := ?_)
      refine LWo.nil (hN2 true _ ⟨rfl, trivial⟩ trivial h)
     ·have h := bF h7 h
      refine LWo.guardY (t := 16) rfl h7 rfl rfl ?_
      refine LWo.move (e_Limpl_Value a0) rfl (hn := ?_)
      refine bk h fun x8 e8 h => ?_
      refine LWo.guardY (t := 16) rfl h7 rfl rfl ?_
      refine LWo.indexM (f := e_impl_Value) e8 u_Limpl_Value s_impl_Value rfl rfl (hn := ?_)
      refine LWo.guardY (t := 16) rfl h7 rfl rfl ?_
      refine LWo.fieldAddr _ u_impl_Value rfl s_int rfl rfl (hn := ?_)
      refine LWo.guardY (t := 16) rfl h7 rfl rfl ?_
      refine LWo.load1 (c := (e_int x8.Kind)) g_int rfl (hn := ?_)
      refine LWo.guardY (t := 16) rfl h7 rfl rfl ?_
      refine LWo.int _ rfl rfl rfl (hn := ?_)
      refine LWo.guardY (t := 10) rfl h5 rfl rfl ?_
      refine LWo.pickFM (e_bool (x8.Kind == (0 : Int))) rfl h7 rfl (hn := ?_)
      refine LWo.pickTM (e_bool (x8.Kind == (0 : Int))) rfl h5 rfl (hn := ?_)
      refine LWo.assign (e_bool (x8.Kind == (0 : Int))) rfl (hn := ?_)
      refine LWo.nil (hN2 (x8.Kind == (0 : Int)) _ ⟨rfl, trivial⟩ trivial h)
    ·have h := bF h5 h
     refine LWo.guardNU (t := 10) rfl h5 rfl rfl rfl rfl rfl ?_
     refine LWo.guardNU (t := 10) rfl h5 rfl rfl rfl rfl rfl ?_
     refine LWo.guardNU (t := 10) rfl h5 rfl rfl rfl rfl rfl ?_
     refine LWo.guardNU (t := 10) rfl h5 rfl rfl rfl rfl rfl ?_
     refine LWo.guardNU (t := 10) rfl h5 rfl rfl rfl rfl rfl ?_
     refine LWo.guardNU (t := 10) rfl h5 rfl rfl rfl rfl rfl ?_
     refine LWo.guardU (t := 16) rfl rfl rfl rfl rfl ?_
     refine LWo.guardU (t := 16) rfl rfl rfl rfl rfl ?_
     refine LWo.guardU (t := 16) rfl rfl rfl rfl rfl ?_
     refine LWo.guardU (t := 16) rfl rfl rfl rfl rfl ?_
     refine LWo.guardU (t := 16) rfl rfl rfl rfl rfl ?_
     refine LWo.guardNU (t := 10) rfl h5 rfl rfl rfl rfl rfl ?_
     refine LWo.pickFM (e_bool false) rfl h5 rfl (hn := ?_)
     refine LWo.assign (e_bool false) rfl (hn := ?_)
     refine LWo.nil (hN2 false _ ⟨rfl, trivial⟩ trivial h)
   ·have h := bF h3 h
    refine LWo.guardNU (t := 6) rfl h3 rfl rfl rfl rfl rfl ?_
    refine LWo.guardNU (t := 6) rfl h3 rfl rfl rfl rfl rfl ?_
    refine LWo.pickFM (e_bool false) rfl h3 rfl (hn := ?_)
    refine LWo.move (e_bool false) rfl (hn := ?_)
    refine LWo.guardNU (t := 10) rfl rfl rfl rfl rfl rfl rfl ?_
    refine LWo.guardNU (t := 10) rfl rfl rfl rfl rfl rfl rfl ?_
    refine LWo.guardNU (t := 10) rfl rfl rfl rfl rfl rfl rfl ?_
    refine LWo.guardNU (t := 10) rfl rfl rfl rfl rfl rfl rfl ?_
    refine LWo.guardNU (t := 10) rfl rfl rfl rfl rfl rfl rfl ?_
    refine LWo.guardNU (t := 10) rfl rfl rfl rfl rfl rfl rfl ?_
    refine LWo.guardU (t := 16) rfl rfl rfl rfl rfl ?_
    refine LWo.guardU (t := 16) rfl rfl rfl rfl rfl ?_
    refine LWo.guardU (t := 16) rfl rfl rfl rfl rfl ?_
    refine LWo.guardU (t := 16) rfl rfl rfl rfl rfl ?_
    refine LWo.guardU (t := 16) rfl rfl rfl rfl rfl ?_
    refine LWo.guardNU (t := 10) rfl rfl rfl rfl rfl rfl rfl ?_
    refine LWo.pickFM (e_bool false) rfl rfl rfl (hn := ?_)
    refine LWo.assign (e_bool false) rfl (hn := ?_)
    refine LWo.nil (hN2 false _ ⟨rfl, trivial⟩ trivial h)

def m_impl_TalliesOf_1 (a0 : (List S_impl_Value)) : Option Bool :=
  (m_impl_counted a0).bind fun x3 =>
  some (!x3)
theorem c_impl_TalliesOf_1 (a0 : (List S_impl_Value)) (r : Bool) (h : m_impl_TalliesOf_1 a0 = some r) : Ret Try.prog f_impl_TalliesOf_1 [e_Limpl_Value a0] (e_bool r) := by
  refine Does.goG [] F_impl_TalliesOf_1 rfl e_impl_TalliesOf_1 n_impl_TalliesOf_1 rfl (rvs := [.tmp 2]) rfl rfl ?_
  intro w0 ok0 lent ρ0
  refine LWP.seq_k fun N1 hN1 => ?_
  refine LWP.region (l := [_]) ?_
  refine LWo.assign (e_bool false) rfl (hn := ?_)
  refine LWo.nil (hN1 _ ?_)
  refine LWP.seq_k fun N2 hN2 => ?_
  refine LWP.region (l := [_,_,_,_]) ?_
  refine LWo.move (e_Limpl_Value a0) rfl (hn := ?_)
  refine bk h fun x3 e3 h => ?_
  refine LWo.vcall rfl rfl (c_impl_counted _ _ e3) (.same (.nil)) (hn := ?_)
  refine LWo.not rfl (hn := ?_)
  refine LWo.assign (e_bool (!x3)) rfl (hn := ?_)
  refine LWo.nil (hN2 _ ?_)
  obtain rfl := Option.some.inj h
  refine LWP.ret (QG.mk (.inr rfl) (.cons (.tmp (x := (e_bool (!x3))) rfl) (.nil)) (RetOK.one0 (.pure rfl) (by decide)) rfl rfl)

def m_slices_BinarySearchFunc_Limpl_Tally_impl_Tally_Limpl_Value_j2 (p2 : S_impl_Tally → (List S_impl_Value) → Option Int) (t6 : Int) (t7 : Bool) : Option (Int × Bool) :=
  some (t6, t7)
def m_slices_BinarySearchFunc_Limpl_Tally_impl_Tally_Limpl_Value_j1 (p2 : S_impl_Tally → (List S_impl_Value) → Option Int) (t0 : (List S_impl_Tally)) (t1 : (List S_impl_Value)) (t8 : Int) (t9 : Int) : Option (Int × Bool) :=
  bif decide (t9 < t8) then ((at? t0 t9).bind fun x22 =>
    (p2 x22 t1).bind fun x23 =>
    m_slices_BinarySearchFunc_Limpl_Tally_impl_Tally_Limpl_Value_j2 p2 t9 (x23 == (0 : Int)))
  else (m_slices_BinarySearchFunc_Limpl_Tally_impl_Tally_Limpl_Value_j2 p2 t9 false)
def m_slices_BinarySearchFunc_Limpl_Tally_impl_Tally_Limpl_Value_l1 (p2 : S_impl_Tally → (List S_impl_Value) → Option Int) : Nat → (List S_impl_Tally) → (List S_impl_Value) → Int → Int → Int → Option (Int × Bool)
  | 0, _, _, _, _, _ => none
  | n1 + 1, t0, t1, t8, t9, t10 =>
    bif decide (t9 < t10) then ((ckI (t9 + t10)).bind fun x11 =>
    (uI x11).bind fun x12 =>
    (shrI x12 (1 : Int)).bind fun x13 =>
    (uI x13).bind fun x14 =>
    (at? t0 x14).bind fun x16 =>
    (p2 x16 t1).bind fun x17 =>
    bif decide (x17 < (0 : Int)) then ((ckI (x14 + (1 : Int))).bind fun x19 =>
      (m_slices_BinarySearchFunc_Limpl_Tally_impl_Tally_Limpl_Value_l1 p2 n1) t0 t1 t8 x19 t10)
    else ((m_slices_BinarySearchFunc_Limpl_Tally_impl_Tally_Limpl_Value_l1 p2 n1) t0 t1 t8 t9 x14))
    else (m_slices_BinarySearchFunc_Limpl_Tally_impl_Tally_Limpl_Value_j1 p2 t0 t1 t8 t9)
def m_slices_BinarySearchFunc_Limpl_Tally_impl_Tally_Limpl_Value (a0 : (List S_impl_Tally)) (a1 : (List S_impl_Value)) (p2 : S_impl_Tally → (List S_impl_Value) → Option Int) : Option (Int × Bool) :=
  m_slices_BinarySearchFunc_Limpl_Tally_impl_Tally_Limpl_Value_l1 p2 (((a0.length : Int) - (0 : Int)).toNat + 1) a0 a1 (a0.length : Int) (0 : Int) (a0.length : Int)
theorem c_slices_BinarySearchFunc_Limpl_Tally_impl_Tally_Limpl_Value (a0 : (List S_impl_Tally)) (a1 : (List S_impl_Value)) (p2 : S_impl_Tally → (List S_impl_Value) → Option Int) (f2 : FuncId) (q2 : List LV) (hq2 : ∀ k, LV.at?.atL k q2 = false) (hf2 : ∀ a0 a1 v, p2 a0 a1 = some v → Ret Try.prog f2 (e_impl_Tally a0 :: e_Limpl_Value a1 :: q2) (e_int v)) (r : (Int × Bool)) (h : m_slices_BinarySearchFunc_Limpl_Tally_impl_Tally_Limpl_Value a0 a1 p2 = some r) : Ret Try.prog f_slices_BinarySearchFunc_Limpl_Tally_impl_Tally_Limpl_Value [e_Limpl_Tally a0, e_Limpl_Value a1, .clo f2 q2] (.tup [e_int r.1, e_bool r.2]) := by
  refine Does.goG [] F_slices_BinarySearchFunc_Limpl_Tally_impl_Tally_Limpl_Value rfl e_slices_BinarySearchFunc_Limpl_Tally_impl_Tally_Limpl_Value n_slices_BinarySearchFunc_Limpl_Tally_impl_Tally_Limpl_Value rfl (rvs := [.tmp 6, .tmp 7]) rfl rfl ?_
  intro w0 ok0 lent ρ0
  refine LWP.seq_k fun N1 hN1 => ?_
  refine LWP.region (l := [_,_]) ?_
  refine LWo.assign (e_int (0 : Int)) rfl (hn := ?_)
  refine LWo.assign (e_bool false) rfl (hn := ?_)
  refine LWo.nil (hN1 _ ?_)
  refine LWP.seq_k fun N2 hN2 => ?_
  refine LWP.region (l := [_,_,_]) ?_
  refine LWo.move (e_Limpl_Tally a0) rfl (hn := ?_)
  refine LWo.lenM (f := e_impl_Tally) (l := a0) u_Limpl_Tally rfl (hn := ?_)
  refine LWo.assign (e_int (a0.length : Int)) rfl (hn := ?_)
  refine LWo.nil (hN2 _ ?_)
  refine LWP.seq_k fun N3 hN3 => ?_
  refine LWP.region (l := [_,_,_]) ?_
  refine LWo.move (e_int (a0.length : Int)) rfl (hn := ?_)
  refine LWo.assign (e_int (0 : Int)) rfl (hn := ?_)
  refine LWo.assign (e_int (a0.length : Int)) rfl (hn := ?_)
  refine LWo.nil (hN3 _ ?_)
  refine LWP.join (α := (List S_impl_Tally) × (List S_impl_Value) × Int × Int) (fun z : (List S_impl_Tally) × (List S_impl_Value) × Int × Int => [(0, (e_Limpl_Tally z.1)), (1, (e_Limpl_Value z.2.1)), (2, (.clo f2 q2)), (8, (e_int z.2.2.1)), (9, (e_int z.2.2.2))]) (fun z : (List S_impl_Tally) × (List S_impl_Value) × Int × Int => []) (fun z : (List S_impl_Tally) × (List S_impl_Value) × Int × Int => m_slices_BinarySearchFunc_Limpl_Tally_impl_Tally_Limpl_Value_j1 p2 z.1 z.2.1 z.2.2.1 z.2.2.2) r (fun _ => by simp [hkeys]) ?_ ?_
  ·rintro ⟨t0, t1, t8, t9⟩ h
   replace h : m_slices_BinarySearchFunc_Limpl_Tally_impl_Tally_Limpl_Value_j1 p2 t0 t1 t8 t9 = some _ := h
   refine LWP.join (α := Int × Bool) (fun z : Int × Bool => [(6, (e_int z.1)), (7, (e_bool z.2))]) (fun z : Int × Bool => []) (fun z : Int × Bool => m_slices_BinarySearchFunc_Limpl_Tally_impl_Tally_Limpl_Value_j2 p2 z.1 z.2) r (fun _ => by simp [hkeys]) ?_ ?_
   ·rintro ⟨t6, t7⟩ h
    replace h : m_slices_BinarySearchFunc_Limpl_Tally_impl_Tally_Limpl_Value_j2 p2 t6 t7 = some _ := h
    obtain rfl := Option.some.inj h
    refine LWP.ret (QG.mk (.inr rfl) (.cons (.tmp (x := (e_int t6)) rfl) (.cons (.tmp (x := (e_bool t7)) rfl) (.nil))) (RetOK.many0 (.cons (.pure rfl) (.cons (.pure rfl) (.nil))) (by simp) (by decide)) rfl rfl)
   ·intro N20 hN20
    refine LWP.region (l := [_,_,_,_,_,_,_,_,_,_,_,_,_,_,_,_]) ?_
    refine LWo.move (e_int t9) rfl (hn := ?_)
    refine LWo.move (e_int t9) rfl (hn := ?_)
    refine LWo.move (e_int t8) rfl (hn := ?_)
    refine LWo.int _ rfl rfl rfl (hn := ?_)
    refine LWo.move (e_bool (decide (t9 < t8))) rfl (hn := ?_)
    refine LWo.byCases (t := 39) _ rfl (fun h21 => ?_) (fun h21 => ?_)
    ·have h := bT h21 h
     refine LWo.guardY (t := 39) rfl h21 rfl rfl ?_
     refine LWo.move (.clo f2 q2) rfl (hn := ?_)
     refine LWo.guardY (t := 39) rfl h21 rfl rfl ?_
     refine LWo.move (e_Limpl_Tally t0) rfl (hn := ?_)
     refine LWo.guardY (t := 39) rfl h21 rfl rfl ?_
     refine LWo.move (e_int t9) rfl (hn := ?_)
     refine bk h fun x22 e22 h => ?_
     refine LWo.guardY (t := 39) rfl h21 rfl rfl ?_
     refine LWo.indexM (f := e_impl_Tally) e22 u_Limpl_Tally s_impl_Tally rfl rfl (hn := ?_)
     refine LWo.guardY (t := 39) rfl h21 rfl rfl ?_
     refine LWo.loadN ((e_impl_Tally x22)).cells g_impl_Tally s_impl_Tally rfl (Nat.le_of_ble_eq_true rfl) rfl (hn := ?_)
     refine LWo.guardY (t := 39) rfl h21 rfl rfl ?_
     refine LWo.move (e_Limpl_Value t1) rfl (hn := ?_)
     refine bk h fun x23 e23 h => ?_
     refine LWo.guardY (t := 39) rfl h21 rfl rfl ?_
     refine LWo.vcall rfl rfl (hf2 _ _ _ e23) .refl (hn := ?_)
     refine LWo.guardY (t := 39) rfl h21 rfl rfl ?_
     refine LWo.int _ rfl rfl rfl (hn := ?_)
     refine LWo.pickTM (e_bool (x23 == (0 : Int))) rfl h21 rfl (hn := ?_)
     refine LWo.assign (e_int t9) rfl (hn := ?_)
     refine LWo.assign (e_bool (x23 == (0 : Int))) rfl (hn := ?_)
     refine LWo.nil (hN20 (t9, (x23 == (0 : Int))) _ ⟨rfl, rfl, trivial⟩ trivial h)
    ·have h := bF h21 h
     refine LWo.guardNU (t := 39) rfl h21 rfl rfl rfl rfl rfl ?_
     refine LWo.guardNU (t := 39) rfl h21 rfl rfl rfl rfl rfl ?_
     refine LWo.guardNU (t := 39) rfl h21 rfl rfl rfl rfl rfl ?_
     refine LWo.guardNU (t := 39) rfl h21 rfl rfl rfl rfl rfl ?_
     refine LWo.guardNU (t := 39) rfl h21 rfl rfl rfl rfl rfl ?_
     refine LWo.guardNU (t := 39) rfl h21 rfl rfl rfl rfl rfl ?_
     refine LWo.guardNU (t := 39) rfl h21 rfl rfl rfl rfl rfl ?_
     refine LWo.guardNU (t := 39) rfl h21 rfl rfl rfl rfl rfl ?_
     refine LWo.pickFM (e_bool false) rfl h21 rfl (hn := ?_)
     refine LWo.assign (e_int t9) rfl (hn := ?_)
     refine LWo.assign (e_bool false) rfl (hn := ?_)
     refine LWo.nil (hN20 (t9, false) _ ⟨rfl, rfl, trivial⟩ trivial h)
  ·intro N4 hN4
   refine LWP.block ?_
   refine LWP.loopM (α := (List S_impl_Tally) × (List S_impl_Value) × Int × Int × Int) (fun z : (List S_impl_Tally) × (List S_impl_Value) × Int × Int × Int => [(0, (e_Limpl_Tally z.1)), (1, (e_Limpl_Value z.2.1)), (2, (.clo f2 q2)), (8, (e_int z.2.2.1)), (9, (e_int z.2.2.2.1)), (10, (e_int z.2.2.2.2))]) (fun z : (List S_impl_Tally) × (List S_impl_Value) × Int × Int × Int => []) (fun n1 (z : (List S_impl_Tally) × (List S_impl_Value) × Int × Int × Int) => m_slices_BinarySearchFunc_Limpl_Tally_impl_Tally_Limpl_Value_l1 p2 n1 z.1 z.2.1 z.2.2.1 z.2.2.2.1 z.2.2.2.2) r _ (a0, a1, (a0.length : Int), (0 : Int), (a0.length : Int)) h (fun _ => rfl) (fun _ => by simp [hkeys]) ⟨rfl, rfl, rfl, rfl, rfl, rfl, trivial⟩ trivial ?_
   rintro n1 ⟨t0, t1, t8, t9, t10⟩ h N5 hN5
   replace h : m_slices_BinarySearchFunc_Limpl_Tally_impl_Tally_Limpl_Value_l1 p2 (n1 + 1) t0 t1 t8 t9 t10 = some _ := h
   refine LWP.seq_k fun N7 hN7 => ?_
   refine LWP.seq_k fun N8 hN8 => ?_
   refine LWP.region (l := [_,_,_]) ?_
   refine LWo.move (e_int t9) rfl (hn := ?_)
   refine LWo.move (e_int t10) rfl (hn := ?_)
   refine LWo.int _ rfl rfl rfl (hn := ?_)
   refine LWo.nil (hN8 _ ?_)
   refine LWP.cond_split rfl (fun h9 => ?_) (fun h9 => ?_)
   ·have h := bT h9 h
    refine LWP.skip (hN7 _ ?_)
    refine LWP.block ?_
    refine LWP.seq_k fun N10 hN10 => ?_
    refine LWP.region (l := [_,_,_,_,_,_,_]) ?_
    refine LWo.move (e_int t9) rfl (hn := ?_)
    refine LWo.move (e_int t10) rfl (hn := ?_)
    refine bk h fun x11 e11 h => ?_
    refine LWo.int _ rfl rfl (add_ck e11) (hn := ?_)
    refine bk h fun x12 e12 h => ?_
    refine LWo.convIU e12 u_int u_uint rfl (hn := ?_)
    refine bk h fun x13 e13 h => ?_
    refine LWo.shrU e13 rfl rfl (hn := ?_)
    refine bk h fun x14 e14 h => ?_
    refine LWo.convUI e14 u_uint u_int rfl (hn := ?_)
    refine LWo.assign (e_int x14) rfl (hn := ?_)
    refine LWo.nil (hN10 _ ?_)
    refine LWP.seq_k fun N15 hN15 => ?_
    refine LWP.region (l := [_,_,_,_,_,_,_,_]) ?_
    refine LWo.move (.clo f2 q2) rfl (hn := ?_)
    refine LWo.move (e_Limpl_Tally t0) rfl (hn := ?_)
    refine LWo.move (e_int x14) rfl (hn := ?_)
    refine bk h fun x16 e16 h => ?_
    refine LWo.indexM (f := e_impl_Tally) e16 u_Limpl_Tally s_impl_Tally rfl rfl (hn := ?_)
    refine LWo.loadN ((e_impl_Tally x16)).cells g_impl_Tally s_impl_Tally rfl (Nat.le_of_ble_eq_true rfl) rfl (hn := ?_)
    refine LWo.move (e_Limpl_Value t1) rfl (hn := ?_)
    refine bk h fun x17 e17 h => ?_
    refine LWo.vcall rfl rfl (hf2 _ _ _ e17) .refl (hn := ?_)
    refine LWo.int _ rfl rfl rfl (hn := ?_)
    refine LWo.nil (hN15 _ ?_)
    refine LWP.cond_split rfl (fun h18 => ?_) (fun h18 => ?_)
    ·have h := bT h18 h
     refine LWP.region (l := [_,_,_]) ?_
     refine LWo.move (e_int x14) rfl (hn := ?_)
     refine bk h fun x19 e19 h => ?_
     refine LWo.int _ rfl rfl (add_ck e19) (hn := ?_)
     refine LWo.assign (e_int x19) rfl (hn := ?_)
     refine LWo.nil (hN5 (t0, t1, t8, x19, t10) _ ⟨rfl, rfl, rfl, rfl, rfl, rfl, trivial⟩ trivial h)
    ·have h := bF h18 h
     refine LWP.region (l := [_,_]) ?_
     refine LWo.move (e_int x14) rfl (hn := ?_)
     refine LWo.assign (e_int x14) rfl (hn := ?_)
     refine LWo.nil (hN5 (t0, t1, t8, t9, x14) _ ⟨rfl, rfl, rfl, rfl, rfl, rfl, trivial⟩ trivial h)
   ·have h := bF h9 h
    refine LWP.exit (hN4 (t0, t1, t8, t9) _ ⟨rfl, rfl, rfl, rfl, rfl, trivial⟩ trivial h)

def m_slices_CompareFunc_Limpl_Value_Limpl_Value_impl_Value_impl_Value_j1 (p2 : S_impl_Value → S_impl_Value → Option Int) (t0 : (List S_impl_Value)) (t1 : (List S_impl_Value)) : Option Int :=
  bif decide ((t0.length : Int) < (t1.length : Int)) then (some (-1 : Int))
  else (some (0 : Int))
def m_slices_CompareFunc_Limpl_Value_Limpl_Value_impl_Value_impl_Value_l1 (p2 : S_impl_Value → S_impl_Value → Option Int) : Nat → (List S_impl_Value) → (List S_impl_Value) → (List S_impl_Value) → Int → Int → Option Int
  | 0, _, _, _, _, _ => none
  | n1 + 1, t0, t1, t11, t12, t13 =>
    bif decide (t13 < t12) then ((at? t11 t13).bind fun x11 =>
    lt (x11) fun y12 =>
    bif decide (t13 ≥ (t1.length : Int)) then (some (1 : Int))
    else ((at? t1 t13).bind fun x18 =>
    lt (x18) fun y19 =>
    (p2 y12 y19).bind fun x21 =>
    bif (x21 != (0 : Int)) then (some x21)
    else ((ckI (t13 + (1 : Int))).bind fun x25 =>
    (m_slices_CompareFunc_Limpl_Value_Limpl_Value_impl_Value_impl_Value_l1 p2 n1) t0 t1 t11 t12 x25)))
    else (m_slices_CompareFunc_Limpl_Value_Limpl_Value_impl_Value_impl_Value_j1 p2 t0 t1)
def m_slices_CompareFunc_Limpl_Value_Limpl_Value_impl_Value_impl_Value (a0 : (List S_impl_Value)) (a1 : (List S_impl_Value)) (p2 : S_impl_Value → S_impl_Value → Option Int) : Option Int :=
  m_slices_CompareFunc_Limpl_Value_Limpl_Value_impl_Value_impl_Value_l1 p2 (((a0.length : Int) - (0 : Int)).toNat + 1) a0 a1 a0 (a0.length : Int) (0 : Int)
theorem c_slices_CompareFunc_Limpl_Value_Limpl_Value_impl_Value_impl_Value (a0 : (List S_impl_Value)) (a1 : (List S_impl_Value)) (p2 : S_impl_Value → S_impl_Value → Option Int) (f2 : FuncId) (q2 : List LV) (hq2 : ∀ k, LV.at?.atL k q2 = false) (hf2 : ∀ a0 a1 v, p2 a0 a1 = some v → Ret Try.prog f2 (e_impl_Value a0 :: e_impl_Value a1 :: q2) (e_int v)) (r : Int) (h : m_slices_CompareFunc_Limpl_Value_Limpl_Value_impl_Value_impl_Value a0 a1 p2 = some r) : Ret Try.prog f_slices_CompareFunc_Limpl_Value_Limpl_Value_impl_Value_impl_Value [e_Limpl_Value a0, e_Limpl_Value a1, .clo f2 q2] (e_int r) := by
  refine Does.goG [] F_slices_CompareFunc_Limpl_Value_Limpl_Value_impl_Value_impl_Value rfl e_slices_CompareFunc_Limpl_Value_Limpl_Value_impl_Value_impl_Value n_slices_CompareFunc_Limpl_Value_Limpl_Value_impl_Value_impl_Value rfl (rvs := [.tmp 6]) rfl rfl ?_
  intro w0 ok0 lent ρ0
  refine LWP.seq_k fun N1 hN1 => ?_
  refine LWP.region (l := [_]) ?_
  refine LWo.assign (e_int (0 : Int)) rfl (hn := ?_)
  refine LWo.nil (hN1 _ ?_)
  refine LWP.join (α := (List S_impl_Value) × (List S_impl_Value)) (fun z : (List S_impl_Value) × (List S_impl_Value) => [(0, (e_Limpl_Value z.1)), (1, (e_Limpl_Value z.2))]) (fun z : (List S_impl_Value) × (List S_impl_Value) => []) (fun z : (List S_impl_Value) × (List S_impl_Value) => m_slices_CompareFunc_Limpl_Value_Limpl_Value_impl_Value_impl_Value_j1 p2 z.1 z.2) r (fun _ => by simp [hkeys]) ?_ ?_
  ·rintro ⟨t0, t1⟩ h
   replace h : m_slices_CompareFunc_Limpl_Value_Limpl_Value_impl_Value_impl_Value_j1 p2 t0 t1 = some _ := h
   refine LWP.seq_k fun N26 hN26 => ?_
   refine LWP.seq_k fun N27 hN27 => ?_
   refine LWP.region (l := [_,_,_,_,_]) ?_
   refine LWo.move (e_Limpl_Value t0) rfl (hn := ?_)
   refine LWo.lenM (f := e_impl_Value) (l := t0) u_Limpl_Value rfl (hn := ?_)
   refine LWo.move (e_Limpl_Value t1) rfl (hn := ?_)
   refine LWo.lenM (f := e_impl_Value) (l := t1) u_Limpl_Value rfl (hn := ?_)
   refine LWo.int _ rfl rfl rfl (hn := ?_)
   refine LWo.nil (hN27 _ ?_)
   refine LWP.cond_split rfl (fun h28 => ?_) (fun h28 => ?_)
   ·have h := bT h28 h
    refine LWP.seq_k fun N29 hN29 => ?_
    refine LWP.region (l := [_]) ?_
    refine LWo.assign (e_int (-1 : Int)) rfl (hn := ?_)
    refine LWo.nil (hN29 _ ?_)
    obtain rfl := Option.some.inj h
    refine LWP.ret (QG.mk (.inr rfl) (.cons (.tmp (x := (e_int (-1 : Int))) rfl) (.nil)) (RetOK.one0 (.pure rfl) (by decide)) rfl rfl)
   ·have h := bF h28 h
    refine LWP.skip (hN26 _ ?_)
    refine LWP.seq_k fun N30 hN30 => ?_
    refine LWP.region (l := [_]) ?_
    refine LWo.assign (e_int (0 : Int)) rfl (hn := ?_)
    refine LWo.nil (hN30 _ ?_)
    obtain rfl := Option.some.inj h
    refine LWP.ret (QG.mk (.inr rfl) (.cons (.tmp (x := (e_int (0 : Int))) rfl) (.nil)) (RetOK.one0 (.pure rfl) (by decide)) rfl rfl)
  ·intro N2 hN2
   refine LWP.seq_k fun N3 hN3 => ?_
   refine LWP.region (l := [_,_,_]) ?_
   refine LWo.move (e_Limpl_Value a0) rfl (hn := ?_)
   refine LWo.lenM (f := e_impl_Value) (l := a0) u_Limpl_Value rfl (hn := ?_)
   refine LWo.move (e_int (0 : Int)) rfl (hn := ?_)
   refine LWo.nil (hN3 _ ?_)
   refine LWP.block ?_
   refine LWP.loopM (α := (List S_impl_Value) × (List S_impl_Value) × (List S_impl_Value) × Int × Int) (fun z : (List S_impl_Value) × (List S_impl_Value) × (List S_impl_Value) × Int × Int => [(0, (e_Limpl_Value z.1)), (1, (e_Limpl_Value z.2.1)), (2, (.clo f2 q2)), (11, (e_Limpl_Value z.2.2.1)), (12, (e_int z.2.2.2.1)), (13, (e_int z.2.2.2.2))]) (fun z : (List S_impl_Value) × (List S_impl_Value) × (List S_impl_Value) × Int × Int => []) (fun n1 (z : (List S_impl_Value) × (List S_impl_Value) × (List S_impl_Value) × Int × Int) => m_slices_CompareFunc_Limpl_Value_Limpl_Value_impl_Value_impl_Value_l1 p2 n1 z.1 z.2.1 z.2.2.1 z.2.2.2.1 z.2.2.2.2) r _ (a0, a1, a0, (a0.length : Int), (0 : Int)) h (fun _ => rfl) (fun _ => by simp [hkeys]) ⟨rfl, rfl, rfl, rfl, rfl, rfl, trivial⟩ trivial ?_
   rintro n1 ⟨t0, t1, t11, t12, t13⟩ h N4 hN4
   replace h : m_slices_CompareFunc_Limpl_Value_Limpl_Value_impl_Value_impl_Value_l1 p2 (n1 + 1) t0 t1 t11 t12 t13 = some _ := h
   refine LWP.seq_k fun N6 hN6 => ?_
   refine LWP.region (l := [_]) ?_
   refine LWo.int _ rfl rfl rfl (hn := ?_)
   refine LWo.nil (hN6 _ ?_)
   refine LWP.seq_k fun N7 hN7 => ?_
   refine LWP.cond_split rfl (fun h8 => ?_) (fun h8 => ?_)
   ·have h := bT h8 h
    refine LWP.skip (hN7 _ ?_)
    refine LWP.seq_k fun N9 hN9 => ?_
    refine LWP.block ?_
    refine LWP.seq_k fun N10 hN10 => ?_
    refine LWP.region (l := [_,_,_,_,_,_]) ?_
    refine LWo.move (e_int t13) rfl (hn := ?_)
    refine bk h fun x11 e11 h => ?_
    refine LWo.indexM (f := e_impl_Value) e11 u_Limpl_Value s_impl_Value rfl rfl (hn := ?_)
    refine LWo.loadN ((e_impl_Value x11)).cells g_impl_Value s_impl_Value rfl (Nat.le_of_ble_eq_true rfl) rfl (hn := ?_)
    refine LWo.alloc_impl_Value 8 rfl (hn := ?_)
    refine LWo.known 2 (.clo f2 q2) (get_kill_of rfl (hq2 8)) ?_
    refine LWo.assign (e_int t13) rfl (hn := ?_)
    refine lk h fun y12 e12 h => ?_
    refine LWo.storeW (y := (⟨(0 : Int), (0 : Int), (⟨#[]⟩ : ByteArray)⟩ : S_impl_Value)) y12 s_impl_Value rfl rfl rfl rfl rfl rfl (by rw [e12]; exact .refl) rfl (hn := ?_)
    refine LWo.nil (hN10 _ ?_)
    refine LWP.seq_k fun N13 hN13 => ?_
    refine LWP.seq_k fun N14 hN14 => ?_
    refine LWP.region (l := [_,_,_,_]) ?_
    refine LWo.move (e_int t13) rfl (hn := ?_)
    refine LWo.move (e_Limpl_Value t1) rfl (hn := ?_)
    refine LWo.lenM (f := e_impl_Value) (l := t1) u_Limpl_Value rfl (hn := ?_)
    refine LWo.int _ rfl rfl rfl (hn := ?_)
    refine LWo.nil (hN14 _ ?_)
    refine LWP.cond_split rfl (fun h15 => ?_) (fun h15 => ?_)
    ·have h := bT h15 h
     refine LWP.seq_k fun N16 hN16 => ?_
     refine LWP.region (l := [_]) ?_
     refine LWo.assign (e_int (1 : Int)) rfl (hn := ?_)
     refine LWo.nil (hN16 _ ?_)
     obtain rfl := Option.some.inj h
     refine LWP.ret (QG.mk (.inr rfl) (.cons (.tmp (x := (e_int (1 : Int))) rfl) (.nil)) (RetOK.one0 (.pure rfl) (by decide)) rfl rfl)
    ·have h := bF h15 h
     refine LWP.skip (hN13 _ ?_)
     refine LWP.seq_k fun N17 hN17 => ?_
     refine LWP.region (l := [_,_,_,_,_,_]) ?_
     refine LWo.move (e_Limpl_Value t1) rfl (hn := ?_)
     refine LWo.move (e_int t13) rfl (hn := ?_)
     refine bk h fun x18 e18 h => ?_
     refine LWo.indexM (f := e_impl_Value) e18 u_Limpl_Value s_impl_Value rfl rfl (hn := ?_)
     refine LWo.loadN ((e_impl_Value x18)).cells g_impl_Value s_impl_Value rfl (Nat.le_of_ble_eq_true rfl) rfl (hn := ?_)
     refine LWo.alloc_impl_Value 9 rfl (hn := ?_)
     refine LWo.known 2 (.clo f2 q2) (get_kill_of rfl (hq2 9)) ?_
     refine lk h fun y19 e19 h => ?_
     refine LWo.storeW (y := (⟨(0 : Int), (0 : Int), (⟨#[]⟩ : ByteArray)⟩ : S_impl_Value)) y19 s_impl_Value rfl rfl rfl rfl rfl rfl (by rw [e19]; exact .refl) rfl (hn := ?_)
     refine LWo.nil (hN17 _ ?_)
     refine LWP.seq_k fun N20 hN20 => ?_
     refine LWP.region (l := [_,_,_,_,_]) ?_
     refine LWo.move (.clo f2 q2) rfl (hn := ?_)
     refine LWo.loadVN ((e_impl_Value y12)).cells  g_impl_Value s_impl_Value rfl rfl rfl rfl (hn := ?_)
     refine LWo.loadVN ((e_impl_Value y19)).cells  g_impl_Value s_impl_Value rfl rfl rfl rfl (hn := ?_)
     refine bk h fun x21 e21 h => ?_
     refine LWo.vcall rfl rfl (hf2 _ _ _ e21) .refl (hn := ?_)
     refine LWo.assign (e_int x21) rfl (hn := ?_)
     refine LWo.nil (hN20 _ ?_)
     refine LWP.seq_k fun N22 hN22 => ?_
     refine LWP.region (l := [_,_]) ?_
     refine LWo.move (e_int x21) rfl (hn := ?_)
     refine LWo.int _ rfl rfl rfl (hn := ?_)
     refine LWo.nil (hN22 _ ?_)
     refine LWP.cond_split rfl (fun h23 => ?_) (fun h23 => ?_)
     ·have h := bT h23 h
      refine LWP.seq_k fun N24 hN24 => ?_
      refine LWP.region (l := [_,_]) ?_
      refine LWo.move (e_int x21) rfl (hn := ?_)
      refine LWo.assign (e_int x21) rfl (hn := ?_)
      refine LWo.nil (hN24 _ ?_)
      obtain rfl := Option.some.inj h
      refine LWP.ret (QG.mk (.inr rfl) (.cons (.tmp (x := (e_int x21)) rfl) (.nil)) (RetOK.one0 (.pure rfl) (by decide)) rfl rfl)
     ·have h := bF h23 h
      refine LWP.skip (hN9 _ ?_)
      refine LWP.region (l := [_,_]) ?_
      refine bk h fun x25 e25 h => ?_
      refine LWo.int _ rfl rfl (add_ck e25) (hn := ?_)
      refine LWo.move (e_int x25) rfl (hn := ?_)
      refine LWo.nil (hN4 (t0, t1, t11, t12, x25) _ ⟨rfl, rfl, rfl, rfl, rfl, rfl, trivial⟩ trivial h)
   ·have h := bF h8 h
    refine LWP.exit (hN2 (t0, t1) _ ⟨rfl, rfl, trivial⟩ trivial h)

def m_cmp_isNaN_int (a0 : Int) : Option Bool :=
  some (a0 != a0)
theorem c_cmp_isNaN_int (a0 : Int) (r : Bool) (h : m_cmp_isNaN_int a0 = some r) : Ret Try.prog f_cmp_isNaN_int [e_int a0] (e_bool r) := by
  refine Does.goG [] F_cmp_isNaN_int rfl e_cmp_isNaN_int n_cmp_isNaN_int rfl (rvs := [.tmp 2]) rfl rfl ?_
  intro w0 ok0 lent ρ0
  refine LWP.seq_k fun N1 hN1 => ?_
  refine LWP.region (l := [_]) ?_
  refine LWo.assign (e_bool false) rfl (hn := ?_)
  refine LWo.nil (hN1 _ ?_)
  refine LWP.seq_k fun N2 hN2 => ?_
  refine LWP.region (l := [_,_,_,_]) ?_
  refine LWo.move (e_int a0) rfl (hn := ?_)
  refine LWo.move (e_int a0) rfl (hn := ?_)
  refine LWo.int _ rfl rfl rfl (hn := ?_)
  refine LWo.assign (e_bool (a0 != a0)) rfl (hn := ?_)
  refine LWo.nil (hN2 _ ?_)
  obtain rfl := Option.some.inj h
  refine LWP.ret (QG.mk (.inr rfl) (.cons (.tmp (x := (e_bool (a0 != a0))) rfl) (.nil)) (RetOK.one0 (.pure rfl) (by decide)) rfl rfl)

def m_cmp_Compare_int (a0 : Int) (a1 : Int) : Option Int :=
  (m_cmp_isNaN_int a0).bind fun x3 =>
  (m_cmp_isNaN_int a1).bind fun x5 =>
  bif x3 then (bif x5 then (some (0 : Int))
    else (some (-1 : Int)))
  else (bif x5 then (some (1 : Int))
  else (bif decide (a0 < a1) then (some (-1 : Int))
  else (bif decide (a0 > a1) then (some (1 : Int))
  else (some (0 : Int)))))
theorem c_cmp_Compare_int (a0 : Int) (a1 : Int) (r : Int) (h : m_cmp_Compare_int a0 a1 = some r) : Ret Try.prog f_cmp_Compare_int [e_int a0, e_int a1] (e_int r) := by
  refine Does.goG [] F_cmp_Compare_int rfl e_cmp_Compare_int n_cmp_Compare_int rfl (rvs := [.tmp 4]) rfl rfl ?_
  intro w0 ok0 lent ρ0
  refine LWP.seq_k fun N1 hN1 => ?_
  refine LWP.region (l := [_]) ?_
  refine LWo.assign (e_int (0 : Int)) rfl (hn := ?_)
  refine LWo.nil (hN1 _ ?_)
  refine LWP.seq_k fun N2 hN2 => ?_
  refine LWP.region (l := [_,_,_]) ?_
  refine LWo.move (e_int a0) rfl (hn := ?_)
  refine bk h fun x3 e3 h => ?_
  refine LWo.vcall rfl rfl (c_cmp_isNaN_int _ _ e3) (.same (.nil)) (hn := ?_)
  refine LWo.assign (e_bool x3) rfl (hn := ?_)
  refine LWo.nil (hN2 _ ?_)
  refine LWP.seq_k fun N4 hN4 => ?_
  refine LWP.region (l := [_,_,_]) ?_
  refine LWo.move (e_int a1) rfl (hn := ?_)
  refine bk h fun x5 e5 h => ?_
  refine LWo.vcall rfl rfl (c_cmp_isNaN_int _ _ e5) (.same (.nil)) (hn := ?_)
  refine LWo.assign (e_bool x5) rfl (hn := ?_)
  refine LWo.nil (hN4 _ ?_)
  refine LWP.seq_k fun N6 hN6 => ?_
  refine LWP.seq_k fun N7 hN7 => ?_
  refine LWP.region (l := [_]) ?_
  refine LWo.move (e_bool x3) rfl (hn := ?_)
  refine LWo.nil (hN7 _ ?_)
  refine LWP.cond_split rfl (fun h8 => ?_) (fun h8 => ?_)
  ·have h := bT h8 h
   refine LWP.seq_k fun N9 hN9 => ?_
   refine LWP.seq_k fun N10 hN10 => ?_
   refine LWP.region (l := [_]) ?_
   refine LWo.move (e_bool x5) rfl (hn := ?_)
   refine LWo.nil (hN10 _ ?_)
   refine LWP.cond_split rfl (fun h11 => ?_) (fun h11 => ?_)
   ·have h := bT h11 h
    refine LWP.seq_k fun N12 hN12 => ?_
    refine LWP.region (l := [_]) ?_
    refine LWo.assign (e_int (0 : Int)) rfl (hn := ?_)
    refine LWo.nil (hN12 _ ?_)
    obtain rfl := Option.some.inj h
    refine LWP.ret (QG.mk (.inr rfl) (.cons (.tmp (x := (e_int (0 : Int))) rfl) (.nil)) (RetOK.one0 (.pure rfl) (by decide)) rfl rfl)
   ·have h := bF h11 h
    refine LWP.skip (hN9 _ ?_)
    refine LWP.seq_k fun N13 hN13 => ?_
    refine LWP.region (l := [_]) ?_
    refine LWo.assign (e_int (-1 : Int)) rfl (hn := ?_)
    refine LWo.nil (hN13 _ ?_)
    obtain rfl := Option.some.inj h
    refine LWP.ret (QG.mk (.inr rfl) (.cons (.tmp (x := (e_int (-1 : Int))) rfl) (.nil)) (RetOK.one0 (.pure rfl) (by decide)) rfl rfl)
  ·have h := bF h8 h
   refine LWP.skip (hN6 _ ?_)
   refine LWP.seq_k fun N14 hN14 => ?_
   refine LWP.seq_k fun N15 hN15 => ?_
   refine LWP.region (l := [_]) ?_
   refine LWo.move (e_bool x5) rfl (hn := ?_)
   refine LWo.nil (hN15 _ ?_)
   refine LWP.cond_split rfl (fun h16 => ?_) (fun h16 => ?_)
   ·have h := bT h16 h
    refine LWP.seq_k fun N17 hN17 => ?_
    refine LWP.region (l := [_]) ?_
    refine LWo.assign (e_int (1 : Int)) rfl (hn := ?_)
    refine LWo.nil (hN17 _ ?_)
    obtain rfl := Option.some.inj h
    refine LWP.ret (QG.mk (.inr rfl) (.cons (.tmp (x := (e_int (1 : Int))) rfl) (.nil)) (RetOK.one0 (.pure rfl) (by decide)) rfl rfl)
   ·have h := bF h16 h
    refine LWP.skip (hN14 _ ?_)
    refine LWP.seq_k fun N18 hN18 => ?_
    refine LWP.seq_k fun N19 hN19 => ?_
    refine LWP.region (l := [_,_,_]) ?_
    refine LWo.move (e_int a0) rfl (hn := ?_)
    refine LWo.move (e_int a1) rfl (hn := ?_)
    refine LWo.int _ rfl rfl rfl (hn := ?_)
    refine LWo.nil (hN19 _ ?_)
    refine LWP.cond_split rfl (fun h20 => ?_) (fun h20 => ?_)
    ·have h := bT h20 h
     refine LWP.seq_k fun N21 hN21 => ?_
     refine LWP.region (l := [_]) ?_
     refine LWo.assign (e_int (-1 : Int)) rfl (hn := ?_)
     refine LWo.nil (hN21 _ ?_)
     obtain rfl := Option.some.inj h
     refine LWP.ret (QG.mk (.inr rfl) (.cons (.tmp (x := (e_int (-1 : Int))) rfl) (.nil)) (RetOK.one0 (.pure rfl) (by decide)) rfl rfl)
    ·have h := bF h20 h
     refine LWP.skip (hN18 _ ?_)
     refine LWP.seq_k fun N22 hN22 => ?_
     refine LWP.seq_k fun N23 hN23 => ?_
     refine LWP.region (l := [_,_,_]) ?_
     refine LWo.move (e_int a0) rfl (hn := ?_)
     refine LWo.move (e_int a1) rfl (hn := ?_)
     refine LWo.int _ rfl rfl rfl (hn := ?_)
     refine LWo.nil (hN23 _ ?_)
     refine LWP.cond_split rfl (fun h24 => ?_) (fun h24 => ?_)
     ·have h := bT h24 h
      refine LWP.seq_k fun N25 hN25 => ?_
      refine LWP.region (l := [_]) ?_
      refine LWo.assign (e_int (1 : Int)) rfl (hn := ?_)
      refine LWo.nil (hN25 _ ?_)
      obtain rfl := Option.some.inj h
      refine LWP.ret (QG.mk (.inr rfl) (.cons (.tmp (x := (e_int (1 : Int))) rfl) (.nil)) (RetOK.one0 (.pure rfl) (by decide)) rfl rfl)
     ·have h := bF h24 h
      refine LWP.skip (hN22 _ ?_)
      refine LWP.seq_k fun N26 hN26 => ?_
      refine LWP.region (l := [_]) ?_
      refine LWo.assign (e_int (0 : Int)) rfl (hn := ?_)
      refine LWo.nil (hN26 _ ?_)
      obtain rfl := Option.some.inj h
      refine LWP.ret (QG.mk (.inr rfl) (.cons (.tmp (x := (e_int (0 : Int))) rfl) (.nil)) (RetOK.one0 (.pure rfl) (by decide)) rfl rfl)

def m_cmp_isNaN_string (a0 : ByteArray) : Option Bool :=
  some (!(sEq a0 a0))
theorem c_cmp_isNaN_string (a0 : ByteArray) (r : Bool) (h : m_cmp_isNaN_string a0 = some r) : Ret Try.prog f_cmp_isNaN_string [e_string a0] (e_bool r) := by
  refine Does.goG [] F_cmp_isNaN_string rfl e_cmp_isNaN_string n_cmp_isNaN_string rfl (rvs := [.tmp 2]) rfl rfl ?_
  intro w0 ok0 lent ρ0
  refine LWP.seq_k fun N1 hN1 => ?_
  refine LWP.region (l := [_]) ?_
  refine LWo.assign (e_bool false) rfl (hn := ?_)
  refine LWo.nil (hN1 _ ?_)
  refine LWP.seq_k fun N2 hN2 => ?_
  refine LWP.region (l := [_,_,_,_]) ?_
  refine LWo.move (e_string a0) rfl (hn := ?_)
  refine LWo.move (e_string a0) rfl (hn := ?_)
  refine LWo.str _ rfl rfl rfl (hn := ?_)
  refine LWo.assign (e_bool (!(sEq a0 a0))) rfl (hn := ?_)
  refine LWo.nil (hN2 _ ?_)
  obtain rfl := Option.some.inj h
  refine LWP.ret (QG.mk (.inr rfl) (.cons (.tmp (x := (e_bool (!(sEq a0 a0)))) rfl) (.nil)) (RetOK.one0 (.pure rfl) (by decide)) rfl rfl)

def m_cmp_Compare_string (a0 : ByteArray) (a1 : ByteArray) : Option Int :=
  (m_cmp_isNaN_string a0).bind fun x3 =>
  (m_cmp_isNaN_string a1).bind fun x5 =>
  bif x3 then (bif x5 then (some (0 : Int))
    else (some (-1 : Int)))
  else (bif x5 then (some (1 : Int))
  else (bif (sLt a0 a1) then (some (-1 : Int))
  else (bif (!(sLt a0 a1 || sEq a0 a1)) then (some (1 : Int))
  else (some (0 : Int)))))
theorem c_cmp_Compare_string (a0 : ByteArray) (a1 : ByteArray) (r : Int) (h : m_cmp_Compare_string a0 a1 = some r) : Ret Try.prog f_cmp_Compare_string [e_string a0, e_string a1] (e_int r) := by
  refine Does.goG [] F_cmp_Compare_string rfl e_cmp_Compare_string n_cmp_Compare_string rfl (rvs := [.tmp 4]) rfl rfl ?_
  intro w0 ok0 lent ρ0
  refine LWP.seq_k fun N1 hN1 => ?_
  refine LWP.region (l := [_]) ?_
  refine LWo.assign (e_int (0 : Int)) rfl (hn := ?_)
  refine LWo.nil (hN1 _ ?_)
  refine LWP.seq_k fun N2 hN2 => ?_
  refine LWP.region (l := [_,_,_]) ?_
  refine LWo.move (e_string a0) rfl (hn := ?_)
  refine bk h fun x3 e3 h => ?_
  refine LWo.vcall rfl rfl (c_cmp_isNaN_string _ _ e3) (.same (.nil)) (hn := ?_)
  refine LWo.assign (e_bool x3) rfl (hn := ?_)
  refine LWo.nil (hN2 _ ?_)
  refine LWP.seq_k fun N4 hN4 => ?_
  refine LWP.region (l := [_,_,_]) ?_
  refine LWo.move (e_string a1) rfl (hn := ?_)
  refine bk h fun x5 e5 h => ?_
  refine LWo.vcall rfl rfl (c_cmp_isNaN_string _ _ e5) (.same (.nil)) (hn := ?_)
  refine LWo.assign (e_bool x5) rfl (hn := ?_)
  refine LWo.nil (hN4 _ ?_)
  refine LWP.seq_k fun N6 hN6 => ?_
  refine LWP.seq_k fun N7 hN7 => ?_
  refine LWP.region (l := [_]) ?_
  refine LWo.move (e_bool x3) rfl (hn := ?_)
  refine LWo.nil (hN7 _ ?_)
  refine LWP.cond_split rfl (fun h8 => ?_) (fun h8 => ?_)
  ·have h := bT h8 h
   refine LWP.seq_k fun N9 hN9 => ?_
   refine LWP.seq_k fun N10 hN10 => ?_
   refine LWP.region (l := [_]) ?_
   refine LWo.move (e_bool x5) rfl (hn := ?_)
   refine LWo.nil (hN10 _ ?_)
   refine LWP.cond_split rfl (fun h11 => ?_) (fun h11 => ?_)
   ·have h := bT h11 h
    refine LWP.seq_k fun N12 hN12 => ?_
    refine LWP.region (l := [_]) ?_
    refine LWo.assign (e_int (0 : Int)) rfl (hn := ?_)
    refine LWo.nil (hN12 _ ?_)
    obtain rfl := Option.some.inj h
    refine LWP.ret (QG.mk (.inr rfl) (.cons (.tmp (x := (e_int (0 : Int))) rfl) (.nil)) (RetOK.one0 (.pure rfl) (by decide)) rfl rfl)
   ·have h := bF h11 h
    refine LWP.skip (hN9 _ ?_)
    refine LWP.seq_k fun N13 hN13 => ?_
    refine LWP.region (l := [_]) ?_
    refine LWo.assign (e_int (-1 : Int)) rfl (hn := ?_)
    refine LWo.nil (hN13 _ ?_)
    obtain rfl := Option.some.inj h
    refine LWP.ret (QG.mk (.inr rfl) (.cons (.tmp (x := (e_int (-1 : Int))) rfl) (.nil)) (RetOK.one0 (.pure rfl) (by decide)) rfl rfl)
  ·have h := bF h8 h
   refine LWP.skip (hN6 _ ?_)
   refine LWP.seq_k fun N14 hN14 => ?_
   refine LWP.seq_k fun N15 hN15 => ?_
   refine LWP.region (l := [_]) ?_
   refine LWo.move (e_bool x5) rfl (hn := ?_)
   refine LWo.nil (hN15 _ ?_)
   refine LWP.cond_split rfl (fun h16 => ?_) (fun h16 => ?_)
   ·have h := bT h16 h
    refine LWP.seq_k fun N17 hN17 => ?_
    refine LWP.region (l := [_]) ?_
    refine LWo.assign (e_int (1 : Int)) rfl (hn := ?_)
    refine LWo.nil (hN17 _ ?_)
    obtain rfl := Option.some.inj h
    refine LWP.ret (QG.mk (.inr rfl) (.cons (.tmp (x := (e_int (1 : Int))) rfl) (.nil)) (RetOK.one0 (.pure rfl) (by decide)) rfl rfl)
   ·have h := bF h16 h
    refine LWP.skip (hN14 _ ?_)
    refine LWP.seq_k fun N18 hN18 => ?_
    refine LWP.seq_k fun N19 hN19 => ?_
    refine LWP.region (l := [_,_,_]) ?_
    refine LWo.move (e_string a0) rfl (hn := ?_)
    refine LWo.move (e_string a1) rfl (hn := ?_)
    refine LWo.str _ rfl rfl rfl (hn := ?_)
    refine LWo.nil (hN19 _ ?_)
    refine LWP.cond_split rfl (fun h20 => ?_) (fun h20 => ?_)
    ·have h := bT h20 h
     refine LWP.seq_k fun N21 hN21 => ?_
     refine LWP.region (l := [_]) ?_
     refine LWo.assign (e_int (-1 : Int)) rfl (hn := ?_)
     refine LWo.nil (hN21 _ ?_)
     obtain rfl := Option.some.inj h
     refine LWP.ret (QG.mk (.inr rfl) (.cons (.tmp (x := (e_int (-1 : Int))) rfl) (.nil)) (RetOK.one0 (.pure rfl) (by decide)) rfl rfl)
    ·have h := bF h20 h
     refine LWP.skip (hN18 _ ?_)
     refine LWP.seq_k fun N22 hN22 => ?_
     refine LWP.seq_k fun N23 hN23 => ?_
     refine LWP.region (l := [_,_,_]) ?_
     refine LWo.move (e_string a0) rfl (hn := ?_)
     refine LWo.move (e_string a1) rfl (hn := ?_)
     refine LWo.str _ rfl rfl rfl (hn := ?_)
     refine LWo.nil (hN23 _ ?_)
     refine LWP.cond_split rfl (fun h24 => ?_) (fun h24 => ?_)
     ·have h := bT h24 h
      refine LWP.seq_k fun N25 hN25 => ?_
      refine LWP.region (l := [_]) ?_
      refine LWo.assign (e_int (1 : Int)) rfl (hn := ?_)
      refine LWo.nil (hN25 _ ?_)
      obtain rfl := Option.some.inj h
      refine LWP.ret (QG.mk (.inr rfl) (.cons (.tmp (x := (e_int (1 : Int))) rfl) (.nil)) (RetOK.one0 (.pure rfl) (by decide)) rfl rfl)
     ·have h := bF h24 h
      refine LWP.skip (hN22 _ ?_)
      refine LWP.seq_k fun N26 hN26 => ?_
      refine LWP.region (l := [_]) ?_
      refine LWo.assign (e_int (0 : Int)) rfl (hn := ?_)
      refine LWo.nil (hN26 _ ?_)
      obtain rfl := Option.some.inj h
      refine LWP.ret (QG.mk (.inr rfl) (.cons (.tmp (x := (e_int (0 : Int))) rfl) (.nil)) (RetOK.one0 (.pure rfl) (by decide)) rfl rfl)

def m_cmp_Or_int_j1 (t3 : Int) : Option Int :=
  some t3
def m_cmp_Or_int_l1 : Nat → Int → (List Int) → Int → Int → Option Int
  | 0, _, _, _, _ => none
  | n1 + 1, t3, t6, t7, t8 =>
    bif decide (t8 < t7) then ((at? t6 t8).bind fun x12 =>
    bif (x12 != t3) then (some x12)
    else ((ckI (t8 + (1 : Int))).bind fun x16 =>
    (m_cmp_Or_int_l1  n1) t3 t6 t7 x16))
    else (m_cmp_Or_int_j1  t3)
def m_cmp_Or_int (a0 : (List Int)) : Option Int :=
  m_cmp_Or_int_l1  (((a0.length : Int) - (0 : Int)).toNat + 1) (0 : Int) a0 (a0.length : Int) (0 : Int)
theorem c_cmp_Or_int (a0 : (List Int)) (r : Int) (h : m_cmp_Or_int a0 = some r) : Ret Try.prog f_cmp_Or_int [e_Lint a0] (e_int r) := by
  refine Does.goG [] F_cmp_Or_int rfl e_cmp_Or_int n_cmp_Or_int rfl (rvs := [.tmp 2]) rfl rfl ?_
  intro w0 ok0 lent ρ0
  refine LWP.seq_k fun N1 hN1 => ?_
  refine LWP.region (l := [_]) ?_
  refine LWo.assign (e_int (0 : Int)) rfl (hn := ?_)
  refine LWo.nil (hN1 _ ?_)
  refine LWP.seq_k fun N2 hN2 => ?_
  refine LWP.region (l := [_]) ?_
  refine LWo.assign (e_int (0 : Int)) rfl (hn := ?_)
  refine LWo.nil (hN2 _ ?_)
  refine LWP.join (α := Int) (fun z : Int => [(3, (e_int z))]) (fun z : Int => []) (fun z : Int => m_cmp_Or_int_j1  z) r (fun _ => by simp [hkeys]) ?_ ?_
  ·rintro t3 h
   replace h : m_cmp_Or_int_j1  t3 = some _ := h
   refine LWP.seq_k fun N17 hN17 => ?_
   refine LWP.region (l := [_,_]) ?_
   refine LWo.move (e_int t3) rfl (hn := ?_)
   refine LWo.assign (e_int t3) rfl (hn := ?_)
   refine LWo.nil (hN17 _ ?_)
   obtain rfl := Option.some.inj h
   refine LWP.ret (QG.mk (.inr rfl) (.cons (.tmp (x := (e_int t3)) rfl) (.nil)) (RetOK.one0 (.pure rfl) (by decide)) rfl rfl)
  ·intro N3 hN3
   refine LWP.seq_k fun N4 hN4 => ?_
   refine LWP.region (l := [_,_,_]) ?_
   refine LWo.move (e_Lint a0) rfl (hn := ?_)
   refine LWo.lenM (f := e_int) (l := a0) u_Lint rfl (hn := ?_)
   refine LWo.move (e_int (0 : Int)) rfl (hn := ?_)
   refine LWo.nil (hN4 _ ?_)
   refine LWP.block ?_
   refine LWP.loopM (α := Int × (List Int) × Int × Int) (fun z : Int × (List Int) × Int × Int => [(3, (e_int z.1)), (6, (e_Lint z.2.1)), (7, (e_int z.2.2.1)), (8, (e_int z.2.2.2))]) (fun z : Int × (List Int) × Int × Int => []) (fun n1 (z : Int × (List Int) × Int × Int) => m_cmp_Or_int_l1  n1 z.1 z.2.1 z.2.2.1 z.2.2.2) r _ ((0 : Int), a0, (a0.length : Int), (0 : Int)) h (fun _ => rfl) (fun _ => by simp [hkeys]) ⟨rfl, rfl, rfl, rfl, trivial⟩ trivial ?_
   rintro n1 ⟨t3, t6, t7, t8⟩ h N5 hN5
   replace h : m_cmp_Or_int_l1  (n1 + 1) t3 t6 t7 t8 = some _ := h
   refine LWP.seq_k fun N7 hN7 => ?_
   refine LWP.region (l := [_]) ?_
   refine LWo.int _ rfl rfl rfl (hn := ?_)
   refine LWo.nil (hN7 _ ?_)
   refine LWP.seq_k fun N8 hN8 => ?_
   refine LWP.cond_split rfl (fun h9 => ?_) (fun h9 => ?_)
   ·have h := bT h9 h
    refine LWP.skip (hN8 _ ?_)
    refine LWP.seq_k fun N10 hN10 => ?_
    refine LWP.block ?_
    refine LWP.seq_k fun N11 hN11 => ?_
    refine LWP.region (l := [_,_,_]) ?_
    refine bk h fun x12 e12 h => ?_
    refine LWo.indexM (f := e_int) e12 u_Lint s_int rfl rfl (hn := ?_)
    refine LWo.load1 (c := (e_int x12)) g_int rfl (hn := ?_)
    refine LWo.assign (e_int x12) rfl (hn := ?_)
    refine LWo.nil (hN11 _ ?_)
    refine LWP.seq_k fun N13 hN13 => ?_
    refine LWP.region (l := [_,_,_]) ?_
    refine LWo.move (e_int x12) rfl (hn := ?_)
    refine LWo.move (e_int t3) rfl (hn := ?_)
    refine LWo.int _ rfl rfl rfl (hn := ?_)
    refine LWo.nil (hN13 _ ?_)
    refine LWP.cond_split rfl (fun h14 => ?_) (fun h14 => ?_)
    ·have h := bT h14 h
     refine LWP.seq_k fun N15 hN15 => ?_
     refine LWP.region (l := [_,_]) ?_
     refine LWo.move (e_int x12) rfl (hn := ?_)
     refine LWo.assign (e_int x12) rfl (hn := ?_)
     refine LWo.nil (hN15 _ ?_)
     obtain rfl := Option.some.inj h
     refine LWP.ret (QG.mk (.inr rfl) (.cons (.tmp (x := (e_int x12)) rfl) (.nil)) (RetOK.one0 (.pure rfl) (by decide)) rfl rfl)
    ·have h := bF h14 h
     refine LWP.skip (hN10 _ ?_)
     refine LWP.region (l := [_,_]) ?_
     refine bk h fun x16 e16 h => ?_
     refine LWo.int _ rfl rfl (add_ck e16) (hn := ?_)
     refine LWo.move (e_int x16) rfl (hn := ?_)
     refine LWo.nil (hN5 (t3, t6, t7, x16) _ ⟨rfl, rfl, rfl, rfl, trivial⟩ trivial h)
   ·have h := bF h9 h
    refine LWP.exit (hN3 t3 _ ⟨rfl, trivial⟩ trivial h)

def m_impl_Value_order (a0 : S_impl_Value) (a1 : S_impl_Value) : Option Int :=
  (m_cmp_Compare_int a0.Kind a1.Kind).bind fun x3 =>
  (m_cmp_Compare_int a0.N a1.N).bind fun x4 =>
  (m_cmp_Compare_string a0.S a1.S).bind fun x5 =>
  (m_cmp_Or_int ([x3, x4, x5] : (List Int))).bind fun x6 =>
  some x6
theorem c_impl_Value_order (a0 : S_impl_Value) (a1 : S_impl_Value) (r : Int) (h : m_impl_Value_order a0 a1 = some r) : Ret Try.prog f_impl_Value_order [e_impl_Value a0, e_impl_Value a1] (e_int r) := by
  refine Does.goG [] F_impl_Value_order rfl e_impl_Value_order n_impl_Value_order rfl (rvs := [.tmp 4]) rfl rfl ?_
  intro w0 ok0 lent ρ0
  refine LWP.seq_k fun N1 hN1 => ?_
  refine LWP.region (l := [_,_,_]) ?_
  refine LWo.boxF (e_impl_Value a0) rfl rfl rfl (hn := ?_)
  refine LWo.boxF (e_impl_Value a1) rfl rfl rfl (hn := ?_)
  refine LWo.assign (e_int (0 : Int)) rfl (hn := ?_)
  refine LWo.nil (hN1 _ ?_)
  refine LWP.seq_k fun N2 hN2 => ?_
  refine bk h fun x3 e3 h => ?_
  refine bk h fun x4 e4 h => ?_
  refine bk h fun x5 e5 h => ?_
  refine bk h fun x6 e6 h => ?_
  refine LWP.drawF (l := [_,_,_,_,_,_,_,_,_,_,_,_,_,_,_,_,_,_]) [] [2, 3] [([2], []), ([5], []), ([3], []), ([7], []), ([6, 8], []), ([2], []), ([10], []), ([3], []), ([12], []), ([11, 13], []), ([2], []), ([15], []), ([3], []), ([17], []), ([16, 18], []), ([9, 14, 19], []), ([20], []), ([21], [])] [4] [] mixed (by kernel_rfl) rfl (by decide) ?_
  refine dq 5 rfl (fun _ g u h => LWo.fieldAddr _ u_impl_Value rfl s_int u.1 rfl (hn := .nil (zn g))) ?_
  refine dq 6 rfl (fun _ g u h => LWo.load1 (c := (e_int a0.Kind)) g_int u.1 (hn := .nil (zn g))) ?_
  refine dq 7 rfl (fun _ g u h => LWo.fieldAddr _ u_impl_Value rfl s_int u.1 rfl (hn := .nil (zn g))) ?_
  refine dq 8 rfl (fun _ g u h => LWo.load1 (c := (e_int a1.Kind)) g_int u.1 (hn := .nil (zn g))) ?_
  refine dq 9 rfl (fun _ g u h => LWo.vcall rfl (av2 u.1 u.2.1) (c_cmp_Compare_int _ _ _ e3) (.same (.same (.nil))) (hn := .nil (zn g))) ?_
  refine dq 10 rfl (fun _ g u h => LWo.fieldAddr _ u_impl_Value rfl s_int u.1 rfl (hn := .nil (zn g))) ?_
  refine dq 11 rfl (fun _ g u h => LWo.load1 (c := (e_int a0.N)) g_int u.1 (hn := .nil (zn g))) ?_
  refine dq 12 rfl (fun _ g u h => LWo.fieldAddr _ u_impl_Value rfl s_int u.1 rfl (hn := .nil (zn g))) ?_
  refine dq 13 rfl (fun _ g u h => LWo.load1 (c := (e_int a1.N)) g_int u.1 (hn := .nil (zn g))) ?_
  refine dq 14 rfl (fun _ g u h => LWo.vcall rfl (av2 u.1 u.2.1) (c_cmp_Compare_int _ _ _ e4) (.same (.same (.nil))) (hn := .nil (zn g))) ?_
  refine dq 15 rfl (fun _ g u h => LWo.fieldAddr _ u_impl_Value rfl s_string u.1 rfl (hn := .nil (zn g))) ?_
  refine dq 16 rfl (fun _ g u h => LWo.load1 (c := (e_string a0.S)) g_string u.1 (hn := .nil (zn g))) ?_
  refine dq 17 rfl (fun _ g u h => LWo.fieldAddr _ u_impl_Value rfl s_string u.1 rfl (hn := .nil (zn g))) ?_
  refine dq 18 rfl (fun _ g u h => LWo.load1 (c := (e_string a1.S)) g_string u.1 (hn := .nil (zn g))) ?_
  refine dq 19 rfl (fun _ g u h => LWo.vcall rfl (av2 u.1 u.2.1) (c_cmp_Compare_string _ _ _ e5) (.same (.same (.nil))) (hn := .nil (zn g))) ?_
  refine dq 20 rfl (fun _ g u h => LWo.lit (ops := [_, _, _]) [(e_int x3), (e_int x4), (e_int x5)] u_Lint s_int z_int (lv3 u.1 u.2.1 u.2.2.1) rfl rfl rfl rfl rfl (hn := .nil (zn g))) ?_
  refine dq 21 rfl (fun _ g u h => LWo.vcall rfl (av1 u.1) (c_cmp_Or_int _ _ e6) (.same (.nil)) (hn := .nil (zn g))) ?_
  refine dq 4 rfl (fun _ g u h => LWo.assign (e_int x6) u.1 (hn := .nil (zn g))) ?_
  refine ⟨rfl, by kernel_rfl, hN2 _ ?_⟩
  obtain rfl := Option.some.inj h
  refine LWP.ret (QG.mk (.inr rfl) (.cons (.tmp (x := (e_int x6)) rfl) (.nil)) (RetOK.one0 (.pure rfl) (by decide)) rfl rfl)

def m_impl_rowOrder (a0 : (List S_impl_Value)) (a1 : (List S_impl_Value)) : Option Int :=
  (m_slices_CompareFunc_Limpl_Value_Limpl_Value_impl_Value_impl_Value a0 a1 (fun b0_ b1_ => m_impl_Value_order b0_ b1_ )).bind fun x3 =>
  (m_cmp_Compare_int (a0.length : Int) (a1.length : Int)).bind fun x4 =>
  (m_cmp_Or_int ([x3, x4] : (List Int))).bind fun x5 =>
  some x5
theorem c_impl_rowOrder (a0 : (List S_impl_Value)) (a1 : (List S_impl_Value)) (r : Int) (h : m_impl_rowOrder a0 a1 = some r) : Ret Try.prog f_impl_rowOrder [e_Limpl_Value a0, e_Limpl_Value a1] (e_int r) := by
  refine Does.goG [] F_impl_rowOrder rfl e_impl_rowOrder n_impl_rowOrder rfl (rvs := [.tmp 4]) rfl rfl ?_
  intro w0 ok0 lent ρ0
  refine LWP.seq_k fun N1 hN1 => ?_
  refine LWP.region (l := [_]) ?_
  refine LWo.assign (e_int (0 : Int)) rfl (hn := ?_)
  refine LWo.nil (hN1 _ ?_)
  refine LWP.seq_k fun N2 hN2 => ?_
  refine LWP.region (l := [_,_,_,_,_,_,_,_,_,_,_]) ?_
  refine LWo.move (e_Limpl_Value a0) rfl (hn := ?_)
  refine LWo.move (e_Limpl_Value a1) rfl (hn := ?_)
  refine bk h fun x3 e3 h => ?_
  refine LWo.vcall rfl rfl (c_slices_CompareFunc_Limpl_Value_Limpl_Value_impl_Value_impl_Value _ _ _ f_impl_Value_order [] (fun _ => rfl) (fun b0_ b1_ v hv => c_impl_Value_order b0_ b1_  v hv) _ e3) (.same (.same (.same (.nil)))) (hn := ?_)
  refine LWo.move (e_Limpl_Value a0) rfl (hn := ?_)
  refine LWo.lenM (f := e_impl_Value) (l := a0) u_Limpl_Value rfl (hn := ?_)
  refine LWo.move (e_Limpl_Value a1) rfl (hn := ?_)
  refine LWo.lenM (f := e_impl_Value) (l := a1) u_Limpl_Value rfl (hn := ?_)
  refine bk h fun x4 e4 h => ?_
  refine LWo.vcall rfl rfl (c_cmp_Compare_int _ _ _ e4) (.same (.same (.nil))) (hn := ?_)
  refine LWo.lit (ops := [_, _]) [(e_int x3), (e_int x4)] u_Lint s_int z_int rfl rfl rfl rfl rfl rfl (hn := ?_)
  refine bk h fun x5 e5 h => ?_
  refine LWo.vcall rfl rfl (c_cmp_Or_int _ _ e5) (.same (.nil)) (hn := ?_)
  refine LWo.assign (e_int x5) rfl (hn := ?_)
  refine LWo.nil (hN2 _ ?_)
  obtain rfl := Option.some.inj h
  refine LWP.ret (QG.mk (.inr rfl) (.cons (.tmp (x := (e_int x5)) rfl) (.nil)) (RetOK.one0 (.pure rfl) (by decide)) rfl rfl)

def m_impl_tell_1 (a0 : S_impl_Tally) (a1 : (List S_impl_Value)) : Option Int :=
  (m_impl_rowOrder a0.Key a1).bind fun x3 =>
  some x3
theorem c_impl_tell_1 (a0 : S_impl_Tally) (a1 : (List S_impl_Value)) (r : Int) (h : m_impl_tell_1 a0 a1 = some r) : Ret Try.prog f_impl_tell_1 [e_impl_Tally a0, e_Limpl_Value a1] (e_int r) := by
  refine Does.goG [] F_impl_tell_1 rfl e_impl_tell_1 n_impl_tell_1 rfl (rvs := [.tmp 4]) rfl rfl ?_
  intro w0 ok0 lent ρ0
  refine LWP.seq_k fun N1 hN1 => ?_
  refine LWP.region (l := [_,_]) ?_
  refine LWo.boxF (e_impl_Tally a0) rfl rfl rfl (hn := ?_)
  refine LWo.assign (e_int (0 : Int)) rfl (hn := ?_)
  refine LWo.nil (hN1 _ ?_)
  refine LWP.seq_k fun N2 hN2 => ?_
  refine LWP.region (l := [_,_,_,_,_]) ?_
  refine LWo.fieldAddr _ u_impl_Tally rfl s_Limpl_Value rfl rfl (hn := ?_)
  refine LWo.load1 (c := (e_Limpl_Value a0.Key)) g_Limpl_Value rfl (hn := ?_)
  refine LWo.move (e_Limpl_Value a1) rfl (hn := ?_)
  refine bk h fun x3 e3 h => ?_
  refine LWo.vcall rfl rfl (c_impl_rowOrder _ _ _ e3) (.same (.same (.nil))) (hn := ?_)
  refine LWo.assign (e_int x3) rfl (hn := ?_)
  refine LWo.nil (hN2 _ ?_)
  obtain rfl := Option.some.inj h
  refine LWP.ret (QG.mk (.inr rfl) (.cons (.tmp (x := (e_int x3)) rfl) (.nil)) (RetOK.one0 (.pure rfl) (by decide)) rfl rfl)

theorem cc_slices_Clip_Limpl_Value_impl_Value (xs : List LV) : Does Try.prog f_slices_Clip_Limpl_Value_impl_Value [.own 0 0 xs.length] [(0, { kind := .fro, sz := 3, elems := xs })] (fun r h => r = .nw 3 xs false ∧ h = []) := by
  refine Does.go [0] F_slices_Clip_Limpl_Value_impl_Value rfl e_slices_Clip_Limpl_Value_impl_Value n_slices_Clip_Limpl_Value_impl_Value rfl (ts := [2]) rfl rfl rfl ?_
  intro w0 ok0 lent ρ0
  refine LWP.seq_k fun N1 hN1 => ?_
  refine LWP.region (l := [_]) ?_
  refine LWo.assign _ rfl (hn := ?_)
  refine LWo.nil (hN1 _ ?_)
  refine LWP.seq_k fun N2 hN2 => ?_
  refine LWP.region (l := [_,_,_,_,_,_,_]) ?_
  refine LWo.move _ rfl (hn := ?_)
  refine LWo.move _ rfl (hn := ?_)
  refine LWo.len u_Limpl_Value rfl (hn := ?_)
  refine LWo.move _ rfl (hn := ?_)
  refine LWo.len u_Limpl_Value rfl (hn := ?_)
  refine LWo.cutOwn (l := 0) (h := xs.length) u_Limpl_Value s_impl_Value rfl rfl rfl rfl ⟨_, rfl⟩ ⟨_, _, rfl, Nat.le_refl _, Nat.le_refl _⟩ (.inr (by simp)) (Nat.zero_le _) (Nat.le_refl _) rfl rfl (hn := ?_)
  refine LWo.assign _ rfl (hn := ?_)
  refine LWo.nil (hN2 _ ?_)
  refine LWP.ret (QRet.own1 (.inr rfl) rfl rfl rfl rfl (by simp) ⟨?_, rfl⟩)
  clear hN1 hN2
  exact congrArg (fun l => LV.nw 3 l false) (by simp)
def m_slices_Clip_Limpl_Value_impl_Value_o (o0 : List S_impl_Value) : Option (List S_impl_Value) := some o0
theorem c_slices_Clip_Limpl_Value_impl_Value_o (o0 : List S_impl_Value) (r : List S_impl_Value) (h : m_slices_Clip_Limpl_Value_impl_Value_o o0 = some r) : Does Try.prog f_slices_Clip_Limpl_Value_impl_Value [.own 0 0 o0.length] [(0, lob 3 e_impl_Value o0)] (fun x hh => x = .nw 3 (r.map e_impl_Value) false ∧ hh = []) := by
  cases h
  have := cc_slices_Clip_Limpl_Value_impl_Value (o0.map e_impl_Value)
  rw [List.length_map] at this
  exact this



theorem ccd_slices_Clip_Limpl_Value_impl_Value (xs : List LV) : Does Try.prog f_slices_Clip_Limpl_Value_impl_Value [.own 0 0 xs.length] [(0, { kind := .deep, sz := 3, elems := xs })] (fun r h => r = .nw 3 xs true ∧ h = []) := by
  refine Does.go [0] F_slices_Clip_Limpl_Value_impl_Value rfl e_slices_Clip_Limpl_Value_impl_Value n_slices_Clip_Limpl_Value_impl_Value rfl (ts := [2]) rfl rfl rfl ?_
  intro w0 ok0 lent ρ0
  refine LWP.seq_k fun N1 hN1 => ?_
  refine LWP.region (l := [_]) ?_
  refine LWo.assign _ rfl (hn := ?_)
  refine LWo.nil (hN1 _ ?_)
  refine LWP.seq_k fun N2 hN2 => ?_
  refine LWP.region (l := [_,_,_,_,_,_,_]) ?_
  refine LWo.move _ rfl (hn := ?_)
  refine LWo.move _ rfl (hn := ?_)
  refine LWo.len u_Limpl_Value rfl (hn := ?_)
  refine LWo.move _ rfl (hn := ?_)
  refine LWo.len u_Limpl_Value rfl (hn := ?_)
  refine LWo.cutOwn (l := 0) (h := xs.length) u_Limpl_Value s_impl_Value rfl rfl rfl rfl ⟨_, rfl⟩ ⟨_, _, rfl, Nat.le_refl _, Nat.le_refl _⟩ (.inr (by simp)) (Nat.zero_le _) (Nat.le_refl _) rfl rfl (hn := ?_)
  refine LWo.assign _ rfl (hn := ?_)
  refine LWo.nil (hN2 _ ?_)
  refine LWP.ret (QRet.own1D (.inr rfl) rfl rfl rfl rfl (by simp) ⟨?_, rfl⟩)
  clear hN1 hN2
  exact congrArg (fun l => LV.nw 3 l true) (by simp)
def m_slices_Clip_Limpl_Value_impl_Value_d (o0 : List S_impl_Value) : Option (List S_impl_Value) := some o0
theorem c_slices_Clip_Limpl_Value_impl_Value_d (o0 : List S_impl_Value) (r : List S_impl_Value) (h : m_slices_Clip_Limpl_Value_impl_Value_d o0 = some r) : Does Try.prog f_slices_Clip_Limpl_Value_impl_Value [.own 0 0 o0.length] [(0, dob 3 e_impl_Value o0)] (fun x hh => x = .nw 3 (r.map e_impl_Value) true ∧ hh = []) := by
  cases h
  have := ccd_slices_Clip_Limpl_Value_impl_Value (o0.map e_impl_Value)
  rw [List.length_map] at this
  exact this



def m_slices_Clip_Limpl_Value_impl_Value (a0 : (List S_impl_Value)) : Option (List S_impl_Value) :=
  (cut3? a0 (0 : Int) (a0.length : Int) (a0.length : Int)).bind fun x3 =>
  some x3
theorem c_slices_Clip_Limpl_Value_impl_Value (a0 : (List S_impl_Value)) (r : (List S_impl_Value)) (h : m_slices_Clip_Limpl_Value_impl_Value a0 = some r) : Ret Try.prog f_slices_Clip_Limpl_Value_impl_Value [e_Limpl_Value a0] (e_Limpl_Value r) := by
  refine Does.goG [] F_slices_Clip_Limpl_Value_impl_Value rfl e_slices_Clip_Limpl_Value_impl_Value n_slices_Clip_Limpl_Value_impl_Value rfl (rvs := [.tmp 2]) rfl rfl ?_
  intro w0 ok0 lent ρ0
  refine LWP.seq_k fun N1 hN1 => ?_
  refine LWP.region (l := [_]) ?_
  refine LWo.assign _ rfl (hn := ?_)
  refine LWo.weakT 2 (e_Limpl_Value ([] : (List S_impl_Value))) rfl .nil ?_
  refine LWo.nil (hN1 _ ?_)
  refine LWP.seq_k fun N2 hN2 => ?_
  refine LWP.region (l := [_,_,_,_,_,_,_]) ?_
  refine LWo.move (e_Limpl_Value a0) rfl (hn := ?_)
  refine LWo.move (e_Limpl_Value a0) rfl (hn := ?_)
  refine LWo.lenM (f := e_impl_Value) (l := a0) u_Limpl_Value rfl (hn := ?_)
  refine LWo.move (e_Limpl_Value a0) rfl (hn := ?_)
  refine LWo.lenM (f := e_impl_Value) (l := a0) u_Limpl_Value rfl (hn := ?_)
  refine bk h fun x3 e3 h => ?_
  refine LWo.cutM3 (f := e_impl_Value) e3 u_Limpl_Value s_impl_Value rfl rfl ⟨_, rfl⟩ ⟨_, rfl⟩ (hn := ?_)
  refine LWo.assign (e_Limpl_Value x3) rfl (hn := ?_)
  refine LWo.nil (hN2 _ ?_)
  obtain rfl := Option.some.inj h
  refine LWP.ret (QG.mk (.inr rfl) (.cons (.tmp (x := (e_Limpl_Value x3)) rfl) (.nil)) (RetOK.one0 (.pure rfl) (by decide)) rfl rfl)

def m_impl_clone_impl_Value (a0 : (List S_impl_Value)) : Option (List S_impl_Value) :=
  bif ((a0.length : Int) == (0 : Int)) then (some ([] : (List S_impl_Value)))
  else ((appN? a0).bind fun x7 =>
  (m_slices_Clip_Limpl_Value_impl_Value_o x7).bind fun x8 =>
  some x8)
theorem c_impl_clone_impl_Value (a0 : (List S_impl_Value)) (r : (List S_impl_Value)) (h : m_impl_clone_impl_Value a0 = some r) : Ret Try.prog f_impl_clone_impl_Value [e_Limpl_Value a0] (.nw 3 (r.map e_impl_Value) false) := by
  refine Does.goG [] F_impl_clone_impl_Value rfl e_impl_clone_impl_Value n_impl_clone_impl_Value rfl (rvs := [.tmp 2]) rfl rfl ?_
  intro w0 ok0 lent ρ0
  refine LWP.seq_k fun N1 hN1 => ?_
  refine LWP.region (l := [_]) ?_
  refine LWo.assign _ rfl (hn := ?_)
  refine LWo.ownNil 2 1002 3 rfl rfl rfl ?_
  refine LWo.known 2 (.own 1002 0 ([] : (List S_impl_Value)).length) rfl ?_
  refine LWo.nil (hN1 _ ?_)
  refine LWP.seq_k fun N2 hN2 => ?_
  refine LWP.seq_k fun N3 hN3 => ?_
  refine LWP.region (l := [_,_,_]) ?_
  refine LWo.move (e_Limpl_Value a0) rfl (hn := ?_)
  refine LWo.lenM (f := e_impl_Value) (l := a0) u_Limpl_Value rfl (hn := ?_)
  refine LWo.int _ rfl rfl rfl (hn := ?_)
  refine LWo.nil (hN3 _ ?_)
  refine LWP.cond_split rfl (fun h4 => ?_) (fun h4 => ?_)
  ·have h := bT h4 h
   refine LWP.seq_k fun N5 hN5 => ?_
   refine LWP.region (l := [_]) ?_
   refine LWo.assign _ rfl (hn := ?_)
   refine LWo.ownNil 2 1002 3 rfl rfl rfl ?_
   refine LWo.known 2 (.own 1002 0 ([] : (List S_impl_Value)).length) rfl ?_
   refine LWo.nil (hN5 _ ?_)
   obtain rfl := Option.some.inj h
   refine LWP.ret (QG.mk (.inr rfl) (.cons (.tmp (x := (.own 1002 0 (([] : (List S_impl_Value))).length)) rfl) (.nil)) (RetOK.one0 (.nwM rfl rfl) (by decide)) rfl rfl)
  ·have h := bF h4 h
   refine LWP.skip (hN2 _ ?_)
   refine LWP.seq_k fun N6 hN6 => ?_
   refine LWP.region (l := [_,_,_,_]) ?_
   refine LWo.move (e_Limpl_Value a0) rfl (hn := ?_)
   refine bk h fun x7 e7 h => ?_
   refine LWo.appendC (f := e_impl_Value) 1007 e7 u_Limpl_Value u_Limpl_Value (fun _ h => by cases h) i_impl_Value rfl rfl (.sl rfl) (fun _ => rfl) rfl rfl (hn := ?_)
   refine bk h fun x8 e8 h => ?_
   refine LWo.tcallN (e := e_impl_Value) (e' := e_impl_Value) 1008 rfl rfl (c_slices_Clip_Limpl_Value_impl_Value_o _ _ e8) (fun _ => rfl) rfl rfl rfl rfl (hn := ?_)
   refine LWo.assign (.own 1008 0 (x8).length) rfl (hn := ?_)
   refine LWo.nil (hN6 _ ?_)
   obtain rfl := Option.some.inj h
   refine LWP.ret (QG.mk (.inr rfl) (.cons (.tmp (x := (.own 1008 0 (x8).length)) rfl) (.nil)) (RetOK.one0 (.nwM rfl rfl) (by decide)) rfl rfl)

def m_slices_Reverse_Limpl_Tally_impl_Tally_l1 : Nat → Int → Int → (List S_impl_Tally) → Option (List S_impl_Tally)
  | 0, _, _, _ => none
  | n1 + 1, t2, t3, o0 =>
    bif decide (t2 < t3) then ((at? o0 t3).bind fun x9 =>
    (at? o0 t3).bind fun x10 =>
    (at? o0 t2).bind fun x11 =>
    (at? o0 t2).bind fun x12 =>
    (at? o0 t2).bind fun x13 =>
    (at? o0 t2).bind fun x14 =>
    lt (x10) fun y15 =>
    (at? (o0.set (t2).toNat y15) t3).bind fun x16 =>
    (at? (o0.set (t2).toNat y15) t3).bind fun x17 =>
    lt (x12) fun y18 =>
    (ckI (t2 + (1 : Int))).bind fun x19 =>
    (ckI (t3 - (1 : Int))).bind fun x20 =>
    (m_slices_Reverse_Limpl_Tally_impl_Tally_l1  n1) x19 x20 ((o0.set (t2).toNat y15).set (t3).toNat y18))
    else (some o0)
def m_slices_Reverse_Limpl_Tally_impl_Tally (o0 : (List S_impl_Tally)) : Option (List S_impl_Tally) :=
  (ckI ((o0.length : Int) - (1 : Int))).bind fun x2 =>
  m_slices_Reverse_Limpl_Tally_impl_Tally_l1  ((x2 - (0 : Int)).toNat + 1) (0 : Int) x2 o0
theorem c_slices_Reverse_Limpl_Tally_impl_Tally (o0 : (List S_impl_Tally)) (r : (List S_impl_Tally)) (h : m_slices_Reverse_Limpl_Tally_impl_Tally o0 = some r) : Does Try.prog f_slices_Reverse_Limpl_Tally_impl_Tally [.own 0 0 o0.length] [(0, (lob 4 e_impl_Tally o0))] (fun x hh => x = .tup [] ∧ hh = [(0, (lob 4 e_impl_Tally r))]) := by
  refine Does.goG [0] F_slices_Reverse_Limpl_Tally_impl_Tally rfl e_slices_Reverse_Limpl_Tally_impl_Tally n_slices_Reverse_Limpl_Tally_impl_Tally rfl (rvs := []) rfl rfl ?_
  intro w0 ok0 lent ρ0
  refine LWP.seq_k fun N1 hN1 => ?_
  refine LWP.region (l := [_,_,_,_,_]) ?_
  refine LWo.move (.own 0 0 (o0).length) rfl (hn := ?_)
  refine LWo.lenO u_Limpl_Tally rfl (hn := ?_)
  refine bk h fun x2 e2 h => ?_
  refine LWo.int _ rfl rfl (sub_ck e2) (hn := ?_)
  refine LWo.assign (e_int (0 : Int)) rfl (hn := ?_)
  refine LWo.assign (e_int x2) rfl (hn := ?_)
  refine LWo.nil (hN1 _ ?_)
  refine LWP.block ?_
  refine LWP.loopM (α := Int × Int × (List S_impl_Tally)) (fun z : Int × Int × (List S_impl_Tally) => [(0, (.own 0 0 (z.2.2).length)), (2, (e_int z.1)), (3, (e_int z.2.1))]) (fun z : Int × Int × (List S_impl_Tally) => [(0, (lob 4 e_impl_Tally z.2.2))]) (fun n1 (z : Int × Int × (List S_impl_Tally)) => m_slices_Reverse_Limpl_Tally_impl_Tally_l1  n1 z.1 z.2.1 z.2.2) r _ ((0 : Int), x2, o0) h (fun _ => rfl) (fun _ => by simp [hkeys]) ⟨rfl, rfl, rfl, trivial⟩ ⟨rfl, trivial⟩ ?_
  rintro n1 ⟨t2, t3, o0⟩ h N3 hN3
  replace h : m_slices_Reverse_Limpl_Tally_impl_Tally_l1  (n1 + 1) t2 t3 o0 = some _ := h
  refine LWP.seq_k fun N5 hN5 => ?_
  refine LWP.seq_k fun N6 hN6 => ?_
  refine LWP.region (l := [_,_,_]) ?_
  refine LWo.move (e_int t2) rfl (hn := ?_)
  refine LWo.move (e_int t3) rfl (hn := ?_)
  refine LWo.int _ rfl rfl rfl (hn := ?_)
  refine LWo.nil (hN6 _ ?_)
  refine LWP.cond_split rfl (fun h7 => ?_) (fun h7 => ?_)
  ·have h := bT h7 h
   refine LWP.skip (hN5 _ ?_)
   refine LWP.seq_k fun N8 hN8 => ?_
   refine LWP.block ?_
   refine bk h fun x9 e9 h => ?_
   refine bk h fun x10 e10 h => ?_
   refine bk h fun x11 e11 h => ?_
   refine bk h fun x12 e12 h => ?_
   refine bk h fun x13 e13 h => ?_
   refine bk h fun x14 e14 h => ?_
   refine lk h fun y15 e15 h => ?_
   refine bk h fun x16 e16 h => ?_
   refine bk h fun x17 e17 h => ?_
   refine lk h fun y18 e18 h => ?_
   refine LWP.drawF (l := [_,_,_,_,_,_,_,_,_,_,_,_,_,_,_,_]) [] [0, 2, 3] [([0], []), ([2], []), ([0], []), ([3], []), ([0], []), ([3], []), ([18, 19], [0]), ([20], [0]), ([0], []), ([2], []), ([22, 23], [0]), ([24], [0]), ([14, 15], [0]), ([21, 26], [0]), ([16, 17], [0]), ([25, 27], [0])] [0, 2, 3] [0] mixed (by kernel_rfl) rfl (by decide) ?_
   refine dq 14 rfl (fun _ g u h => LWo.move (.own 0 0 (o0).length) u.1 (hn := .nil (zn g))) ?_
   refine dq 15 rfl (fun _ g u h => LWo.move (e_int t2) u.1 (hn := .nil (zn g))) ?_
   refine dq 16 rfl (fun _ g u h => LWo.move (.own 0 0 (o0).length) u.1 (hn := .nil (zn g))) ?_
   refine dq 17 rfl (fun _ g u h => LWo.move (e_int t3) u.1 (hn := .nil (zn g))) ?_
   refine dq 18 rfl (fun _ g u h => LWo.move (.own 0 0 (o0).length) u.1 (hn := .nil (zn g))) ?_
   refine dq 19 rfl (fun _ g u h => LWo.move (e_int t3) u.1 (hn := .nil (zn g))) ?_
   refine dq 20 rfl (fun _ g u h => LWo.indexO e9 rfl u_Limpl_Tally s_impl_Tally u.1 u.2.1 h.1 (hn := .nil (zn g))) ?_
   refine dq 21 rfl (fun _ g u h => LWo.loadON ((e_impl_Tally x10)).cells e10 g_impl_Tally s_impl_Tally u.1 h.1 rfl rfl (hn := .nil (zn g))) ?_
   refine dq 22 rfl (fun _ g u h => LWo.move (.own 0 0 (o0).length) u.1 (hn := .nil (zn g))) ?_
   refine dq 23 rfl (fun _ g u h => LWo.move (e_int t2) u.1 (hn := .nil (zn g))) ?_
   refine dq 24 rfl (fun _ g u h => LWo.indexO e11 rfl u_Limpl_Tally s_impl_Tally u.1 u.2.1 h.1 (hn := .nil (zn g))) ?_
   refine dq 25 rfl (fun _ g u h => LWo.loadON ((e_impl_Tally x12)).cells e12 g_impl_Tally s_impl_Tally u.1 h.1 rfl rfl (hn := .nil (zn g))) ?_
   refine dq 26 rfl (fun _ g u h => LWo.indexO e13 rfl u_Limpl_Tally s_impl_Tally u.1 u.2.1 h.1 (hn := .nil (zn g))) ?_
   refine ⟨rfl, .upd none .junk 0 _, (fun _ h => by cases h), fun _ g u h => LWo.storeO y15 e14 s_impl_Tally u.2.1 u.1 rfl rfl rfl h.1 rfl (by rw [e15]; rfl) (hn := LWo.nil ⟨rfl, .inl rfl, Ef.good_ok (e := .upd none .junk 0 _) (fun _ h => by cases h) g⟩), ?_⟩
   refine dq 27 rfl (fun _ g u h => LWo.indexO e16 List.length_set.symm u_Limpl_Tally s_impl_Tally u.1 u.2.1 h.1 (hn := .nil (zn g))) ?_
   refine ⟨rfl, .upd none .junk 0 _, (fun _ h => by cases h), fun _ g u h => LWo.storeO y18 e17 s_impl_Tally u.2.1 u.1 rfl rfl rfl h.1 rfl (by rw [e18]; rfl) (hn := LWo.nil ⟨rfl, .inl rfl, Ef.good_ok (e := .upd none .junk 0 _) (fun _ h => by cases h) g⟩), ?_⟩
   refine ⟨rfl, by kernel_rfl, hN8 _ ?_⟩
   refine LWP.region (l := [_,_,_,_,_,_]) ?_
   refine LWo.move (e_int t2) rfl (hn := ?_)
   refine bk h fun x19 e19 h => ?_
   refine LWo.int _ rfl rfl (add_ck e19) (hn := ?_)
   refine LWo.move (e_int t3) rfl (hn := ?_)
   refine bk h fun x20 e20 h => ?_
   refine LWo.int _ rfl rfl (sub_ck e20) (hn := ?_)
   refine LWo.assign (e_int x19) rfl (hn := ?_)
   refine LWo.assign (e_int x20) rfl (hn := ?_)
   refine LWo.nil (hN3 (x19, x20, ((o0.set (t2).toNat y15).set (t3).toNat y18)) _ ⟨(congrArg (LV.own 0 0) (List.length_set.symm.trans List.length_set.symm)), rfl, rfl, trivial⟩ ⟨rfl, trivial⟩ h)
  ·have h := bF h7 h
   obtain rfl := Option.some.inj h
   refine LWP.exit (QG.mk (.inl rfl) (.nil) (RetOK.many1 (.nil) (by simp) (by decide) rfl rfl rfl rfl rfl) rfl rfl)
theorem k_slices_Reverse_Limpl_Tally_impl_Tally (o0 : (List S_impl_Tally)) (r : (List S_impl_Tally)) (h : m_slices_Reverse_Limpl_Tally_impl_Tally o0 = some r) (k : Nat) : Does Try.prog f_slices_Reverse_Limpl_Tally_impl_Tally [.own k 0 o0.length] [(k, (lob 4 e_impl_Tally o0))] (fun x hh => x = .tup [] ∧ hh = [(k, (lob 4 e_impl_Tally r))]) :=
  Does.nameO (c_slices_Reverse_Limpl_Tally_impl_Tally o0 r h) (fun _ => rfl) k

def m_slices_rotateLeft_impl_Tally (o0 : (List S_impl_Tally)) (a1 : Int) : Option (List S_impl_Tally) :=
  (cut? o0 (0 : Int) a1).bind fun x2 =>
  none
theorem c_slices_rotateLeft_impl_Tally (o0 : (List S_impl_Tally)) (a1 : Int) (r : (List S_impl_Tally)) (h : m_slices_rotateLeft_impl_Tally o0 a1 = some r) : Does Try.prog f_slices_rotateLeft_impl_Tally [.own 0 0 o0.length, e_int a1] [(0, (lob 4 e_impl_Tally o0))] (fun x hh => x = .tup [] ∧ hh = [(0, (lob 4 e_impl_Tally r))]) := by
  refine Does.goG [0] F_slices_rotateLeft_impl_Tally rfl e_slices_rotateLeft_impl_Tally n_slices_rotateLeft_impl_Tally rfl (rvs := []) rfl rfl ?_
  intro w0 ok0 lent ρ0
  refine LWP.seq_k fun N1 hN1 => ?_
  refine LWP.region (l := [_,_,_,_]) ?_
  refine LWo.move (.own 0 0 (o0).length) rfl (hn := ?_)
  refine LWo.move (e_int a1) rfl (hn := ?_)
  refine bk h fun x2 e2 h => ?_
  refine LWo.frzL (f := e_impl_Tally) (l := o0) [0, 4] 0 rfl rfl ⟨rfl, rfl, trivial⟩ ?_
  refine LWo.cutM (f := e_impl_Tally) e2 u_Limpl_Tally s_impl_Tally rfl rfl ⟨_, rfl⟩ (hn := ?_)
  exact no h
theorem k_slices_rotateLeft_impl_Tally (o0 : (List S_impl_Tally)) (a1 : Int) (r : (List S_impl_Tally)) (h : m_slices_rotateLeft_impl_Tally o0 a1 = some r) (k : Nat) : Does Try.prog f_slices_rotateLeft_impl_Tally [.own k 0 o0.length, e_int a1] [(k, (lob 4 e_impl_Tally o0))] (fun x hh => x = .tup [] ∧ hh = [(k, (lob 4 e_impl_Tally r))]) :=
  Does.nameO (c_slices_rotateLeft_impl_Tally o0 a1 r h) (fun _ => rfl) k

def m_slices_rotateRight_impl_Tally (o0 : (List S_impl_Tally)) (a1 : Int) : Option (List S_impl_Tally) :=
  (ckI ((o0.length : Int) - a1)).bind fun x1 =>
  (m_slices_rotateLeft_impl_Tally o0 x1).bind fun x2 =>
  (lenQ x2.length o0.length ()).bind fun u3 =>
  some x2
theorem c_slices_rotateRight_impl_Tally (o0 : (List S_impl_Tally)) (a1 : Int) (r : (List S_impl_Tally)) (h : m_slices_rotateRight_impl_Tally o0 a1 = some r) : Does Try.prog f_slices_rotateRight_impl_Tally [.own 0 0 o0.length, e_int a1] [(0, (lob 4 e_impl_Tally o0))] (fun x hh => x = .tup [] ∧ hh = [(0, (lob 4 e_impl_Tally r))]) := by
  refine Does.goG [0] F_slices_rotateRight_impl_Tally rfl e_slices_rotateRight_impl_Tally n_slices_rotateRight_impl_Tally rfl (rvs := []) rfl rfl ?_
  intro w0 ok0 lent ρ0
  refine LWP.region (l := [_,_,_,_,_,_]) ?_
  refine LWo.move (.own 0 0 (o0).length) rfl (hn := ?_)
  refine LWo.move (.own 0 0 (o0).length) rfl (hn := ?_)
  refine LWo.lenO u_Limpl_Tally rfl (hn := ?_)
  refine LWo.move (e_int a1) rfl (hn := ?_)
  refine bk h fun x1 e1 h => ?_
  refine LWo.int _ rfl rfl (sub_ck e1) (hn := ?_)
  refine bk h fun x2 e2 h => ?_
  refine bk h fun u3 e3 h => ?_
  refine LWo.ucallM (e := e_impl_Tally) rfl rfl (k_slices_rotateLeft_impl_Tally _ _ _ e2 0) rfl rfl (some 9) rfl (hn := ?_)
  obtain rfl := Option.some.inj h
  refine LWo.nil (QG.mk (.inl rfl) (.nil) (RetOK.many1 (.nil) (by simp) (by decide) rfl rfl rfl rfl rfl) rfl rfl)
theorem k_slices_rotateRight_impl_Tally (o0 : (List S_impl_Tally)) (a1 : Int) (r : (List S_impl_Tally)) (h : m_slices_rotateRight_impl_Tally o0 a1 = some r) (k : Nat) : Does Try.prog f_slices_rotateRight_impl_Tally [.own k 0 o0.length, e_int a1] [(k, (lob 4 e_impl_Tally o0))] (fun x hh => x = .tup [] ∧ hh = [(k, (lob 4 e_impl_Tally r))]) :=
  Does.nameO (c_slices_rotateRight_impl_Tally o0 a1 r h) (fun _ => rfl) k

theorem ins_fresh {xs : List LV} {v z : LV} {i m : Nat} (hi : i ≤ xs.length) (h : xs.length + 1 ≤ i + m) :
    ((((xs.take i ++ List.replicate m z).take i ++ [v] ++ (xs.take i ++ List.replicate m z).drop (i + [v].length)).take (i + 1) ++ xs.drop i ++
      ((xs.take i ++ List.replicate m z).take i ++ [v] ++ (xs.take i ++ List.replicate m z).drop (i + [v].length)).drop (i + 1 + (xs.drop i).length)).take (xs.length + 1)) = xs.take i ++ v :: xs.drop i := by
  have h0 : (xs.take i ++ List.replicate m z).take i = xs.take i := by
    rw [List.take_append_of_le_length (by simp; omega), List.take_take, Nat.min_self]
  have h1 : (xs.take i ++ [v]).length = i + 1 := by simp; omega
  rw [h0]
  rw [List.take_append_of_le_length (l₁ := xs.take i ++ [v]) (by omega), List.take_of_length_le (l := xs.take i ++ [v]) (by omega)]
  rw [List.take_append_of_le_length (by simp; omega), List.take_of_length_le (by simp; omega)]
  simp
theorem ins_place {xs : List LV} {v : LV} {i : Nat} (hi : i ≤ xs.length) (hi' : i < xs.length) :
    (((xs.take (i + 1) ++ xs.drop i ++ xs.drop (i + 1 + (xs.drop i).length)).take i ++ [v] ++ (xs.take (i + 1) ++ xs.drop i ++ xs.drop (i + 1 + (xs.drop i).length)).drop (i + [v].length)).take (xs.length + 1)) = xs.take i ++ v :: xs.drop i := by
  have e : xs.drop (i + 1 + (xs.drop i).length) = [] := List.drop_eq_nil_of_le (by simp; omega)
  rw [e, List.append_nil]
  have h1 : (xs.take (i + 1)).length = i + 1 := by simp; omega
  have e1 : (xs.take (i + 1) ++ xs.drop i).take i = xs.take i := by rw [List.take_append_of_le_length (by omega), List.take_take, Nat.min_eq_left (by omega)]
  have e2 : (xs.take (i + 1) ++ xs.drop i).drop (i + [v].length) = xs.drop i := by
    rw [List.drop_append_of_le_length (by simp; omega), List.drop_of_length_le (l := xs.take (i + 1)) (by simp; omega)]; simp
  rw [e1, e2, List.take_of_length_le (by simp; omega)]
  simp



theorem ov_Limpl_Tally (vs : Array Value) (w : World) : (callFunc f_slices_overlaps_impl_Tally vs).run Try.prog w = ((Extern.SlicesOverlaps.overlaps #[t_Limpl_Tally, t_Limpl_Tally] #[t_bool] vs).run Try.prog w).andThen fun v w => .ok (.value v) w := by
  rw [run_callFunc_extern F_slices_overlaps_impl_Tally (by kernel_rfl) (by kernel_rfl) (by kernel_rfl) (e := Extern.SlicesOverlaps.overlaps #[t_Limpl_Tally, t_Limpl_Tally] #[t_bool]) (by kernel_rfl)]

theorem cc_slices_Insert_Limpl_Tally_impl_Tally (xs : List LV) (v : LV) (i : Nat) (hi : i ≤ xs.length) (hv : v.cells.length = 4) (hu : ∀ x ∈ xs, x.cells.length = 4) (hlen : xs.length ≤ 1000000000) :
    Does Try.prog f_slices_Insert_Limpl_Tally_impl_Tally [.own 0 0 xs.length, e_int i, .sl 4 [v]] [(0, { kind := .fro, sz := 4, elems := xs })] (fun r h => r = .nw 4 (xs.take i ++ v :: xs.drop i) false ∧ h = []) := by
  refine Does.go [0] F_slices_Insert_Limpl_Tally_impl_Tally rfl e_slices_Insert_Limpl_Tally_impl_Tally n_slices_Insert_Limpl_Tally_impl_Tally rfl (ts := [6]) rfl rfl rfl ?_
  intro w0 ok0 lent ρ0
  refine LWP.rekey 0 0 1 rfl rfl rfl rfl rfl rfl ?_
  refine LWP.seq_k fun N1 hN1 => ?_
  refine LWP.region (l := [_]) ?_
  refine LWo.assign _ rfl (hn := ?_)
  refine LWo.nil (hN1 _ ?_)
  refine LWP.seq_k fun N2 hN2 => ?_
  refine LWP.region (l := [_,_,_]) ?_
  refine LWo.move _ rfl (hn := ?_)
  refine LWo.move _ rfl (hn := ?_)
  refine LWo.cutOwn (l := i) (h := xs.length) u_Limpl_Tally s_impl_Tally rfl rfl rfl ⟨_, rfl⟩ rfl trivial (.inl rfl) (by omega) (by omega) rfl rfl (hn := ?_)
  refine LWo.nil (hN2 _ ?_)
  refine LWP.seq_k fun N3 hN3 => ?_
  refine LWP.region (l := [_,_,_]) ?_
  refine LWo.move _ rfl (hn := ?_)
  refine LWo.len u_Limpl_Tally rfl (hn := ?_)
  refine LWo.assign _ rfl (hn := ?_)
  refine LWo.nil (hN3 _ ?_)
  refine LWP.seq_k fun N4 hN4 => ?_
  refine LWP.seq_k fun N5 hN5 => ?_
  refine LWP.region (l := [_,_]) ?_
  refine LWo.move _ rfl (hn := ?_)
  refine LWo.int _ rfl rfl rfl (hn := ?_)
  refine LWo.nil (hN5 _ ?_)
  refine LWP.cond_split rfl (fun h6 => ?_) (fun h6 => ?_)
  · -- t16 = True
    try simp only [List.length_map, decide_eq_true_eq, decide_eq_false_iff_not, Int.ofNat_lt, Int.ofNat_le, Int.not_lt, Int.not_le, ge_iff_le, gt_iff_lt, Nat.not_le, Nat.not_lt] at h6
    refine LWP.seq_k fun N7 hN7 => ?_
    refine LWP.region (l := [_,_]) ?_
    refine LWo.move _ rfl (hn := ?_)
    refine LWo.assign _ rfl (hn := ?_)
    refine LWo.nil (hN7 _ ?_)
    exact absurd h6 (by simp)
  · -- t16 = False
    try simp only [List.length_map, decide_eq_true_eq, decide_eq_false_iff_not, Int.ofNat_lt, Int.ofNat_le, Int.not_lt, Int.not_le, ge_iff_le, gt_iff_lt, Nat.not_le, Nat.not_lt] at h6
    refine LWP.skip (hN4 _ ?_)
    refine LWP.seq_k fun N8 hN8 => ?_
    refine LWP.region (l := [_,_,_]) ?_
    refine LWo.move _ rfl (hn := ?_)
    refine LWo.len u_Limpl_Tally rfl (hn := ?_)
    refine LWo.assign _ rfl (hn := ?_)
    refine LWo.nil (hN8 _ ?_)
    refine LWP.seq_k fun N9 hN9 => ?_
    refine LWP.seq_k fun N10 hN10 => ?_
    refine LWP.region (l := [_,_,_]) ?_
    refine LWo.move _ rfl (hn := ?_)
    refine LWo.move _ rfl (hn := ?_)
    refine LWo.int _ rfl rfl rfl (hn := ?_)
    refine LWo.nil (hN10 _ ?_)
    refine LWP.cond_split rfl (fun h11 => ?_) (fun h11 => ?_)
    · -- t22 = True
      try simp only [List.length_map, decide_eq_true_eq, decide_eq_false_iff_not, Int.ofNat_lt, Int.ofNat_le, Int.not_lt, Int.not_le, ge_iff_le, gt_iff_lt, Nat.not_le, Nat.not_lt] at h11
      refine LWP.seq_k fun N12 hN12 => ?_
      refine LWP.region (l := [_,_,_,_]) ?_
      refine LWo.move _ rfl (hn := ?_)
      refine LWo.move _ rfl (hn := ?_)
      refine LWo.append [v] u_Limpl_Tally u_Limpl_Tally (fun _ h => by cases h) s_impl_Tally i_impl_Tally rfl rfl rfl rfl rfl rfl (Nat.le_refl _) (.inl rfl) rfl rfl (by simp; omega) (by simp; omega) (hn := ?_)
      refine LWo.assign _ rfl (hn := ?_)
      refine LWo.nil (hN12 _ ?_)
      refine LWP.ret (QRet.own1 (.inr rfl) rfl rfl rfl rfl (by simp) ⟨(by have e : i = xs.length := (by simp at h11; omega); subst e; simp [List.take_of_length_le]), rfl⟩)
    · -- t22 = False
      try simp only [List.length_map, decide_eq_true_eq, decide_eq_false_iff_not, Int.ofNat_lt, Int.ofNat_le, Int.not_lt, Int.not_le, ge_iff_le, gt_iff_lt, Nat.not_le, Nat.not_lt] at h11
      refine LWP.skip (hN9 _ ?_)
      refine LWP.seq_k fun N13 hN13 => ?_
      refine LWP.seq_k fun N14 hN14 => ?_
      refine LWP.region (l := [_,_,_,_,_,_]) ?_
      have hin : i < xs.length := by simp at h11; omega
      refine LWo.ownCap 0 rfl (by omega) (ho := rfl) (fun c hc1 hc2 => ?_)
      refine LWo.move _ rfl (hn := ?_)
      refine LWo.move _ rfl (hn := ?_)
      refine LWo.int _ rfl rfl (add_in (by simp only [List.length_cons, List.length_nil]; omega) (by simp only [List.length_cons, List.length_nil]; omega)) (hn := ?_)
      refine LWo.move _ rfl (hn := ?_)
      refine LWo.capC u_Limpl_Tally rfl (hn := ?_)
      refine LWo.int _ rfl rfl rfl (hn := ?_)
      refine LWo.nil (hN14 _ ?_)
      refine LWP.cond_split rfl (fun h15 => ?_) (fun h15 => ?_)
      · -- t31 = True
        try simp only [List.length_map, decide_eq_true_eq, decide_eq_false_iff_not, Int.ofNat_lt, Int.ofNat_le, Int.not_lt, Int.not_le, ge_iff_le, gt_iff_lt, Nat.not_le, Nat.not_lt] at h15
        refine LWP.seq_k fun N16 hN16 => ?_
        have hcc : c < i + (xs.length + 1 - i) := by simp at h15; omega
        refine LWP.region (l := [_,_,_,_,_,_,_,_,_,_]) ?_
        refine LWo.move _ rfl (hn := ?_)
        refine LWo.move _ rfl (hn := ?_)
        refine LWo.cutCC u_Limpl_Tally s_impl_Tally rfl rfl rfl (h := i) ⟨_, rfl⟩ (by omega) (by omega) (hn := ?_)
        refine LWo.move _ rfl (hn := ?_)
        refine LWo.move _ rfl (hn := ?_)
        refine LWo.int _ rfl rfl (add_in (by simp only [List.length_cons, List.length_nil]; omega) (by simp only [List.length_cons, List.length_nil]; omega)) (hn := ?_)
        refine LWo.move _ rfl (hn := ?_)
        refine LWo.int _ rfl rfl (sub_in (by simp only [List.length_cons, List.length_nil]; omega) (by simp only [List.length_cons, List.length_nil]; omega)) (hn := ?_)
        refine LWo.appendMake (m := xs.length + 1 - i) 40 (.agg ([Go.Value.slice none 0 0, Go.Value.int Go.IntKind.i64 0, Go.Value.int Go.IntKind.i64 0, Go.Value.int Go.IntKind.i64 0].map LV.imm)) u_Limpl_Tally u_int i_impl_Tally (zs := [Go.Value.slice none 0 0, Go.Value.int Go.IntKind.i64 0, Go.Value.int Go.IntKind.i64 0, Go.Value.int Go.IntKind.i64 0]) rfl rfl (by simp [Value.oneCell']) rfl (.own rfl rfl rfl rfl (by show i ≤ xs.length; omega) rfl hcc (fun x hx => hu x (List.mem_of_mem_take hx))) (congrArg (fun z => LV.imm (Value.int .i64 z)) (show ((xs.length : Int) + (([v] : List LV).length : Nat)) - (i : Int) = ((xs.length + 1 - i : Nat) : Int) by simp; omega)) rfl rfl (by simp; omega) (by simp; omega) (by omega) (by decide) (hn := ?_)
        refine LWo.assign _ rfl (hn := ?_)
        refine LWo.nil (hN16 _ ?_)
        refine LWP.seq_k fun N17 hN17 => ?_
        refine LWP.region (l := [_,_,_,_,_]) ?_
        refine LWo.move _ rfl (hn := ?_)
        refine LWo.move _ rfl (hn := ?_)
        refine LWo.cutOwn (l := i) (h := xs.length + 1) u_Limpl_Tally s_impl_Tally rfl rfl rfl ⟨_, rfl⟩ (show xs.length + 1 = (xs.take i).length + (xs.length + 1 - i) by rw [List.length_take]; omega) trivial (.inl rfl) (by omega) (show xs.length + 1 ≤ (xs.take i).length + (xs.length + 1 - i) by rw [List.length_take]; omega) rfl rfl (hn := ?_)
        refine LWo.move _ rfl (hn := ?_)
        refine LWo.copy [v] u_Limpl_Tally s_impl_Tally rfl (by omega) rfl rfl rfl rfl (by simp; omega) (.sl rfl rfl rfl) (by simp; omega) (hn := ?_)
        refine LWo.nil (hN17 _ ?_)
        refine LWP.seq_k fun N18 hN18 => ?_
        refine LWP.drawPU (l := [_,_,_,_,_,_,_,_]) (o := _) [0, 1, 7, 9] [(46, [9]), (47, [1]), (48, [7]), (49, [47, 48]), (50, [46, 49]), (51, [0]), (52, [1]), (53, [51, 52])] [9] 54 [50, 53] 40 mixed (by kernel_rfl) ?_
        refine ⟨rfl, _, fun u hu hh => LWo.move _ hu.1 (hn := LWo.nil ⟨rfl, .inl rfl, good0⟩), ?_⟩
        refine ⟨rfl, _, fun u hu hh => LWo.move (.imm (.int _ _)) hu.1 (hn := LWo.nil ⟨rfl, .inl rfl, good0⟩), ?_⟩
        refine ⟨rfl, _, fun u hu hh => LWo.move (.imm (.int _ _)) hu.1 (hn := LWo.nil ⟨rfl, .inl rfl, good0⟩), ?_⟩
        refine ⟨rfl, _, fun u hu hh => LWo.int _ hu.1 hu.2.1 (add_in (by simp only [List.length_cons, List.length_nil]; omega) (by simp only [List.length_cons, List.length_nil]; omega)) (hn := LWo.nil ⟨rfl, .inl rfl, good0⟩), ?_⟩
        refine ⟨rfl, _, fun u hu hh => LWo.cutOwn (l := i + 1) (h := xs.length + 1) u_Limpl_Tally s_impl_Tally hu.1 (hh _ _ rfl) rfl ⟨_, hu.2.1.trans (congrArg (fun z => LV.imm (Value.int .i64 z)) (show ((i : Int) + (([v] : List LV).length : Nat)) = ((i + 1 : Nat) : Int) by simp))⟩ (show xs.length + 1 = (xs.take i).length + (xs.length + 1 - i) by rw [List.length_take]; omega) trivial (.inl rfl) (by omega) (show xs.length + 1 ≤ (xs.take i).length + (xs.length + 1 - i) by rw [List.length_take]; omega) rfl rfl (hn := LWo.nil ⟨rfl, .inl rfl, good0⟩), ?_⟩
        refine ⟨rfl, _, fun u hu hh => LWo.move _ hu.1 (hn := LWo.nil ⟨rfl, .inl rfl, good0⟩), ?_⟩
        refine ⟨rfl, _, fun u hu hh => LWo.move (.imm (.int _ _)) hu.1 (hn := LWo.nil ⟨rfl, .inl rfl, good0⟩), ?_⟩
        refine ⟨rfl, _, fun u hu hh => LWo.cutC (l := i) (h := xs.length) u_Limpl_Tally s_impl_Tally hu.1 (hh _ _ rfl) rfl ⟨_, hu.2.1⟩ rfl (by omega) (by omega) rfl rfl (hn := LWo.nil ⟨rfl, .inl rfl, good0⟩), ?_⟩
        refine ⟨rfl, _, _, fun u hu hh => LWo.copy (xs.drop i) u_Limpl_Tally s_impl_Tally hu.1 (by omega) (hh _ _ rfl) rfl rfl rfl (by simp; omega) (.own hu.2.1 (hh _ _ rfl) rfl rfl (by simp; omega) (by simp [List.take_of_length_le]) (by simp only [List.length_drop]; omega)) (by simp only [List.length_drop]; omega) (hn := LWo.nil ⟨rfl, .inl rfl, good0⟩), rfl, by kernel_rfl, hN18 _ ?_⟩
        refine LWP.seq_k fun N19 hN19 => ?_
        refine LWP.region (l := [_,_]) ?_
        refine LWo.move _ rfl (hn := ?_)
        refine LWo.assign _ rfl (hn := ?_)
        refine LWo.nil (hN19 _ ?_)
        refine LWP.ret (QRet.own1 (.inr rfl) rfl rfl rfl rfl (by simp; omega) ⟨by refine congrArg (fun l => LV.nw 4 l false) ?_; simp only [Nat.zero_add, Nat.sub_zero]; rw [← (show xs.length + 1 = (xs.take i).length + (xs.length + 1 - i) by rw [List.length_take]; omega)]; exact ins_fresh (m := xs.length + 1 - i) hi (by omega), rfl⟩)
      · -- t31 = False
        try simp only [List.length_map, decide_eq_true_eq, decide_eq_false_iff_not, Int.ofNat_lt, Int.ofNat_le, Int.not_lt, Int.not_le, ge_iff_le, gt_iff_lt, Nat.not_le, Nat.not_lt] at h15
        refine LWP.skip (hN13 _ ?_)
        refine LWP.seq_k fun N20 hN20 => ?_
        have hcc : xs.length + 1 ≤ c := by simp at h15; omega
        refine LWP.region (l := [_,_,_,_,_,_]) ?_
        refine LWo.move _ rfl (hn := ?_)
        refine LWo.move _ rfl (hn := ?_)
        refine LWo.move _ rfl (hn := ?_)
        refine LWo.int _ rfl rfl (add_in (by simp only [List.length_cons, List.length_nil]; omega) (by simp only [List.length_cons, List.length_nil]; omega)) (hn := ?_)
        refine LWo.cutC (l := 0) (h := xs.length + 1) u_Limpl_Tally s_impl_Tally rfl rfl rfl rfl ⟨_, congrArg (fun z => LV.imm (Value.int .i64 z)) (show ((xs.length : Int) + (([v] : List LV).length : Nat)) = ((xs.length + 1 : Nat) : Int) by simp)⟩ (by omega) (by omega) rfl rfl (hn := ?_)
        refine LWo.assign _ rfl (hn := ?_)
        refine LWo.nil (hN20 _ ?_)
        refine LWP.seq_k fun N21 hN21 => ?_
        refine LWP.seq_k fun N22 hN22 => ?_
        refine LWP.region (l := [_,_,_,_,_,_,_,_]) ?_
        refine LWo.move _ rfl (hn := ?_)
        refine LWo.move _ rfl (hn := ?_)
        refine LWo.move _ rfl (hn := ?_)
        refine LWo.move _ rfl (hn := ?_)
        refine LWo.int _ rfl rfl (add_in (by simp only [List.length_cons, List.length_nil]; omega) (by simp only [List.length_cons, List.length_nil]; omega)) (hn := ?_)
        refine LWo.cutOwn (l := i + 1) (h := xs.length + 1) u_Limpl_Tally s_impl_Tally rfl rfl rfl ⟨_, congrArg (fun z => LV.imm (Value.int .i64 z)) (show ((i : Int) + (([v] : List LV).length : Nat)) = ((i + 1 : Nat) : Int) by simp)⟩ rfl trivial (.inl rfl) (by omega) (by omega) rfl rfl (hn := ?_)
        refine LWo.overlaps ov_Limpl_Tally u_Limpl_Tally s_impl_Tally (by decide) rfl rfl (by simp) rfl rfl (by omega) (hn := ?_)
        refine LWo.not rfl (hn := ?_)
        refine LWo.nil (hN22 _ ?_)
        refine LWP.condT rfl rfl ?_
        refine LWP.seq_k fun N23 hN23 => ?_
        refine LWP.drawPU (l := [_,_,_,_,_,_,_,_]) (o := _) [0, 1, 2, 7] [(69, [0]), (70, [1]), (71, [7]), (72, [70, 71]), (73, [69, 72]), (74, [0]), (75, [1]), (76, [74, 75])] [0, 1, 2] 77 [73, 76] 1 mixed (by kernel_rfl) ?_
        refine ⟨rfl, _, fun u hu hh => LWo.move _ hu.1 (hn := LWo.nil ⟨rfl, .inl rfl, good0⟩), ?_⟩
        refine ⟨rfl, _, fun u hu hh => LWo.move (.imm (.int _ _)) hu.1 (hn := LWo.nil ⟨rfl, .inl rfl, good0⟩), ?_⟩
        refine ⟨rfl, _, fun u hu hh => LWo.move (.imm (.int _ _)) hu.1 (hn := LWo.nil ⟨rfl, .inl rfl, good0⟩), ?_⟩
        refine ⟨rfl, _, fun u hu hh => LWo.int _ hu.1 hu.2.1 (add_in (by simp only [List.length_cons, List.length_nil]; omega) (by simp only [List.length_cons, List.length_nil]; omega)) (hn := LWo.nil ⟨rfl, .inl rfl, good0⟩), ?_⟩
        refine ⟨rfl, _, fun u hu hh => LWo.cutOwn (l := i + 1) (h := xs.length + 1) u_Limpl_Tally s_impl_Tally hu.1 (hh _ _ rfl) rfl ⟨_, hu.2.1.trans (congrArg (fun z => LV.imm (Value.int .i64 z)) (show ((i : Int) + (([v] : List LV).length : Nat)) = ((i + 1 : Nat) : Int) by simp))⟩ rfl trivial (.inl rfl) (by omega) (by omega) rfl rfl (hn := LWo.nil ⟨rfl, .inl rfl, good0⟩), ?_⟩
        refine ⟨rfl, _, fun u hu hh => LWo.move _ hu.1 (hn := LWo.nil ⟨rfl, .inl rfl, good0⟩), ?_⟩
        refine ⟨rfl, _, fun u hu hh => LWo.move (.imm (.int _ _)) hu.1 (hn := LWo.nil ⟨rfl, .inl rfl, good0⟩), ?_⟩
        refine ⟨rfl, _, fun u hu hh => LWo.cutOwn (l := i) (h := xs.length + 1) u_Limpl_Tally s_impl_Tally hu.1 (hh _ _ rfl) rfl ⟨_, hu.2.1⟩ rfl trivial (.inl rfl) (by omega) (by omega) rfl rfl (hn := LWo.nil ⟨rfl, .inl rfl, good0⟩), ?_⟩
        refine ⟨rfl, _, _, fun u hu hh => LWo.copy (xs.drop i) u_Limpl_Tally s_impl_Tally hu.1 (by omega) (hh _ _ rfl) rfl rfl rfl (by simp; omega) (.own hu.2.1 (hh _ _ rfl) rfl rfl (by simp; omega) (by simp [List.take_of_length_le]) (by simp only [List.length_drop]; omega)) (by simp only [List.length_drop]; omega) (hn := LWo.nil ⟨rfl, .inl rfl, good0⟩), rfl, by kernel_rfl, hN23 _ ?_⟩
        refine LWP.seq_k fun N24 hN24 => ?_
        refine LWP.region (l := [_,_,_,_,_]) ?_
        refine LWo.move _ rfl (hn := ?_)
        refine LWo.move _ rfl (hn := ?_)
        refine LWo.cutOwn (l := i) (h := xs.length + 1) u_Limpl_Tally s_impl_Tally rfl rfl rfl ⟨_, rfl⟩ rfl trivial (.inl rfl) (by omega) (by omega) rfl rfl (hn := ?_)
        refine LWo.move _ rfl (hn := ?_)
        refine LWo.copy [v] u_Limpl_Tally s_impl_Tally rfl (by omega) rfl rfl rfl rfl (by simp; omega) (.sl rfl rfl rfl) (by simp; omega) (hn := ?_)
        refine LWo.nil (hN24 _ ?_)
        refine LWP.seq_k fun N25 hN25 => ?_
        refine LWP.region (l := [_,_]) ?_
        refine LWo.move _ rfl (hn := ?_)
        refine LWo.assign _ rfl (hn := ?_)
        refine LWo.nil (hN25 _ ?_)
        refine LWP.ret (QRet.own1 (.inr rfl) rfl rfl rfl rfl (by simp; omega) ⟨by refine congrArg (fun l => LV.nw 4 l false) ?_; simp only [Nat.zero_add, Nat.sub_zero]; exact ins_place hi hin, rfl⟩)

def m_slices_Insert_Limpl_Tally_impl_Tally (o0 : List S_impl_Tally) (a1 : Int) (a2 : List S_impl_Tally) : Option (List S_impl_Tally) :=
  match a2 with
  | [v] => if 0 ≤ a1 ∧ a1 ≤ o0.length ∧ o0.length ≤ 1000000000 then some (o0.take a1.toNat ++ v :: o0.drop a1.toNat) else none
  | _ => none
theorem c_slices_Insert_Limpl_Tally_impl_Tally (o0 : List S_impl_Tally) (a1 : Int) (a2 : List S_impl_Tally) (r : List S_impl_Tally) (h : m_slices_Insert_Limpl_Tally_impl_Tally o0 a1 a2 = some r) : Does Try.prog f_slices_Insert_Limpl_Tally_impl_Tally [.own 0 0 o0.length, e_int a1, .sl 4 (a2.map e_impl_Tally)] [(0, lob 4 e_impl_Tally o0)] (fun x hh => x = .nw 4 (r.map e_impl_Tally) false ∧ hh = []) := by
  unfold m_slices_Insert_Limpl_Tally_impl_Tally at h
  split at h
  · rename_i v
    split at h
    · rename_i h1
      cases h
      have := cc_slices_Insert_Limpl_Tally_impl_Tally (o0.map e_impl_Tally) (e_impl_Tally v) a1.toNat (by rw [List.length_map]; omega) rfl (by intro x hx; obtain ⟨y, _, rfl⟩ := List.mem_map.1 hx; rfl) (by rw [List.length_map]; omega)
      rw [List.length_map, Int.toNat_of_nonneg h1.1] at this
      have em : (o0.take a1.toNat ++ v :: o0.drop a1.toNat).map e_impl_Tally = (o0.map e_impl_Tally).take a1.toNat ++ e_impl_Tally v :: (o0.map e_impl_Tally).drop a1.toNat := by simp
      rw [em]
      exact this
    · cases h
  · cases h


end Go.Proofs.Ytkgmomocjkmipaa
