/- Mirrors of functions, and that the functions return what the mirrors say. -/
import Derived.Test.YtemfdnnhknepbaaXW2
set_option linter.unusedVariables false
set_option linter.unusedSimpArgs false
namespace Go.Proofs.Ytemfdnnhknepbaa
open Go.Proofs Go.Lift Go.RowKit
def m_impl_RowOk_1 (a0 : S_impl_Value) : Option Bool :=
  (m_impl_Value_ok a0).bind fun x3 =>
  some (!x3)
theorem c_impl_RowOk_1 (a0 : S_impl_Value) (r : Bool) (h : m_impl_RowOk_1 a0 = some r) : Ret Try.prog f_impl_RowOk_1 [e_impl_Value a0] (e_bool r) := by
  refine Does.goG [] F_impl_RowOk_1 rfl e_impl_RowOk_1 n_impl_RowOk_1 rfl (rvs := [.tmp 2]) rfl rfl ?_
  intro w0 ok0 lent ρ0
  refine LWP.seq_k fun N1 hN1 => ?_
  refine LWP.region (l := [_,_]) ?_
  refine LWo.boxF (e_impl_Value a0) rfl rfl rfl (hn := ?_)
  refine LWo.assign (e_bool false) rfl (hn := ?_)
  refine LWo.nil (hN1 _ ?_)
  refine LWP.seq_k fun N2 hN2 => ?_
  refine LWP.region (l := [_,_,_,_]) ?_
  refine LWo.loadN ((e_impl_Value a0)).cells g_impl_Value s_impl_Value rfl (Nat.le_of_ble_eq_true rfl) rfl (hn := ?_)
  refine bk h fun x3 e3 h => ?_
  refine LWo.vcall rfl rfl (c_impl_Value_ok _ _ e3) (.same (.nil)) (hn := ?_)
  refine LWo.not rfl (hn := ?_)
  refine LWo.assign (e_bool (!x3)) rfl (hn := ?_)
  refine LWo.nil (hN2 _ ?_)
  obtain rfl := Option.some.inj h
  refine LWP.ret (QG.mk (.inr rfl) (.cons (.tmp (x := (e_bool (!x3))) rfl) (.nil)) (RetOK.one0 (.pure rfl) (by decide)) rfl rfl)

def m_impl_RowOk_j1 (t2 : Bool) : Option Bool :=
  some t2
def m_impl_RowOk (a0 : (List S_impl_Value)) : Option Bool :=
  bif decide ((a0.length : Int) ≤ (4 : Int)) then ((m_slices_ContainsFunc_Limpl_Value_impl_Value a0 (fun b0_ => m_impl_RowOk_1 b0_ )).bind fun x4 =>
    m_impl_RowOk_j1  (!x4))
  else (m_impl_RowOk_j1  false)
theorem c_impl_RowOk (a0 : (List S_impl_Value)) (r : Bool) (h : m_impl_RowOk a0 = some r) : Ret Try.prog f_impl_RowOk [e_Limpl_Value a0] (e_bool r) := by
  refine Does.goG [] F_impl_RowOk rfl e_impl_RowOk n_impl_RowOk rfl (rvs := [.tmp 2]) rfl rfl ?_
  intro w0 ok0 lent ρ0
  refine LWP.seq_k fun N1 hN1 => ?_
  refine LWP.region (l := [_]) ?_
  refine LWo.assign (e_bool false) rfl (hn := ?_)
  refine LWo.nil (hN1 _ ?_)
  refine LWP.join (α := Bool) (fun z : Bool => [(2, (e_bool z))]) (fun z : Bool => []) (fun z : Bool => m_impl_RowOk_j1  z) r (fun _ => by simp [hkeys]) ?_ ?_
  · rintro t2 h
    replace h : m_impl_RowOk_j1  t2 = some _ := h
    obtain rfl := Option.some.inj h
    refine LWP.ret (QG.mk (.inr rfl) (.cons (.tmp (x := (e_bool t2)) rfl) (.nil)) (RetOK.one0 (.pure rfl) (by decide)) rfl rfl)
  · intro N2 hN2
    refine LWP.region (l := [_,_,_,_,_,_,_,_,_]) ?_
    refine LWo.move (e_Limpl_Value a0) rfl (hn := ?_)
    refine LWo.lenM (f := e_impl_Value) (l := a0) u_Limpl_Value rfl (hn := ?_)
    refine LWo.int _ rfl rfl rfl (hn := ?_)
    refine LWo.move (e_bool (decide ((a0.length : Int) ≤ (4 : Int)))) rfl (hn := ?_)
    refine LWo.byCases (t := 6) _ rfl (fun h3 => ?_) (fun h3 => ?_)
    · have h := bT h3 h
      refine LWo.guardY (t := 6) rfl h3 rfl rfl ?_
      refine LWo.move (e_Limpl_Value a0) rfl (hn := ?_)
      refine bk h fun x4 e4 h => ?_
      refine LWo.guardY (t := 6) rfl h3 rfl rfl ?_
      refine LWo.vcall rfl rfl (c_slices_ContainsFunc_Limpl_Value_impl_Value _ _ f_impl_RowOk_1 [] (fun _ => rfl) (fun b0_ v hv => c_impl_RowOk_1 b0_  v hv) _ e4) (.same (.same (.nil))) (hn := ?_)
      refine LWo.guardY (t := 6) rfl h3 rfl rfl ?_
      refine LWo.not rfl (hn := ?_)
      refine LWo.pickTM (e_bool (!x4)) rfl h3 rfl (hn := ?_)
      refine LWo.assign (e_bool (!x4)) rfl (hn := ?_)
      refine LWo.nil (hN2 (!x4) _ ⟨rfl, trivial⟩ trivial h)
    · have h := bF h3 h
      refine LWo.guardNU (t := 6) rfl h3 rfl rfl rfl rfl rfl ?_
      refine LWo.guardNU (t := 6) rfl h3 rfl rfl rfl rfl rfl ?_
      refine LWo.guardNU (t := 6) rfl h3 rfl rfl rfl rfl rfl ?_
      refine LWo.pickFM (e_bool false) rfl h3 rfl (hn := ?_)
      refine LWo.assign (e_bool false) rfl (hn := ?_)
      refine LWo.nil (hN2 false _ ⟨rfl, trivial⟩ trivial h)

def m_impl_allOk_1 (a0 : (List S_impl_Value)) : Option Bool :=
  (m_impl_RowOk a0).bind fun x3 =>
  some (!x3)
theorem c_impl_allOk_1 (a0 : (List S_impl_Value)) (r : Bool) (h : m_impl_allOk_1 a0 = some r) : Ret Try.prog f_impl_allOk_1 [e_Limpl_Value a0] (e_bool r) := by
  refine Does.goG [] F_impl_allOk_1 rfl e_impl_allOk_1 n_impl_allOk_1 rfl (rvs := [.tmp 2]) rfl rfl ?_
  intro w0 ok0 lent ρ0
  refine LWP.seq_k fun N1 hN1 => ?_
  refine LWP.region (l := [_]) ?_
  refine LWo.assign (e_bool false) rfl (hn := ?_)
  refine LWo.nil (hN1 _ ?_)
  refine LWP.seq_k fun N2 hN2 => ?_
  refine LWP.region (l := [_,_,_,_]) ?_
  refine LWo.move (e_Limpl_Value a0) rfl (hn := ?_)
  refine bk h fun x3 e3 h => ?_
  refine LWo.vcall rfl rfl (c_impl_RowOk _ _ e3) (.same (.nil)) (hn := ?_)
  refine LWo.not rfl (hn := ?_)
  refine LWo.assign (e_bool (!x3)) rfl (hn := ?_)
  refine LWo.nil (hN2 _ ?_)
  obtain rfl := Option.some.inj h
  refine LWP.ret (QG.mk (.inr rfl) (.cons (.tmp (x := (e_bool (!x3))) rfl) (.nil)) (RetOK.one0 (.pure rfl) (by decide)) rfl rfl)

def m_impl_allOk (a0 : (List (List S_impl_Value))) : Option Bool :=
  (m_slices_ContainsFunc_LLimpl_Value_Limpl_Value a0 (fun b0_ => m_impl_allOk_1 b0_ )).bind fun x3 =>
  some (!x3)
theorem c_impl_allOk (a0 : (List (List S_impl_Value))) (r : Bool) (h : m_impl_allOk a0 = some r) : Ret Try.prog f_impl_allOk [e_LLimpl_Value a0] (e_bool r) := by
  refine Does.goG [] F_impl_allOk rfl e_impl_allOk n_impl_allOk rfl (rvs := [.tmp 2]) rfl rfl ?_
  intro w0 ok0 lent ρ0
  refine LWP.seq_k fun N1 hN1 => ?_
  refine LWP.region (l := [_]) ?_
  refine LWo.assign (e_bool false) rfl (hn := ?_)
  refine LWo.nil (hN1 _ ?_)
  refine LWP.seq_k fun N2 hN2 => ?_
  refine LWP.region (l := [_,_,_,_]) ?_
  refine LWo.move (e_LLimpl_Value a0) rfl (hn := ?_)
  refine bk h fun x3 e3 h => ?_
  refine LWo.vcall rfl rfl (c_slices_ContainsFunc_LLimpl_Value_Limpl_Value _ _ f_impl_allOk_1 [] (fun _ => rfl) (fun b0_ v hv => c_impl_allOk_1 b0_  v hv) _ e3) (.same (.same (.nil))) (hn := ?_)
  refine LWo.not rfl (hn := ?_)
  refine LWo.assign (e_bool (!x3)) rfl (hn := ?_)
  refine LWo.nil (hN2 _ ?_)
  obtain rfl := Option.some.inj h
  refine LWP.ret (QG.mk (.inr rfl) (.cons (.tmp (x := (e_bool (!x3))) rfl) (.nil)) (RetOK.one0 (.pure rfl) (by decide)) rfl rfl)

def m_slices_IsSortedFunc_LLimpl_Value_Limpl_Value_j1 (p1 : (List S_impl_Value) → (List S_impl_Value) → Option Int)  : Option Bool :=
  some true
def m_slices_IsSortedFunc_LLimpl_Value_Limpl_Value_l1 (p1 : (List S_impl_Value) → (List S_impl_Value) → Option Int) : Nat → (List (List S_impl_Value)) → Int → Option Bool
  | 0, _, _ => none
  | n1 + 1, t0, t5 =>
    bif decide (t5 > (0 : Int)) then ((at? t0 t5).bind fun x12 =>
    (ckI (t5 - (1 : Int))).bind fun x13 =>
    (at? t0 x13).bind fun x14 =>
    (p1 x12 x14).bind fun x15 =>
    bif decide (x15 < (0 : Int)) then (some false)
    else ((ckI (t5 - (1 : Int))).bind fun x18 =>
    (m_slices_IsSortedFunc_LLimpl_Value_Limpl_Value_l1 p1 n1) t0 x18))
    else (m_slices_IsSortedFunc_LLimpl_Value_Limpl_Value_j1 p1 )
def m_slices_IsSortedFunc_LLimpl_Value_Limpl_Value (a0 : (List (List S_impl_Value))) (p1 : (List S_impl_Value) → (List S_impl_Value) → Option Int) : Option Bool :=
  (ckI ((a0.length : Int) - (1 : Int))).bind fun x4 =>
  m_slices_IsSortedFunc_LLimpl_Value_Limpl_Value_l1 p1 ((x4 - (0 : Int)).toNat + 1) a0 x4
theorem c_slices_IsSortedFunc_LLimpl_Value_Limpl_Value (a0 : (List (List S_impl_Value))) (p1 : (List S_impl_Value) → (List S_impl_Value) → Option Int) (f1 : FuncId) (q1 : List LV) (hq1 : ∀ k, LV.at?.atL k q1 = false) (hf1 : ∀ a0 a1 v, p1 a0 a1 = some v → Ret Try.prog f1 (e_Limpl_Value a0 :: e_Limpl_Value a1 :: q1) (e_int v)) (r : Bool) (h : m_slices_IsSortedFunc_LLimpl_Value_Limpl_Value a0 p1 = some r) : Ret Try.prog f_slices_IsSortedFunc_LLimpl_Value_Limpl_Value [e_LLimpl_Value a0, .clo f1 q1] (e_bool r) := by
  refine Does.goG [] F_slices_IsSortedFunc_LLimpl_Value_Limpl_Value rfl e_slices_IsSortedFunc_LLimpl_Value_Limpl_Value n_slices_IsSortedFunc_LLimpl_Value_Limpl_Value rfl (rvs := [.tmp 4]) rfl rfl ?_
  intro w0 ok0 lent ρ0
  refine LWP.seq_k fun N1 hN1 => ?_
  refine LWP.region (l := [_]) ?_
  refine LWo.assign (e_bool false) rfl (hn := ?_)
  refine LWo.nil (hN1 _ ?_)
  refine LWP.join (α := Unit) (fun z : Unit => []) (fun z : Unit => []) (fun z : Unit => m_slices_IsSortedFunc_LLimpl_Value_Limpl_Value_j1 p1 ) r (fun _ => by simp [hkeys]) ?_ ?_
  · rintro _ h
    replace h : m_slices_IsSortedFunc_LLimpl_Value_Limpl_Value_j1 p1  = some _ := h
    refine LWP.seq_k fun N19 hN19 => ?_
    refine LWP.region (l := [_]) ?_
    refine LWo.assign (e_bool true) rfl (hn := ?_)
    refine LWo.nil (hN19 _ ?_)
    obtain rfl := Option.some.inj h
    refine LWP.ret (QG.mk (.inr rfl) (.cons (.tmp (x := (e_bool true)) rfl) (.nil)) (RetOK.one0 (.pure rfl) (by decide)) rfl rfl)
  · intro N2 hN2
    refine LWP.seq_k fun N3 hN3 => ?_
    refine LWP.region (l := [_,_,_,_]) ?_
    refine LWo.move (e_LLimpl_Value a0) rfl (hn := ?_)
    refine LWo.lenM (f := e_Limpl_Value) (l := a0) u_LLimpl_Value rfl (hn := ?_)
    refine bk h fun x4 e4 h => ?_
    refine LWo.int _ rfl rfl (sub_ck e4) (hn := ?_)
    refine LWo.assign (e_int x4) rfl (hn := ?_)
    refine LWo.nil (hN3 _ ?_)
    refine LWP.block ?_
    refine LWP.loopM (α := (List (List S_impl_Value)) × Int) (fun z : (List (List S_impl_Value)) × Int => [(0, (e_LLimpl_Value z.1)), (1, (.clo f1 q1)), (5, (e_int z.2))]) (fun z : (List (List S_impl_Value)) × Int => []) (fun n1 (z : (List (List S_impl_Value)) × Int) => m_slices_IsSortedFunc_LLimpl_Value_Limpl_Value_l1 p1 n1 z.1 z.2) r _ (a0, x4) h (fun _ => rfl) (fun _ => by simp [hkeys]) ⟨rfl, rfl, rfl, trivial⟩ trivial ?_
    rintro n1 ⟨t0, t5⟩ h N5 hN5
    replace h : m_slices_IsSortedFunc_LLimpl_Value_Limpl_Value_l1 p1 (n1 + 1) t0 t5 = some _ := h
    refine LWP.seq_k fun N7 hN7 => ?_
    refine LWP.seq_k fun N8 hN8 => ?_
    refine LWP.region (l := [_,_]) ?_
    refine LWo.move (e_int t5) rfl (hn := ?_)
    refine LWo.int _ rfl rfl rfl (hn := ?_)
    refine LWo.nil (hN8 _ ?_)
    refine LWP.cond_split rfl (fun h9 => ?_) (fun h9 => ?_)
    · have h := bT h9 h
      refine LWP.skip (hN7 _ ?_)
      refine LWP.seq_k fun N10 hN10 => ?_
      refine LWP.block ?_
      refine LWP.seq_k fun N11 hN11 => ?_
      refine bk h fun x12 e12 h => ?_
      refine bk h fun x13 e13 h => ?_
      refine bk h fun x14 e14 h => ?_
      refine bk h fun x15 e15 h => ?_
      refine LWP.drawE (l := [_,_,_,_,_,_,_,_,_,_,_,_]) [] [0, 1, 5] [([1], []), ([0], []), ([5], []), ([14, 15], []), ([16], []), ([0], []), ([5], []), ([19], []), ([18, 20], []), ([21], []), ([13, 17, 22], []), ([23], [])] [0, 1, 5, 24] [] mixed (by kernel_rfl) rfl (by decide) ?_
      refine ⟨rfl, .put 13 _, trivial, fun u hg hu hh => LWo.move (.clo f1 q1) hu.1 (hn := LWo.nil ⟨rfl, .inl rfl, hg⟩), ?_⟩
      refine ⟨rfl, .put 14 _, trivial, fun u hg hu hh => LWo.move (e_LLimpl_Value t0) hu.1 (hn := LWo.nil ⟨rfl, .inl rfl, hg⟩), ?_⟩
      refine ⟨rfl, .put 15 _, trivial, fun u hg hu hh => LWo.move (e_int t5) hu.1 (hn := LWo.nil ⟨rfl, .inl rfl, hg⟩), ?_⟩
      refine ⟨rfl, .put 16 _, trivial, fun u hg hu hh => LWo.indexM (f := e_Limpl_Value) e12 u_LLimpl_Value s_Limpl_Value hu.1 hu.2.1 (hn := LWo.nil ⟨rfl, .inl rfl, hg⟩), ?_⟩
      refine ⟨rfl, .put 17 _, trivial, fun u hg hu hh => LWo.load1 (c := (e_Limpl_Value x12)) g_Limpl_Value hu.1 (hn := LWo.nil ⟨rfl, .inl rfl, hg⟩), ?_⟩
      refine ⟨rfl, .put 18 _, trivial, fun u hg hu hh => LWo.move (e_LLimpl_Value t0) hu.1 (hn := LWo.nil ⟨rfl, .inl rfl, hg⟩), ?_⟩
      refine ⟨rfl, .put 19 _, trivial, fun u hg hu hh => LWo.move (e_int t5) hu.1 (hn := LWo.nil ⟨rfl, .inl rfl, hg⟩), ?_⟩
      refine ⟨rfl, .put 20 _, trivial, fun u hg hu hh => LWo.int _ hu.1 rfl (sub_ck e13) (hn := LWo.nil ⟨rfl, .inl rfl, hg⟩), ?_⟩
      refine ⟨rfl, .put 21 _, trivial, fun u hg hu hh => LWo.indexM (f := e_Limpl_Value) e14 u_LLimpl_Value s_Limpl_Value hu.1 hu.2.1 (hn := LWo.nil ⟨rfl, .inl rfl, hg⟩), ?_⟩
      refine ⟨rfl, .put 22 _, trivial, fun u hg hu hh => LWo.load1 (c := (e_Limpl_Value x14)) g_Limpl_Value hu.1 (hn := LWo.nil ⟨rfl, .inl rfl, hg⟩), ?_⟩
      refine ⟨rfl, .put 23 _, trivial, fun u hg hu hh => LWo.vcall hu.1 (avq2 hu.2.1 hu.2.2.1) (hf1 _ _ _ e15) .refl (hn := LWo.nil ⟨rfl, .inl rfl, hg⟩), ?_⟩
      refine ⟨rfl, .put 24 _, trivial, fun u hg hu hh => LWo.int _ hu.1 rfl rfl (hn := LWo.nil ⟨rfl, .inl rfl, hg⟩), ?_⟩
      refine ⟨rfl, by kernel_rfl, hN11 _ ?_⟩
      refine LWP.cond_split rfl (fun h16 => ?_) (fun h16 => ?_)
      · have h := bT h16 h
        refine LWP.seq_k fun N17 hN17 => ?_
        refine LWP.region (l := [_]) ?_
        refine LWo.assign (e_bool false) rfl (hn := ?_)
        refine LWo.nil (hN17 _ ?_)
        obtain rfl := Option.some.inj h
        refine LWP.ret (QG.mk (.inr rfl) (.cons (.tmp (x := (e_bool false)) rfl) (.nil)) (RetOK.one0 (.pure rfl) (by decide)) rfl rfl)
      · have h := bF h16 h
        refine LWP.skip (hN10 _ ?_)
        refine LWP.region (l := [_,_,_]) ?_
        refine LWo.move (e_int t5) rfl (hn := ?_)
        refine bk h fun x18 e18 h => ?_
        refine LWo.int _ rfl rfl (sub_ck e18) (hn := ?_)
        refine LWo.assign (e_int x18) rfl (hn := ?_)
        refine LWo.nil (hN5 (t0, x18) _ ⟨rfl, rfl, rfl, trivial⟩ trivial h)
    · have h := bF h9 h
      refine LWP.exit (hN2 () _ trivial trivial h)

def m_slices_CompareFunc_Limpl_Value_Limpl_Value_impl_Value_impl_Value_j1 (p2 : S_impl_Value → S_impl_Value → Option Int) (t0 : (List S_impl_Value)) (t1 : (List S_impl_Value)) : Option Int :=
  bif decide ((t0.length : Int) < (t1.length : Int)) then (some (-1 : Int))
  else (some (0 : Int))
def m_slices_CompareFunc_Limpl_Value_Limpl_Value_impl_Value_impl_Value_l1 (p2 : S_impl_Value → S_impl_Value → Option Int) : Nat → (List S_impl_Value) → (List S_impl_Value) → (List S_impl_Value) → Int → Int → Option Int
  | 0, _, _, _, _, _ => none
  | n1 + 1, t0, t1, t11, t12, t13 =>
    bif decide (t13 < t12) then ((at? t11 t13).bind fun x11 =>
    lt (x11) fun y12 =>
    bif decide (t13 ≥ (t1.length : Int)) then (some (1 : Int))
    else ((at? t1 t13).bind fun x18 =>
    lt (x18) fun y19 =>
    (p2 y12 y19).bind fun x21 =>
    bif (x21 != (0 : Int)) then (some x21)
    else ((ckI (t13 + (1 : Int))).bind fun x25 =>
    (m_slices_CompareFunc_Limpl_Value_Limpl_Value_impl_Value_impl_Value_l1 p2 n1) t0 t1 t11 t12 x25)))
    else (m_slices_CompareFunc_Limpl_Value_Limpl_Value_impl_Value_impl_Value_j1 p2 t0 t1)
def m_slices_CompareFunc_Limpl_Value_Limpl_Value_impl_Value_impl_Value (a0 : (List S_impl_Value)) (a1 : (List S_impl_Value)) (p2 : S_impl_Value → S_impl_Value → Option Int) : Option Int :=
  m_slices_CompareFunc_Limpl_Value_Limpl_Value_impl_Value_impl_Value_l1 p2 (((a0.length : Int) - (0 : Int)).toNat + 1) a0 a1 a0 (a0.length : Int) (0 : Int)
theorem c_slices_CompareFunc_Limpl_Value_Limpl_Value_impl_Value_impl_Value (a0 : (List S_impl_Value)) (a1 : (List S_impl_Value)) (p2 : S_impl_Value → S_impl_Value → Option Int) (f2 : FuncId) (q2 : List LV) (hq2 : ∀ k, LV.at?.atL k q2 = false) (hf2 : ∀ a0 a1 v, p2 a0 a1 = some v → Ret Try.prog f2 (e_impl_Value a0 :: e_impl_Value a1 :: q2) (e_int v)) (r : Int) (h : m_slices_CompareFunc_Limpl_Value_Limpl_Value_impl_Value_impl_Value a0 a1 p2 = some r) : Ret Try.prog f_slices_CompareFunc_Limpl_Value_Limpl_Value_impl_Value_impl_Value [e_Limpl_Value a0, e_Limpl_Value a1, .clo f2 q2] (e_int r) := by
  refine Does.goG [] F_slices_CompareFunc_Limpl_Value_Limpl_Value_impl_Value_impl_Value rfl e_slices_CompareFunc_Limpl_Value_Limpl_Value_impl_Value_impl_Value n_slices_CompareFunc_Limpl_Value_Limpl_Value_impl_Value_impl_Value rfl (rvs := [.tmp 6]) rfl rfl ?_
  intro w0 ok0 lent ρ0
  refine LWP.seq_k fun N1 hN1 => ?_
  refine LWP.region (l := [_]) ?_
  refine LWo.assign (e_int (0 : Int)) rfl (hn := ?_)
  refine LWo.nil (hN1 _ ?_)
  refine LWP.join (α := (List S_impl_Value) × (List S_impl_Value)) (fun z : (List S_impl_Value) × (List S_impl_Value) => [(0, (e_Limpl_Value z.1)), (1, (e_Limpl_Value z.2))]) (fun z : (List S_impl_Value) × (List S_impl_Value) => []) (fun z : (List S_impl_Value) × (List S_impl_Value) => m_slices_CompareFunc_Limpl_Value_Limpl_Value_impl_Value_impl_Value_j1 p2 z.1 z.2) r (fun _ => by simp [hkeys]) ?_ ?_
  · rintro ⟨t0, t1⟩ h
    replace h : m_slices_CompareFunc_Limpl_Value_Limpl_Value_impl_Value_impl_Value_j1 p2 t0 t1 = some _ := h
    refine LWP.seq_k fun N26 hN26 => ?_
    refine LWP.seq_k fun N27 hN27 => ?_
    refine LWP.region (l := [_,_,_,_,_]) ?_
    refine LWo.move (e_Limpl_Value t0) rfl (hn := ?_)
    refine LWo.lenM (f := e_impl_Value) (l := t0) u_Limpl_Value rfl (hn := ?_)
    refine LWo.move (e_Limpl_Value t1) rfl (hn := ?_)
    refine LWo.lenM (f := e_impl_Value) (l := t1) u_Limpl_Value rfl (hn := ?_)
    refine LWo.int _ rfl rfl rfl (hn := ?_)
    refine LWo.nil (hN27 _ ?_)
    refine LWP.cond_split rfl (fun h28 => ?_) (fun h28 => ?_)
    · have h := bT h28 h
      refine LWP.seq_k fun N29 hN29 => ?_
      refine LWP.region (l := [_]) ?_
      refine LWo.assign (e_int (-1 : Int)) rfl (hn := ?_)
      refine LWo.nil (hN29 _ ?_)
      obtain rfl := Option.some.inj h
      refine LWP.ret (QG.mk (.inr rfl) (.cons (.tmp (x := (e_int (-1 : Int))) rfl) (.nil)) (RetOK.one0 (.pure rfl) (by decide)) rfl rfl)
    · have h := bF h28 h
      refine LWP.skip (hN26 _ ?_)
      refine LWP.seq_k fun N30 hN30 => ?_
      refine LWP.region (l := [_]) ?_
      refine LWo.assign (e_int (0 : Int)) rfl (hn := ?_)
      refine LWo.nil (hN30 _ ?_)
      obtain rfl := Option.some.inj h
      refine LWP.ret (QG.mk (.inr rfl) (.cons (.tmp (x := (e_int (0 : Int))) rfl) (.nil)) (RetOK.one0 (.pure rfl) (by decide)) rfl rfl)
  · intro N2 hN2
    refine LWP.seq_k fun N3 hN3 => ?_
    refine LWP.region (l := [_,_,_]) ?_
    refine LWo.move (e_Limpl_Value a0) rfl (hn := ?_)
    refine LWo.lenM (f := e_impl_Value) (l := a0) u_Limpl_Value rfl (hn := ?_)
    refine LWo.move (e_int (0 : Int)) rfl (hn := ?_)
    refine LWo.nil (hN3 _ ?_)
    refine LWP.block ?_
    refine LWP.loopM (α := (List S_impl_Value) × (List S_impl_Value) × (List S_impl_Value) × Int × Int) (fun z : (List S_impl_Value) × (List S_impl_Value) × (List S_impl_Value) × Int × Int => [(0, (e_Limpl_Value z.1)), (1, (e_Limpl_Value z.2.1)), (2, (.clo f2 q2)), (11, (e_Limpl_Value z.2.2.1)), (12, (e_int z.2.2.2.1)), (13, (e_int z.2.2.2.2))]) (fun z : (List S_impl_Value) × (List S_impl_Value) × (List S_impl_Value) × Int × Int => []) (fun n1 (z : (List S_impl_Value) × (List S_impl_Value) × (List S_impl_Value) × Int × Int) => m_slices_CompareFunc_Limpl_Value_Limpl_Value_impl_Value_impl_Value_l1 p2 n1 z.1 z.2.1 z.2.2.1 z.2.2.2.1 z.2.2.2.2) r _ (a0, a1, a0, (a0.length : Int), (0 : Int)) h (fun _ => rfl) (fun _ => by simp [hkeys]) ⟨rfl, rfl, rfl, rfl, rfl, rfl, trivial⟩ trivial ?_
    rintro n1 ⟨t0, t1, t11, t12, t13⟩ h N4 hN4
    replace h : m_slices_CompareFunc_Limpl_Value_Limpl_Value_impl_Value_impl_Value_l1 p2 (n1 + 1) t0 t1 t11 t12 t13 = some _ := h
    refine LWP.seq_k fun N6 hN6 => ?_
    refine LWP.region (l := [_]) ?_
    refine LWo.int _ rfl rfl rfl (hn := ?_)
    refine LWo.nil (hN6 _ ?_)
    refine LWP.seq_k fun N7 hN7 => ?_
    refine LWP.cond_split rfl (fun h8 => ?_) (fun h8 => ?_)
    · have h := bT h8 h
      refine LWP.skip (hN7 _ ?_)
      refine LWP.seq_k fun N9 hN9 => ?_
      refine LWP.block ?_
      refine LWP.seq_k fun N10 hN10 => ?_
      refine LWP.region (l := [_,_,_,_,_,_]) ?_
      refine LWo.move (e_int t13) rfl (hn := ?_)
      refine bk h fun x11 e11 h => ?_
      refine LWo.indexM (f := e_impl_Value) e11 u_Limpl_Value s_impl_Value rfl rfl (hn := ?_)
      refine LWo.loadN ((e_impl_Value x11)).cells g_impl_Value s_impl_Value rfl (Nat.le_of_ble_eq_true rfl) rfl (hn := ?_)
      refine LWo.alloc_impl_Value 8 rfl (hn := ?_)
      refine LWo.known 2 (.clo f2 q2) (get_kill_of rfl (hq2 8)) ?_
      refine LWo.assign (e_int t13) rfl (hn := ?_)
      refine lk h fun y12 e12 h => ?_
      refine LWo.storeW (y := (⟨(0 : Int), (0 : Int), (⟨#[]⟩ : ByteArray)⟩ : S_impl_Value)) y12 s_impl_Value rfl rfl rfl rfl rfl rfl (by rw [e12]; exact .refl) rfl (hn := ?_)
      refine LWo.nil (hN10 _ ?_)
      refine LWP.seq_k fun N13 hN13 => ?_
      refine LWP.seq_k fun N14 hN14 => ?_
      refine LWP.region (l := [_,_,_,_]) ?_
      refine LWo.move (e_int t13) rfl (hn := ?_)
      refine LWo.move (e_Limpl_Value t1) rfl (hn := ?_)
      refine LWo.lenM (f := e_impl_Value) (l := t1) u_Limpl_Value rfl (hn := ?_)
      refine LWo.int _ rfl rfl rfl (hn := ?_)
      refine LWo.nil (hN14 _ ?_)
      refine LWP.cond_split rfl (fun h15 => ?_) (fun h15 => ?_)
      · have h := bT h15 h
        refine LWP.seq_k fun N16 hN16 => ?_
        refine LWP.region (l := [_]) ?_
        refine LWo.assign (e_int (1 : Int)) rfl (hn := ?_)
        refine LWo.nil (hN16 _ ?_)
        obtain rfl := Option.some.inj h
        refine LWP.ret (QG.mk (.inr rfl) (.cons (.tmp (x := (e_int (1 : Int))) rfl) (.nil)) (RetOK.one0 (.pure rfl) (by decide)) rfl rfl)
      · have h := bF h15 h
        refine LWP.skip (hN13 _ ?_)
        refine LWP.seq_k fun N17 hN17 => ?_
        refine LWP.region (l := [_,_,_,_,_,_]) ?_
        refine LWo.move (e_Limpl_Value t1) rfl (hn := ?_)
        refine LWo.move (e_int t13) rfl (hn := ?_)
        refine bk h fun x18 e18 h => ?_
        refine LWo.indexM (f := e_impl_Value) e18 u_Limpl_Value s_impl_Value rfl rfl (hn := ?_)
        refine LWo.loadN ((e_impl_Value x18)).cells g_impl_Value s_impl_Value rfl (Nat.le_of_ble_eq_true rfl) rfl (hn := ?_)
        refine LWo.alloc_impl_Value 9 rfl (hn := ?_)
        refine LWo.known 2 (.clo f2 q2) (get_kill_of rfl (hq2 9)) ?_
        refine lk h fun y19 e19 h => ?_
        refine LWo.storeW (y := (⟨(0 : Int), (0 : Int), (⟨#[]⟩ : ByteArray)⟩ : S_impl_Value)) y19 s_impl_Value rfl rfl rfl rfl rfl rfl (by rw [e19]; exact .refl) rfl (hn := ?_)
        refine LWo.nil (hN17 _ ?_)
        refine LWP.seq_k fun N20 hN20 => ?_
        refine LWP.region (l := [_,_,_,_,_]) ?_
        refine LWo.move (.clo f2 q2) rfl (hn := ?_)
        refine LWo.loadVN ((e_impl_Value y12)).cells  g_impl_Value s_impl_Value rfl rfl rfl rfl (hn := ?_)
        refine LWo.loadVN ((e_impl_Value y19)).cells  g_impl_Value s_impl_Value rfl rfl rfl rfl (hn := ?_)
        refine bk h fun x21 e21 h => ?_
        refine LWo.vcall rfl rfl (hf2 _ _ _ e21) .refl (hn := ?_)
        refine LWo.assign (e_int x21) rfl (hn := ?_)
        refine LWo.nil (hN20 _ ?_)
        refine LWP.seq_k fun N22 hN22 => ?_
        refine LWP.region (l := [_,_]) ?_
        refine LWo.move (e_int x21) rfl (hn := ?_)
        refine LWo.int _ rfl rfl rfl (hn := ?_)
        refine LWo.nil (hN22 _ ?_)
        refine LWP.cond_split rfl (fun h23 => ?_) (fun h23 => ?_)
        · have h := bT h23 h
          refine LWP.seq_k fun N24 hN24 => ?_
          refine LWP.region (l := [_,_]) ?_
          refine LWo.move (e_int x21) rfl (hn := ?_)
          refine LWo.assign (e_int x21) rfl (hn := ?_)
          refine LWo.nil (hN24 _ ?_)
          obtain rfl := Option.some.inj h
          refine LWP.ret (QG.mk (.inr rfl) (.cons (.tmp (x := (e_int x21)) rfl) (.nil)) (RetOK.one0 (.pure rfl) (by decide)) rfl rfl)
        · have h := bF h23 h
          refine LWP.skip (hN9 _ ?_)
          refine LWP.region (l := [_,_]) ?_
          refine bk h fun x25 e25 h => ?_
          refine LWo.int _ rfl rfl (add_ck e25) (hn := ?_)
          refine LWo.move (e_int x25) rfl (hn := ?_)
          refine LWo.nil (hN4 (t0, t1, t11, t12, x25) _ ⟨rfl, rfl, rfl, rfl, rfl, rfl, trivial⟩ trivial h)
    · have h := bF h8 h
      refine LWP.exit (hN2 (t0, t1) _ ⟨rfl, rfl, trivial⟩ trivial h)

def m_cmp_isNaN_int (a0 : Int) : Option Bool :=
  some (a0 != a0)
theorem c_cmp_isNaN_int (a0 : Int) (r : Bool) (h : m_cmp_isNaN_int a0 = some r) : Ret Try.prog f_cmp_isNaN_int [e_int a0] (e_bool r) := by
  refine Does.goG [] F_cmp_isNaN_int rfl e_cmp_isNaN_int n_cmp_isNaN_int rfl (rvs := [.tmp 2]) rfl rfl ?_
  intro w0 ok0 lent ρ0
  refine LWP.seq_k fun N1 hN1 => ?_
  refine LWP.region (l := [_]) ?_
  refine LWo.assign (e_bool false) rfl (hn := ?_)
  refine LWo.nil (hN1 _ ?_)
  refine LWP.seq_k fun N2 hN2 => ?_
  refine LWP.region (l := [_,_,_,_]) ?_
  refine LWo.move (e_int a0) rfl (hn := ?_)
  refine LWo.move (e_int a0) rfl (hn := ?_)
  refine LWo.int _ rfl rfl rfl (hn := ?_)
  refine LWo.assign (e_bool (a0 != a0)) rfl (hn := ?_)
  refine LWo.nil (hN2 _ ?_)
  obtain rfl := Option.some.inj h
  refine LWP.ret (QG.mk (.inr rfl) (.cons (.tmp (x := (e_bool (a0 != a0))) rfl) (.nil)) (RetOK.one0 (.pure rfl) (by decide)) rfl rfl)

def m_cmp_Compare_int (a0 : Int) (a1 : Int) : Option Int :=
  (m_cmp_isNaN_int a0).bind fun x3 =>
  (m_cmp_isNaN_int a1).bind fun x5 =>
  bif x3 then (bif x5 then (some (0 : Int))
    else (some (-1 : Int)))
  else (bif x5 then (some (1 : Int))
  else (bif decide (a0 < a1) then (some (-1 : Int))
  else (bif decide (a0 > a1) then (some (1 : Int))
  else (some (0 : Int)))))
theorem c_cmp_Compare_int (a0 : Int) (a1 : Int) (r : Int) (h : m_cmp_Compare_int a0 a1 = some r) : Ret Try.prog f_cmp_Compare_int [e_int a0, e_int a1] (e_int r) := by
  refine Does.goG [] F_cmp_Compare_int rfl e_cmp_Compare_int n_cmp_Compare_int rfl (rvs := [.tmp 4]) rfl rfl ?_
  intro w0 ok0 lent ρ0
  refine LWP.seq_k fun N1 hN1 => ?_
  refine LWP.region (l := [_]) ?_
  refine LWo.assign (e_int (0 : Int)) rfl (hn := ?_)
  refine LWo.nil (hN1 _ ?_)
  refine LWP.seq_k fun N2 hN2 => ?_
  refine LWP.region (l := [_,_,_]) ?_
  refine LWo.move (e_int a0) rfl (hn := ?_)
  refine bk h fun x3 e3 h => ?_
  refine LWo.vcall rfl rfl (c_cmp_isNaN_int _ _ e3) (.same (.nil)) (hn := ?_)
  refine LWo.assign (e_bool x3) rfl (hn := ?_)
  refine LWo.nil (hN2 _ ?_)
  refine LWP.seq_k fun N4 hN4 => ?_
  refine LWP.region (l := [_,_,_]) ?_
  refine LWo.move (e_int a1) rfl (hn := ?_)
  refine bk h fun x5 e5 h => ?_
  refine LWo.vcall rfl rfl (c_cmp_isNaN_int _ _ e5) (.same (.nil)) (hn := ?_)
  refine LWo.assign (e_bool x5) rfl (hn := ?_)
  refine LWo.nil (hN4 _ ?_)
  refine LWP.seq_k fun N6 hN6 => ?_
  refine LWP.seq_k fun N7 hN7 => ?_
  refine LWP.region (l := [_]) ?_
  refine LWo.move (e_bool x3) rfl (hn := ?_)
  refine LWo.nil (hN7 _ ?_)
  refine LWP.cond_split rfl (fun h8 => ?_) (fun h8 => ?_)
  · have h := bT h8 h
    refine LWP.seq_k fun N9 hN9 => ?_
    refine LWP.seq_k fun N10 hN10 => ?_
    refine LWP.region (l := [_]) ?_
    refine LWo.move (e_bool x5) rfl (hn := ?_)
    refine LWo.nil (hN10 _ ?_)
    refine LWP.cond_split rfl (fun h11 => ?_) (fun h11 => ?_)
    · have h := bT h11 h
      refine LWP.seq_k fun N12 hN12 => ?_
      refine LWP.region (l := [_]) ?_
      refine LWo.assign (e_int (0 : Int)) rfl (hn := ?_)
      refine LWo.nil (hN12 _ ?_)
      obtain rfl := Option.some.inj h
      refine LWP.ret (QG.mk (.inr rfl) (.cons (.tmp (x := (e_int (0 : Int))) rfl) (.nil)) (RetOK.one0 (.pure rfl) (by decide)) rfl rfl)
    · have h := bF h11 h
      refine LWP.skip (hN9 _ ?_)
      refine LWP.seq_k fun N13 hN13 => ?_
      refine LWP.region (l := [_]) ?_
      refine LWo.assign (e_int (-1 : Int)) rfl (hn := ?_)
      refine LWo.nil (hN13 _ ?_)
      obtain rfl := Option.some.inj h
      refine LWP.ret (QG.mk (.inr rfl) (.cons (.tmp (x := (e_int (-1 : Int))) rfl) (.nil)) (RetOK.one0 (.pure rfl) (by decide)) rfl rfl)
  · have h := bF h8 h
    refine LWP.skip (hN6 _ ?_)
    refine LWP.seq_k fun N14 hN14 => ?_
    refine LWP.seq_k fun N15 hN15 => ?_
    refine LWP.region (l := [_]) ?_
    refine LWo.move (e_bool x5) rfl (hn := ?_)
    refine LWo.nil (hN15 _ ?_)
    refine LWP.cond_split rfl (fun h16 => ?_) (fun h16 => ?_)
    · have h := bT h16 h
      refine LWP.seq_k fun N17 hN17 => ?_
      refine LWP.region (l := [_]) ?_
      refine LWo.assign (e_int (1 : Int)) rfl (hn := ?_)
      refine LWo.nil (hN17 _ ?_)
      obtain rfl := Option.some.inj h
      refine LWP.ret (QG.mk (.inr rfl) (.cons (.tmp (x := (e_int (1 : Int))) rfl) (.nil)) (RetOK.one0 (.pure rfl) (by decide)) rfl rfl)
    · have h := bF h16 h
      refine LWP.skip (hN14 _ ?_)
      refine LWP.seq_k fun N18 hN18 => ?_
      refine LWP.seq_k fun N19 hN19 => ?_
      refine LWP.region (l := [_,_,_]) ?_
      refine LWo.move (e_int a0) rfl (hn := ?_)
      refine LWo.move (e_int a1) rfl (hn := ?_)
      refine LWo.int _ rfl rfl rfl (hn := ?_)
      refine LWo.nil (hN19 _ ?_)
      refine LWP.cond_split rfl (fun h20 => ?_) (fun h20 => ?_)
      · have h := bT h20 h
        refine LWP.seq_k fun N21 hN21 => ?_
        refine LWP.region (l := [_]) ?_
        refine LWo.assign (e_int (-1 : Int)) rfl (hn := ?_)
        refine LWo.nil (hN21 _ ?_)
        obtain rfl := Option.some.inj h
        refine LWP.ret (QG.mk (.inr rfl) (.cons (.tmp (x := (e_int (-1 : Int))) rfl) (.nil)) (RetOK.one0 (.pure rfl) (by decide)) rfl rfl)
      · have h := bF h20 h
        refine LWP.skip (hN18 _ ?_)
        refine LWP.seq_k fun N22 hN22 => ?_
        refine LWP.seq_k fun N23 hN23 => ?_
        refine LWP.region (l := [_,_,_]) ?_
        refine LWo.move (e_int a0) rfl (hn := ?_)
        refine LWo.move (e_int a1) rfl (hn := ?_)
        refine LWo.int _ rfl rfl rfl (hn := ?_)
        refine LWo.nil (hN23 _ ?_)
        refine LWP.cond_split rfl (fun h24 => ?_) (fun h24 => ?_)
        · have h := bT h24 h
          refine LWP.seq_k fun N25 hN25 => ?_
          refine LWP.region (l := [_]) ?_
          refine LWo.assign (e_int (1 : Int)) rfl (hn := ?_)
          refine LWo.nil (hN25 _ ?_)
          obtain rfl := Option.some.inj h
          refine LWP.ret (QG.mk (.inr rfl) (.cons (.tmp (x := (e_int (1 : Int))) rfl) (.nil)) (RetOK.one0 (.pure rfl) (by decide)) rfl rfl)
        · have h := bF h24 h
          refine LWP.skip (hN22 _ ?_)
          refine LWP.seq_k fun N26 hN26 => ?_
          refine LWP.region (l := [_]) ?_
          refine LWo.assign (e_int (0 : Int)) rfl (hn := ?_)
          refine LWo.nil (hN26 _ ?_)
          obtain rfl := Option.some.inj h
          refine LWP.ret (QG.mk (.inr rfl) (.cons (.tmp (x := (e_int (0 : Int))) rfl) (.nil)) (RetOK.one0 (.pure rfl) (by decide)) rfl rfl)

def m_cmp_isNaN_string (a0 : ByteArray) : Option Bool :=
  some (!(sEq a0 a0))
theorem c_cmp_isNaN_string (a0 : ByteArray) (r : Bool) (h : m_cmp_isNaN_string a0 = some r) : Ret Try.prog f_cmp_isNaN_string [e_string a0] (e_bool r) := by
  refine Does.goG [] F_cmp_isNaN_string rfl e_cmp_isNaN_string n_cmp_isNaN_string rfl (rvs := [.tmp 2]) rfl rfl ?_
  intro w0 ok0 lent ρ0
  refine LWP.seq_k fun N1 hN1 => ?_
  refine LWP.region (l := [_]) ?_
  refine LWo.assign (e_bool false) rfl (hn := ?_)
  refine LWo.nil (hN1 _ ?_)
  refine LWP.seq_k fun N2 hN2 => ?_
  refine LWP.region (l := [_,_,_,_]) ?_
  refine LWo.move (e_string a0) rfl (hn := ?_)
  refine LWo.move (e_string a0) rfl (hn := ?_)
  refine LWo.str _ rfl rfl rfl (hn := ?_)
  refine LWo.assign (e_bool (!(sEq a0 a0))) rfl (hn := ?_)
  refine LWo.nil (hN2 _ ?_)
  obtain rfl := Option.some.inj h
  refine LWP.ret (QG.mk (.inr rfl) (.cons (.tmp (x := (e_bool (!(sEq a0 a0)))) rfl) (.nil)) (RetOK.one0 (.pure rfl) (by decide)) rfl rfl)

def m_cmp_Compare_string (a0 : ByteArray) (a1 : ByteArray) : Option Int :=
  (m_cmp_isNaN_string a0).bind fun x3 =>
  (m_cmp_isNaN_string a1).bind fun x5 =>
  bif x3 then (bif x5 then (some (0 : Int))
    else (some (-1 : Int)))
  else (bif x5 then (some (1 : Int))
  else (bif (sLt a0 a1) then (some (-1 : Int))
  else (bif (!(sLt a0 a1 || sEq a0 a1)) then (some (1 : Int))
  else (some (0 : Int)))))
theorem c_cmp_Compare_string (a0 : ByteArray) (a1 : ByteArray) (r : Int) (h : m_cmp_Compare_string a0 a1 = some r) : Ret Try.prog f_cmp_Compare_string [e_string a0, e_string a1] (e_int r) := by
  refine Does.goG [] F_cmp_Compare_string rfl e_cmp_Compare_string n_cmp_Compare_string rfl (rvs := [.tmp 4]) rfl rfl ?_
  intro w0 ok0 lent ρ0
  refine LWP.seq_k fun N1 hN1 => ?_
  refine LWP.region (l := [_]) ?_
  refine LWo.assign (e_int (0 : Int)) rfl (hn := ?_)
  refine LWo.nil (hN1 _ ?_)
  refine LWP.seq_k fun N2 hN2 => ?_
  refine LWP.region (l := [_,_,_]) ?_
  refine LWo.move (e_string a0) rfl (hn := ?_)
  refine bk h fun x3 e3 h => ?_
  refine LWo.vcall rfl rfl (c_cmp_isNaN_string _ _ e3) (.same (.nil)) (hn := ?_)
  refine LWo.assign (e_bool x3) rfl (hn := ?_)
  refine LWo.nil (hN2 _ ?_)
  refine LWP.seq_k fun N4 hN4 => ?_
  refine LWP.region (l := [_,_,_]) ?_
  refine LWo.move (e_string a1) rfl (hn := ?_)
  refine bk h fun x5 e5 h => ?_
  refine LWo.vcall rfl rfl (c_cmp_isNaN_string _ _ e5) (.same (.nil)) (hn := ?_)
  refine LWo.assign (e_bool x5) rfl (hn := ?_)
  refine LWo.nil (hN4 _ ?_)
  refine LWP.seq_k fun N6 hN6 => ?_
  refine LWP.seq_k fun N7 hN7 => ?_
  refine LWP.region (l := [_]) ?_
  refine LWo.move (e_bool x3) rfl (hn := ?_)
  refine LWo.nil (hN7 _ ?_)
  refine LWP.cond_split rfl (fun h8 => ?_) (fun h8 => ?_)
  · have h := bT h8 h
    refine LWP.seq_k fun N9 hN9 => ?_
    refine LWP.seq_k fun N10 hN10 => ?_
    refine LWP.region (l := [_]) ?_
    refine LWo.move (e_bool x5) rfl (hn := ?_)
    refine LWo.nil (hN10 _ ?_)
    refine LWP.cond_split rfl (fun h11 => ?_) (fun h11 => ?_)
    · have h := bT h11 h
      refine LWP.seq_k fun N12 hN12 => ?_
      refine LWP.region (l := [_]) ?_
      refine LWo.assign (e_int (0 : Int)) rfl (hn := ?_)
      refine LWo.nil (hN12 _ ?_)
      obtain rfl := Option.some.inj h
      refine LWP.ret (QG.mk (.inr rfl) (.cons (.tmp (x := (e_int (0 : Int))) rfl) (.nil)) (RetOK.one0 (.pure rfl) (by decide)) rfl rfl)
    · have h := bF h11 h
      refine LWP.skip (hN9 _ ?_)
      refine LWP.seq_k fun N13 hN13 => ?_
      refine LWP.region (l := [_]) ?_
      refine LWo.assign (e_int (-1 : Int)) rfl (hn := ?_)
      refine LWo.nil (hN13 _ ?_)
      obtain rfl := Option.some.inj h
      refine LWP.ret (QG.mk (.inr rfl) (.cons (.tmp (x := (e_int (-1 : Int))) rfl) (.nil)) (RetOK.one0 (.pure rfl) (by decide)) rfl rfl)
  · have h := bF h8 h
    refine LWP.skip (hN6 _ ?_)
    refine LWP.seq_k fun N14 hN14 => ?_
    refine LWP.seq_k fun N15 hN15 => ?_
    refine LWP.region (l := [_]) ?_
    refine LWo.move (e_bool x5) rfl (hn := ?_)
    refine LWo.nil (hN15 _ ?_)
    refine LWP.cond_split rfl (fun h16 => ?_) (fun h16 => ?_)
    · have h := bT h16 h
      refine LWP.seq_k fun N17 hN17 => ?_
      refine LWP.region (l := [_]) ?_
      refine LWo.assign (e_int (1 : Int)) rfl (hn := ?_)
      refine LWo.nil (hN17 _ ?_)
      obtain rfl := Option.some.inj h
      refine LWP.ret (QG.mk (.inr rfl) (.cons (.tmp (x := (e_int (1 : Int))) rfl) (.nil)) (RetOK.one0 (.pure rfl) (by decide)) rfl rfl)
    · have h := bF h16 h
      refine LWP.skip (hN14 _ ?_)
      refine LWP.seq_k fun N18 hN18 => ?_
      refine LWP.seq_k fun N19 hN19 => ?_
      refine LWP.region (l := [_,_,_]) ?_
      refine LWo.move (e_string a0) rfl (hn := ?_)
      refine LWo.move (e_string a1) rfl (hn := ?_)
      refine LWo.str _ rfl rfl rfl (hn := ?_)
      refine LWo.nil (hN19 _ ?_)
      refine LWP.cond_split rfl (fun h20 => ?_) (fun h20 => ?_)
      · have h := bT h20 h
        refine LWP.seq_k fun N21 hN21 => ?_
        refine LWP.region (l := [_]) ?_
        refine LWo.assign (e_int (-1 : Int)) rfl (hn := ?_)
        refine LWo.nil (hN21 _ ?_)
        obtain rfl := Option.some.inj h
        refine LWP.ret (QG.mk (.inr rfl) (.cons (.tmp (x := (e_int (-1 : Int))) rfl) (.nil)) (RetOK.one0 (.pure rfl) (by decide)) rfl rfl)
      · have h := bF h20 h
        refine LWP.skip (hN18 _ ?_)
        refine LWP.seq_k fun N22 hN22 => ?_
        refine LWP.seq_k fun N23 hN23 => ?_
        refine LWP.region (l := [_,_,_]) ?_
        refine LWo.move (e_string a0) rfl (hn := ?_)
        refine LWo.move (e_string a1) rfl (hn := ?_)
        refine LWo.str _ rfl rfl rfl (hn := ?_)
        refine LWo.nil (hN23 _ ?_)
        refine LWP.cond_split rfl (fun h24 => ?_) (fun h24 => ?_)
        · have h := bT h24 h
          refine LWP.seq_k fun N25 hN25 => ?_
          refine LWP.region (l := [_]) ?_
          refine LWo.assign (e_int (1 : Int)) rfl (hn := ?_)
          refine LWo.nil (hN25 _ ?_)
          obtain rfl := Option.some.inj h
          refine LWP.ret (QG.mk (.inr rfl) (.cons (.tmp (x := (e_int (1 : Int))) rfl) (.nil)) (RetOK.one0 (.pure rfl) (by decide)) rfl rfl)
        · have h := bF h24 h
          refine LWP.skip (hN22 _ ?_)
          refine LWP.seq_k fun N26 hN26 => ?_
          refine LWP.region (l := [_]) ?_
          refine LWo.assign (e_int (0 : Int)) rfl (hn := ?_)
          refine LWo.nil (hN26 _ ?_)
          obtain rfl := Option.some.inj h
          refine LWP.ret (QG.mk (.inr rfl) (.cons (.tmp (x := (e_int (0 : Int))) rfl) (.nil)) (RetOK.one0 (.pure rfl) (by decide)) rfl rfl)

def m_cmp_Or_int_j1 (t3 : Int) : Option Int :=
  some t3
def m_cmp_Or_int_l1 : Nat → Int → (List Int) → Int → Int → Option Int
  | 0, _, _, _, _ => none
  | n1 + 1, t3, t6, t7, t8 =>
    bif decide (t8 < t7) then ((at? t6 t8).bind fun x12 =>
    bif (x12 != t3) then (some x12)
    else ((ckI (t8 + (1 : Int))).bind fun x16 =>
    (m_cmp_Or_int_l1  n1) t3 t6 t7 x16))
    else (m_cmp_Or_int_j1  t3)
def m_cmp_Or_int (a0 : (List Int)) : Option Int :=
  m_cmp_Or_int_l1  (((a0.length : Int) - (0 : Int)).toNat + 1) (0 : Int) a0 (a0.length : Int) (0 : Int)
theorem c_cmp_Or_int (a0 : (List Int)) (r : Int) (h : m_cmp_Or_int a0 = some r) : Ret Try.prog f_cmp_Or_int [e_Lint a0] (e_int r) := by
  refine Does.goG [] F_cmp_Or_int rfl e_cmp_Or_int n_cmp_Or_int rfl (rvs := [.tmp 2]) rfl rfl ?_
  intro w0 ok0 lent ρ0
  refine LWP.seq_k fun N1 hN1 => ?_
  refine LWP.region (l := [_]) ?_
  refine LWo.assign (e_int (0 : Int)) rfl (hn := ?_)
  refine LWo.nil (hN1 _ ?_)
  refine LWP.seq_k fun N2 hN2 => ?_
  refine LWP.region (l := [_]) ?_
  refine LWo.assign (e_int (0 : Int)) rfl (hn := ?_)
  refine LWo.nil (hN2 _ ?_)
  refine LWP.join (α := Int) (fun z : Int => [(3, (e_int z))]) (fun z : Int => []) (fun z : Int => m_cmp_Or_int_j1  z) r (fun _ => by simp [hkeys]) ?_ ?_
  · rintro t3 h
    replace h : m_cmp_Or_int_j1  t3 = some _ := h
    refine LWP.seq_k fun N17 hN17 => ?_
    refine LWP.region (l := [_,_]) ?_
    refine LWo.move (e_int t3) rfl (hn := ?_)
    refine LWo.assign (e_int t3) rfl (hn := ?_)
    refine LWo.nil (hN17 _ ?_)
    obtain rfl := Option.some.inj h
    refine LWP.ret (QG.mk (.inr rfl) (.cons (.tmp (x := (e_int t3)) rfl) (.nil)) (RetOK.one0 (.pure rfl) (by decide)) rfl rfl)
  · intro N3 hN3
    refine LWP.seq_k fun N4 hN4 => ?_
    refine LWP.region (l := [_,_,_]) ?_
    refine LWo.move (e_Lint a0) rfl (hn := ?_)
    refine LWo.lenM (f := e_int) (l := a0) u_Lint rfl (hn := ?_)
    refine LWo.move (e_int (0 : Int)) rfl (hn := ?_)
    refine LWo.nil (hN4 _ ?_)
    refine LWP.block ?_
    refine LWP.loopM (α := Int × (List Int) × Int × Int) (fun z : Int × (List Int) × Int × Int => [(3, (e_int z.1)), (6, (e_Lint z.2.1)), (7, (e_int z.2.2.1)), (8, (e_int z.2.2.2))]) (fun z : Int × (List Int) × Int × Int => []) (fun n1 (z : Int × (List Int) × Int × Int) => m_cmp_Or_int_l1  n1 z.1 z.2.1 z.2.2.1 z.2.2.2) r _ ((0 : Int), a0, (a0.length : Int), (0 : Int)) h (fun _ => rfl) (fun _ => by simp [hkeys]) ⟨rfl, rfl, rfl, rfl, trivial⟩ trivial ?_
    rintro n1 ⟨t3, t6, t7, t8⟩ h N5 hN5
    replace h : m_cmp_Or_int_l1  (n1 + 1) t3 t6 t7 t8 = some _ := h
    refine LWP.seq_k fun N7 hN7 => ?_
    refine LWP.region (l := [_]) ?_
    refine LWo.int _ rfl rfl rfl (hn := ?_)
    refine LWo.nil (hN7 _ ?_)
    refine LWP.seq_k fun N8 hN8 => ?_
    refine LWP.cond_split rfl (fun h9 => ?_) (fun h9 => ?_)
    · have h := bT h9 h
      refine LWP.skip (hN8 _ ?_)
      refine LWP.seq_k fun N10 hN10 => ?_
      refine LWP.block ?_
      refine LWP.seq_k fun N11 hN11 => ?_
      refine LWP.region (l := [_,_,_]) ?_
      refine bk h fun x12 e12 h => ?_
      refine LWo.indexM (f := e_int) e12 u_Lint s_int rfl rfl (hn := ?_)
      refine LWo.load1 (c := (e_int x12)) g_int rfl (hn := ?_)
      refine LWo.assign (e_int x12) rfl (hn := ?_)
      refine LWo.nil (hN11 _ ?_)
      refine LWP.seq_k fun N13 hN13 => ?_
      refine LWP.region (l := [_,_,_]) ?_
      refine LWo.move (e_int x12) rfl (hn := ?_)
      refine LWo.move (e_int t3) rfl (hn := ?_)
      refine LWo.int _ rfl rfl rfl (hn := ?_)
      refine LWo.nil (hN13 _ ?_)
      refine LWP.cond_split rfl (fun h14 => ?_) (fun h14 => ?_)
      · have h := bT h14 h
        refine LWP.seq_k fun N15 hN15 => ?_
        refine LWP.region (l := [_,_]) ?_
        refine LWo.move (e_int x12) rfl (hn := ?_)
        refine LWo.assign (e_int x12) rfl (hn := ?_)
        refine LWo.nil (hN15 _ ?_)
        obtain rfl := Option.some.inj h
        refine LWP.ret (QG.mk (.inr rfl) (.cons (.tmp (x := (e_int x12)) rfl) (.nil)) (RetOK.one0 (.pure rfl) (by decide)) rfl rfl)
      · have h := bF h14 h
        refine LWP.skip (hN10 _ ?_)
        refine LWP.region (l := [_,_]) ?_
        refine bk h fun x16 e16 h => ?_
        refine LWo.int _ rfl rfl (add_ck e16) (hn := ?_)
        refine LWo.move (e_int x16) rfl (hn := ?_)
        refine LWo.nil (hN5 (t3, t6, t7, x16) _ ⟨rfl, rfl, rfl, rfl, trivial⟩ trivial h)
    · have h := bF h9 h
      refine LWP.exit (hN3 t3 _ ⟨rfl, trivial⟩ trivial h)

def m_impl_Value_order (a0 : S_impl_Value) (a1 : S_impl_Value) : Option Int :=
  (m_cmp_Compare_int a0.Kind a1.Kind).bind fun x3 =>
  (m_cmp_Compare_int a0.N a1.N).bind fun x4 =>
  (m_cmp_Compare_string a0.S a1.S).bind fun x5 =>
  (m_cmp_Or_int ([x3, x4, x5] : (List Int))).bind fun x6 =>
  some x6
theorem c_impl_Value_order (a0 : S_impl_Value) (a1 : S_impl_Value) (r : Int) (h : m_impl_Value_order a0 a1 = some r) : Ret Try.prog f_impl_Value_order [e_impl_Value a0, e_impl_Value a1] (e_int r) := by
  refine Does.goG [] F_impl_Value_order rfl e_impl_Value_order n_impl_Value_order rfl (rvs := [.tmp 4]) rfl rfl ?_
  intro w0 ok0 lent ρ0
  refine LWP.seq_k fun N1 hN1 => ?_
  refine LWP.region (l := [_,_,_]) ?_
  refine LWo.boxF (e_impl_Value a0) rfl rfl rfl (hn := ?_)
  refine LWo.boxF (e_impl_Value a1) rfl rfl rfl (hn := ?_)
  refine LWo.assign (e_int (0 : Int)) rfl (hn := ?_)
  refine LWo.nil (hN1 _ ?_)
  refine LWP.seq_k fun N2 hN2 => ?_
  refine bk h fun x3 e3 h => ?_
  refine bk h fun x4 e4 h => ?_
  refine bk h fun x5 e5 h => ?_
  refine bk h fun x6 e6 h => ?_
  refine LWP.drawE (l := [_,_,_,_,_,_,_,_,_,_,_,_,_,_,_,_,_,_]) [] [2, 3] [([2], []), ([5], []), ([3], []), ([7], []), ([6, 8], []), ([2], []), ([10], []), ([3], []), ([12], []), ([11, 13], []), ([2], []), ([15], []), ([3], []), ([17], []), ([16, 18], []), ([9, 14, 19], []), ([20], []), ([21], [])] [4] [] mixed (by kernel_rfl) rfl (by decide) ?_
  refine ⟨rfl, .put 5 _, trivial, fun u hg hu hh => LWo.fieldAddr _ u_impl_Value rfl s_int hu.1 rfl (hn := LWo.nil ⟨rfl, .inl rfl, hg⟩), ?_⟩
  refine ⟨rfl, .put 6 _, trivial, fun u hg hu hh => LWo.load1 (c := (e_int a0.Kind)) g_int hu.1 (hn := LWo.nil ⟨rfl, .inl rfl, hg⟩), ?_⟩
  refine ⟨rfl, .put 7 _, trivial, fun u hg hu hh => LWo.fieldAddr _ u_impl_Value rfl s_int hu.1 rfl (hn := LWo.nil ⟨rfl, .inl rfl, hg⟩), ?_⟩
  refine ⟨rfl, .put 8 _, trivial, fun u hg hu hh => LWo.load1 (c := (e_int a1.Kind)) g_int hu.1 (hn := LWo.nil ⟨rfl, .inl rfl, hg⟩), ?_⟩
  refine ⟨rfl, .put 9 _, trivial, fun u hg hu hh => LWo.vcall rfl (av2 hu.1 hu.2.1) (c_cmp_Compare_int _ _ _ e3) (.same (.same (.nil))) (hn := LWo.nil ⟨rfl, .inl rfl, hg⟩), ?_⟩
  refine ⟨rfl, .put 10 _, trivial, fun u hg hu hh => LWo.fieldAddr _ u_impl_Value rfl s_int hu.1 rfl (hn := LWo.nil ⟨rfl, .inl rfl, hg⟩), ?_⟩
  refine ⟨rfl, .put 11 _, trivial, fun u hg hu hh => LWo.load1 (c := (e_int a0.N)) g_int hu.1 (hn := LWo.nil ⟨rfl, .inl rfl, hg⟩), ?_⟩
  refine ⟨rfl, .put 12 _, trivial, fun u hg hu hh => LWo.fieldAddr _ u_impl_Value rfl s_int hu.1 rfl (hn := LWo.nil ⟨rfl, .inl rfl, hg⟩), ?_⟩
  refine ⟨rfl, .put 13 _, trivial, fun u hg hu hh => LWo.load1 (c := (e_int a1.N)) g_int hu.1 (hn := LWo.nil ⟨rfl, .inl rfl, hg⟩), ?_⟩
  refine ⟨rfl, .put 14 _, trivial, fun u hg hu hh => LWo.vcall rfl (av2 hu.1 hu.2.1) (c_cmp_Compare_int _ _ _ e4) (.same (.same (.nil))) (hn := LWo.nil ⟨rfl, .inl rfl, hg⟩), ?_⟩
  refine ⟨rfl, .put 15 _, trivial, fun u hg hu hh => LWo.fieldAddr _ u_impl_Value rfl s_string hu.1 rfl (hn := LWo.nil ⟨rfl, .inl rfl, hg⟩), ?_⟩
  refine ⟨rfl, .put 16 _, trivial, fun u hg hu hh => LWo.load1 (c := (e_string a0.S)) g_string hu.1 (hn := LWo.nil ⟨rfl, .inl rfl, hg⟩), ?_⟩
  refine ⟨rfl, .put 17 _, trivial, fun u hg hu hh => LWo.fieldAddr _ u_impl_Value rfl s_string hu.1 rfl (hn := LWo.nil ⟨rfl, .inl rfl, hg⟩), ?_⟩
  refine ⟨rfl, .put 18 _, trivial, fun u hg hu hh => LWo.load1 (c := (e_string a1.S)) g_string hu.1 (hn := LWo.nil ⟨rfl, .inl rfl, hg⟩), ?_⟩
  refine ⟨rfl, .put 19 _, trivial, fun u hg hu hh => LWo.vcall rfl (av2 hu.1 hu.2.1) (c_cmp_Compare_string _ _ _ e5) (.same (.same (.nil))) (hn := LWo.nil ⟨rfl, .inl rfl, hg⟩), ?_⟩
  refine ⟨rfl, .put 20 _, trivial, fun u hg hu hh => LWo.lit (ops := [_, _, _]) [(e_int x3), (e_int x4), (e_int x5)] u_Lint s_int z_int (lv3 hu.1 hu.2.1 hu.2.2.1) rfl rfl rfl rfl rfl (hn := LWo.nil ⟨rfl, .inl rfl, hg⟩), ?_⟩
  refine ⟨rfl, .put 21 _, trivial, fun u hg hu hh => LWo.vcall rfl (av1 hu.1) (c_cmp_Or_int _ _ e6) (.same (.nil)) (hn := LWo.nil ⟨rfl, .inl rfl, hg⟩), ?_⟩
  refine ⟨rfl, .put 4 _, trivial, fun u hg hu hh => LWo.assign (e_int x6) hu.1 (hn := LWo.nil ⟨rfl, .inl rfl, hg⟩), ?_⟩
  refine ⟨rfl, by kernel_rfl, hN2 _ ?_⟩
  obtain rfl := Option.some.inj h
  refine LWP.ret (QG.mk (.inr rfl) (.cons (.tmp (x := (e_int x6)) rfl) (.nil)) (RetOK.one0 (.pure rfl) (by decide)) rfl rfl)

def m_impl_rowOrder (a0 : (List S_impl_Value)) (a1 : (List S_impl_Value)) : Option Int :=
  (m_slices_CompareFunc_Limpl_Value_Limpl_Value_impl_Value_impl_Value a0 a1 (fun b0_ b1_ => m_impl_Value_order b0_ b1_ )).bind fun x3 =>
  (m_cmp_Compare_int (a0.length : Int) (a1.length : Int)).bind fun x4 =>
  (m_cmp_Or_int ([x3, x4] : (List Int))).bind fun x5 =>
  some x5
theorem c_impl_rowOrder (a0 : (List S_impl_Value)) (a1 : (List S_impl_Value)) (r : Int) (h : m_impl_rowOrder a0 a1 = some r) : Ret Try.prog f_impl_rowOrder [e_Limpl_Value a0, e_Limpl_Value a1] (e_int r) := by
  refine Does.goG [] F_impl_rowOrder rfl e_impl_rowOrder n_impl_rowOrder rfl (rvs := [.tmp 4]) rfl rfl ?_
  intro w0 ok0 lent ρ0
  refine LWP.seq_k fun N1 hN1 => ?_
  refine LWP.region (l := [_]) ?_
  refine LWo.assign (e_int (0 : Int)) rfl (hn := ?_)
  refine LWo.nil (hN1 _ ?_)
  refine LWP.seq_k fun N2 hN2 => ?_
  refine LWP.region (l := [_,_,_,_,_,_,_,_,_,_,_]) ?_
  refine LWo.move (e_Limpl_Value a0) rfl (hn := ?_)
  refine LWo.move (e_Limpl_Value a1) rfl (hn := ?_)
  refine bk h fun x3 e3 h => ?_
  refine LWo.vcall rfl rfl (c_slices_CompareFunc_Limpl_Value_Limpl_Value_impl_Value_impl_Value _ _ _ f_impl_Value_order [] (fun _ => rfl) (fun b0_ b1_ v hv => c_impl_Value_order b0_ b1_  v hv) _ e3) (.same (.same (.same (.nil)))) (hn := ?_)
  refine LWo.move (e_Limpl_Value a0) rfl (hn := ?_)
  refine LWo.lenM (f := e_impl_Value) (l := a0) u_Limpl_Value rfl (hn := ?_)
  refine LWo.move (e_Limpl_Value a1) rfl (hn := ?_)
  refine LWo.lenM (f := e_impl_Value) (l := a1) u_Limpl_Value rfl (hn := ?_)
  refine bk h fun x4 e4 h => ?_
  refine LWo.vcall rfl rfl (c_cmp_Compare_int _ _ _ e4) (.same (.same (.nil))) (hn := ?_)
  refine LWo.lit (ops := [_, _]) [(e_int x3), (e_int x4)] u_Lint s_int z_int rfl rfl rfl rfl rfl rfl (hn := ?_)
  refine bk h fun x5 e5 h => ?_
  refine LWo.vcall rfl rfl (c_cmp_Or_int _ _ e5) (.same (.nil)) (hn := ?_)
  refine LWo.assign (e_int x5) rfl (hn := ?_)
  refine LWo.nil (hN2 _ ?_)
  obtain rfl := Option.some.inj h
  refine LWP.ret (QG.mk (.inr rfl) (.cons (.tmp (x := (e_int x5)) rfl) (.nil)) (RetOK.one0 (.pure rfl) (by decide)) rfl rfl)

def m_impl_inOrder_j1 (t2 : Bool) : Option Bool :=
  some t2
def m_impl_inOrder (a0 : (List (List S_impl_Value))) : Option Bool :=
  (m_impl_allOk a0).bind fun x3 =>
  bif x3 then ((m_slices_IsSortedFunc_LLimpl_Value_Limpl_Value a0 (fun b0_ b1_ => m_impl_rowOrder b0_ b1_ )).bind fun x5 =>
    m_impl_inOrder_j1  x5)
  else (m_impl_inOrder_j1  false)
theorem c_impl_inOrder (a0 : (List (List S_impl_Value))) (r : Bool) (h : m_impl_inOrder a0 = some r) : Ret Try.prog f_impl_inOrder [e_LLimpl_Value a0] (e_bool r) := by
  refine Does.goG [] F_impl_inOrder rfl e_impl_inOrder n_impl_inOrder rfl (rvs := [.tmp 2]) rfl rfl ?_
  intro w0 ok0 lent ρ0
  refine LWP.seq_k fun N1 hN1 => ?_
  refine LWP.region (l := [_]) ?_
  refine LWo.assign (e_bool false) rfl (hn := ?_)
  refine LWo.nil (hN1 _ ?_)
  refine LWP.join (α := Bool) (fun z : Bool => [(2, (e_bool z))]) (fun z : Bool => []) (fun z : Bool => m_impl_inOrder_j1  z) r (fun _ => by simp [hkeys]) ?_ ?_
  · rintro t2 h
    replace h : m_impl_inOrder_j1  t2 = some _ := h
    obtain rfl := Option.some.inj h
    refine LWP.ret (QG.mk (.inr rfl) (.cons (.tmp (x := (e_bool t2)) rfl) (.nil)) (RetOK.one0 (.pure rfl) (by decide)) rfl rfl)
  · intro N2 hN2
    refine LWP.region (l := [_,_,_,_,_,_,_]) ?_
    refine LWo.move (e_LLimpl_Value a0) rfl (hn := ?_)
    refine bk h fun x3 e3 h => ?_
    refine LWo.vcall rfl rfl (c_impl_allOk _ _ e3) (.same (.nil)) (hn := ?_)
    refine LWo.move (e_bool x3) rfl (hn := ?_)
    refine LWo.byCases (t := 5) _ rfl (fun h4 => ?_) (fun h4 => ?_)
    · have h := bT h4 h
      refine LWo.guardY (t := 5) rfl h4 rfl rfl ?_
      refine LWo.move (e_LLimpl_Value a0) rfl (hn := ?_)
      refine bk h fun x5 e5 h => ?_
      refine LWo.guardY (t := 5) rfl h4 rfl rfl ?_
      refine LWo.vcall rfl rfl (c_slices_IsSortedFunc_LLimpl_Value_Limpl_Value _ _ f_impl_rowOrder [] (fun _ => rfl) (fun b0_ b1_ v hv => c_impl_rowOrder b0_ b1_  v hv) _ e5) (.same (.same (.nil))) (hn := ?_)
      refine LWo.pickTM (e_bool x5) rfl h4 rfl (hn := ?_)
      refine LWo.assign (e_bool x5) rfl (hn := ?_)
      refine LWo.nil (hN2 x5 _ ⟨rfl, trivial⟩ trivial h)
    · have h := bF h4 h
      refine LWo.guardNU (t := 5) rfl h4 rfl rfl rfl rfl rfl ?_
      refine LWo.guardNU (t := 5) rfl h4 rfl rfl rfl rfl rfl ?_
      refine LWo.pickFM (e_bool false) rfl h4 rfl (hn := ?_)
      refine LWo.assign (e_bool false) rfl (hn := ?_)
      refine LWo.nil (hN2 false _ ⟨rfl, trivial⟩ trivial h)

def m_impl_RunsMerged_1 (a0 : (List (List S_impl_Value))) : Option Bool :=
  (m_impl_inOrder a0).bind fun x3 =>
  some (!x3)
theorem c_impl_RunsMerged_1 (a0 : (List (List S_impl_Value))) (r : Bool) (h : m_impl_RunsMerged_1 a0 = some r) : Ret Try.prog f_impl_RunsMerged_1 [e_LLimpl_Value a0] (e_bool r) := by
  refine Does.goG [] F_impl_RunsMerged_1 rfl e_impl_RunsMerged_1 n_impl_RunsMerged_1 rfl (rvs := [.tmp 2]) rfl rfl ?_
  intro w0 ok0 lent ρ0
  refine LWP.seq_k fun N1 hN1 => ?_
  refine LWP.region (l := [_]) ?_
  refine LWo.assign (e_bool false) rfl (hn := ?_)
  refine LWo.nil (hN1 _ ?_)
  refine LWP.seq_k fun N2 hN2 => ?_
  refine LWP.region (l := [_,_,_,_]) ?_
  refine LWo.move (e_LLimpl_Value a0) rfl (hn := ?_)
  refine bk h fun x3 e3 h => ?_
  refine LWo.vcall rfl rfl (c_impl_inOrder _ _ e3) (.same (.nil)) (hn := ?_)
  refine LWo.not rfl (hn := ?_)
  refine LWo.assign (e_bool (!x3)) rfl (hn := ?_)
  refine LWo.nil (hN2 _ ?_)
  obtain rfl := Option.some.inj h
  refine LWP.ret (QG.mk (.inr rfl) (.cons (.tmp (x := (e_bool (!x3))) rfl) (.nil)) (RetOK.one0 (.pure rfl) (by decide)) rfl rfl)

def m_slices_Clone_LLLimpl_Value_LLimpl_Value (a0 : (List (List (List S_impl_Value)))) : Option (List (List (List S_impl_Value))) :=
  nilM a0 fun b4 =>
  bif b4 then (some ([] : (List (List (List S_impl_Value)))))
  else ((app? ([] : (List (List (List S_impl_Value)))) a0).bind fun x8 =>
  some x8)
theorem c_slices_Clone_LLLimpl_Value_LLimpl_Value (a0 : (List (List (List S_impl_Value)))) (r : (List (List (List S_impl_Value)))) (h : m_slices_Clone_LLLimpl_Value_LLimpl_Value a0 = some r) : Ret Try.prog f_slices_Clone_LLLimpl_Value_LLimpl_Value [e_LLLimpl_Value a0] (.nw 1 (r.map e_LLimpl_Value) false) := by
  refine Does.goG [] F_slices_Clone_LLLimpl_Value_LLimpl_Value rfl e_slices_Clone_LLLimpl_Value_LLimpl_Value n_slices_Clone_LLLimpl_Value_LLimpl_Value rfl (rvs := [.tmp 2]) rfl rfl ?_
  intro w0 ok0 lent ρ0
  refine LWP.seq_k fun N1 hN1 => ?_
  refine LWP.region (l := [_]) ?_
  refine LWo.assign _ rfl (hn := ?_)
  refine LWo.ownNil 2 1002 1 rfl rfl rfl ?_
  refine LWo.known 2 (.own 1002 0 ([] : (List (List (List S_impl_Value)))).length) rfl ?_
  refine LWo.nil (hN1 _ ?_)
  refine LWP.seq_k fun N2 hN2 => ?_
  refine LWP.seq_k fun N3 hN3 => ?_
  refine LWP.region (l := [_,_]) ?_
  refine LWo.move (e_LLLimpl_Value a0) rfl (hn := ?_)
  refine LWo.nilEq (f := e_LLimpl_Value) u_LLLimpl_Value rfl rfl (hn := fun b4 e4 => nkb h b4 e4 fun h => ?_)
  refine LWo.nil (hN3 _ ?_)
  refine LWP.cond_split rfl (fun h5 => ?_) (fun h5 => ?_)
  · have h := bT h5 h
    refine LWP.seq_k fun N6 hN6 => ?_
    refine LWP.region (l := [_]) ?_
    refine LWo.assign _ rfl (hn := ?_)
    refine LWo.ownNil 2 1002 1 rfl rfl rfl ?_
    refine LWo.known 2 (.own 1002 0 ([] : (List (List (List S_impl_Value)))).length) rfl ?_
    refine LWo.nil (hN6 _ ?_)
    obtain rfl := Option.some.inj h
    refine LWP.ret (QG.mk (.inr rfl) (.cons (.tmp (x := (.own 1002 0 (([] : (List (List (List S_impl_Value))))).length)) rfl) (.nil)) (RetOK.one0 (.nwM rfl rfl) (by decide)) rfl rfl)
  · have h := bF h5 h
    refine LWP.skip (hN2 _ ?_)
    refine LWP.seq_k fun N7 hN7 => ?_
    refine LWP.region (l := [_,_,_,_]) ?_
    refine LWo.lit0 1005 u_LLLimpl_Value s_LLimpl_Value z_LLimpl_Value (hn := ?_)
    refine LWo.known 5 (.own 1005 0 ([] : (List (List (List S_impl_Value)))).length) rfl ?_
    refine LWo.move (e_LLLimpl_Value a0) rfl (hn := ?_)
    refine bk h fun x8 e8 h => ?_
    refine LWo.appendM (f := e_LLimpl_Value) e8 rfl u_LLLimpl_Value u_LLLimpl_Value (fun _ h => by cases h) s_LLimpl_Value i_LLimpl_Value rfl rfl rfl (.sl rfl) rfl rfl (hn := ?_)
    refine LWo.assign (.own 1005 0 (x8).length) rfl (hn := ?_)
    refine LWo.nil (hN7 _ ?_)
    obtain rfl := Option.some.inj h
    refine LWP.ret (QG.mk (.inr rfl) (.cons (.tmp (x := (.own 1005 0 (x8).length)) rfl) (.nil)) (RetOK.one0 (.nwM rfl rfl) (by decide)) rfl rfl)

theorem cc_slices_Clip_Limpl_Value_impl_Value (xs : List LV) : Does Try.prog f_slices_Clip_Limpl_Value_impl_Value [.own 0 0 xs.length] [(0, { kind := .fro, sz := 3, elems := xs })] (fun r h => r = .nw 3 xs false ∧ h = []) := by
  refine Does.go [0] F_slices_Clip_Limpl_Value_impl_Value rfl e_slices_Clip_Limpl_Value_impl_Value n_slices_Clip_Limpl_Value_impl_Value rfl (ts := [2]) rfl rfl rfl ?_
  intro w0 ok0 lent ρ0
  refine LWP.seq_k fun N1 hN1 => ?_
  refine LWP.region (l := [_]) ?_
  refine LWo.assign _ rfl (hn := ?_)
  refine LWo.nil (hN1 _ ?_)
  refine LWP.seq_k fun N2 hN2 => ?_
  refine LWP.region (l := [_,_,_,_,_,_,_]) ?_
  refine LWo.move _ rfl (hn := ?_)
  refine LWo.move _ rfl (hn := ?_)
  refine LWo.len u_Limpl_Value rfl (hn := ?_)
  refine LWo.move _ rfl (hn := ?_)
  refine LWo.len u_Limpl_Value rfl (hn := ?_)
  refine LWo.cutOwn (l := 0) (h := xs.length) u_Limpl_Value s_impl_Value rfl rfl rfl rfl ⟨_, rfl⟩ ⟨_, _, rfl, Nat.le_refl _, Nat.le_refl _⟩ (.inr (by simp)) (Nat.zero_le _) (Nat.le_refl _) rfl rfl (hn := ?_)
  refine LWo.assign _ rfl (hn := ?_)
  refine LWo.nil (hN2 _ ?_)
  refine LWP.ret (QRet.own1 (.inr rfl) rfl rfl rfl rfl (by simp) ⟨?_, rfl⟩)
  clear hN1 hN2
  exact congrArg (fun l => LV.nw 3 l false) (by simp)
def m_slices_Clip_Limpl_Value_impl_Value_o (o0 : List S_impl_Value) : Option (List S_impl_Value) := some o0
theorem c_slices_Clip_Limpl_Value_impl_Value_o (o0 : List S_impl_Value) (r : List S_impl_Value) (h : m_slices_Clip_Limpl_Value_impl_Value_o o0 = some r) : Does Try.prog f_slices_Clip_Limpl_Value_impl_Value [.own 0 0 o0.length] [(0, lob 3 e_impl_Value o0)] (fun x hh => x = .nw 3 (r.map e_impl_Value) false ∧ hh = []) := by
  cases h
  have := cc_slices_Clip_Limpl_Value_impl_Value (o0.map e_impl_Value)
  rw [List.length_map] at this
  exact this



def m_slices_Clip_Limpl_Value_impl_Value (a0 : (List S_impl_Value)) : Option (List S_impl_Value) :=
  (cut3? a0 (0 : Int) (a0.length : Int) (a0.length : Int)).bind fun x3 =>
  some x3
theorem c_slices_Clip_Limpl_Value_impl_Value (a0 : (List S_impl_Value)) (r : (List S_impl_Value)) (h : m_slices_Clip_Limpl_Value_impl_Value a0 = some r) : Ret Try.prog f_slices_Clip_Limpl_Value_impl_Value [e_Limpl_Value a0] (e_Limpl_Value r) := by
  refine Does.goG [] F_slices_Clip_Limpl_Value_impl_Value rfl e_slices_Clip_Limpl_Value_impl_Value n_slices_Clip_Limpl_Value_impl_Value rfl (rvs := [.tmp 2]) rfl rfl ?_
  intro w0 ok0 lent ρ0
  refine LWP.seq_k fun N1 hN1 => ?_
  refine LWP.region (l := [_]) ?_
  refine LWo.assign _ rfl (hn := ?_)
  refine LWo.weakT 2 (e_Limpl_Value ([] : (List S_impl_Value))) rfl .nil ?_
  refine LWo.nil (hN1 _ ?_)
  refine LWP.seq_k fun N2 hN2 => ?_
  refine LWP.region (l := [_,_,_,_,_,_,_]) ?_
  refine LWo.move (e_Limpl_Value a0) rfl (hn := ?_)
  refine LWo.move (e_Limpl_Value a0) rfl (hn := ?_)
  refine LWo.lenM (f := e_impl_Value) (l := a0) u_Limpl_Value rfl (hn := ?_)
  refine LWo.move (e_Limpl_Value a0) rfl (hn := ?_)
  refine LWo.lenM (f := e_impl_Value) (l := a0) u_Limpl_Value rfl (hn := ?_)
  refine bk h fun x3 e3 h => ?_
  refine LWo.cutM3 (f := e_impl_Value) e3 u_Limpl_Value s_impl_Value rfl rfl ⟨_, rfl⟩ ⟨_, rfl⟩ (hn := ?_)
  refine LWo.assign (e_Limpl_Value x3) rfl (hn := ?_)
  refine LWo.nil (hN2 _ ?_)
  obtain rfl := Option.some.inj h
  refine LWP.ret (QG.mk (.inr rfl) (.cons (.tmp (x := (e_Limpl_Value x3)) rfl) (.nil)) (RetOK.one0 (.pure rfl) (by decide)) rfl rfl)

def m_impl_clone_impl_Value (a0 : (List S_impl_Value)) : Option (List S_impl_Value) :=
  bif ((a0.length : Int) == (0 : Int)) then (some ([] : (List S_impl_Value)))
  else ((appN? a0).bind fun x7 =>
  (m_slices_Clip_Limpl_Value_impl_Value_o x7).bind fun x8 =>
  some x8)
theorem c_impl_clone_impl_Value (a0 : (List S_impl_Value)) (r : (List S_impl_Value)) (h : m_impl_clone_impl_Value a0 = some r) : Ret Try.prog f_impl_clone_impl_Value [e_Limpl_Value a0] (.nw 3 (r.map e_impl_Value) false) := by
  refine Does.goG [] F_impl_clone_impl_Value rfl e_impl_clone_impl_Value n_impl_clone_impl_Value rfl (rvs := [.tmp 2]) rfl rfl ?_
  intro w0 ok0 lent ρ0
  refine LWP.seq_k fun N1 hN1 => ?_
  refine LWP.region (l := [_]) ?_
  refine LWo.assign _ rfl (hn := ?_)
  refine LWo.ownNil 2 1002 3 rfl rfl rfl ?_
  refine LWo.known 2 (.own 1002 0 ([] : (List S_impl_Value)).length) rfl ?_
  refine LWo.nil (hN1 _ ?_)
  refine LWP.seq_k fun N2 hN2 => ?_
  refine LWP.seq_k fun N3 hN3 => ?_
  refine LWP.region (l := [_,_,_]) ?_
  refine LWo.move (e_Limpl_Value a0) rfl (hn := ?_)
  refine LWo.lenM (f := e_impl_Value) (l := a0) u_Limpl_Value rfl (hn := ?_)
  refine LWo.int _ rfl rfl rfl (hn := ?_)
  refine LWo.nil (hN3 _ ?_)
  refine LWP.cond_split rfl (fun h4 => ?_) (fun h4 => ?_)
  · have h := bT h4 h
    refine LWP.seq_k fun N5 hN5 => ?_
    refine LWP.region (l := [_]) ?_
    refine LWo.assign _ rfl (hn := ?_)
    refine LWo.ownNil 2 1002 3 rfl rfl rfl ?_
    refine LWo.known 2 (.own 1002 0 ([] : (List S_impl_Value)).length) rfl ?_
    refine LWo.nil (hN5 _ ?_)
    obtain rfl := Option.some.inj h
    refine LWP.ret (QG.mk (.inr rfl) (.cons (.tmp (x := (.own 1002 0 (([] : (List S_impl_Value))).length)) rfl) (.nil)) (RetOK.one0 (.nwM rfl rfl) (by decide)) rfl rfl)
  · have h := bF h4 h
    refine LWP.skip (hN2 _ ?_)
    refine LWP.seq_k fun N6 hN6 => ?_
    refine LWP.region (l := [_,_,_,_]) ?_
    refine LWo.move (e_Limpl_Value a0) rfl (hn := ?_)
    refine bk h fun x7 e7 h => ?_
    refine LWo.appendC (f := e_impl_Value) 1007 e7 u_Limpl_Value u_Limpl_Value (fun _ h => by cases h) i_impl_Value rfl rfl (.sl rfl) (fun _ => rfl) rfl rfl (hn := ?_)
    refine bk h fun x8 e8 h => ?_
    refine LWo.tcallN (e := e_impl_Value) (e' := e_impl_Value) 1008 rfl rfl (c_slices_Clip_Limpl_Value_impl_Value_o _ _ e8) (fun _ => rfl) rfl rfl rfl rfl (hn := ?_)
    refine LWo.assign (.own 1008 0 (x8).length) rfl (hn := ?_)
    refine LWo.nil (hN6 _ ?_)
    obtain rfl := Option.some.inj h
    refine LWP.ret (QG.mk (.inr rfl) (.cons (.tmp (x := (.own 1008 0 (x8).length)) rfl) (.nil)) (RetOK.one0 (.nwM rfl rfl) (by decide)) rfl rfl)

theorem cc_slices_Clip_LLimpl_Value_Limpl_Value (xs : List LV) : Does Try.prog f_slices_Clip_LLimpl_Value_Limpl_Value [.own 0 0 xs.length] [(0, { kind := .fro, sz := 1, elems := xs })] (fun r h => r = .nw 1 xs false ∧ h = []) := by
  refine Does.go [0] F_slices_Clip_LLimpl_Value_Limpl_Value rfl e_slices_Clip_LLimpl_Value_Limpl_Value n_slices_Clip_LLimpl_Value_Limpl_Value rfl (ts := [2]) rfl rfl rfl ?_
  intro w0 ok0 lent ρ0
  refine LWP.seq_k fun N1 hN1 => ?_
  refine LWP.region (l := [_]) ?_
  refine LWo.assign _ rfl (hn := ?_)
  refine LWo.nil (hN1 _ ?_)
  refine LWP.seq_k fun N2 hN2 => ?_
  refine LWP.region (l := [_,_,_,_,_,_,_]) ?_
  refine LWo.move _ rfl (hn := ?_)
  refine LWo.move _ rfl (hn := ?_)
  refine LWo.len u_LLimpl_Value rfl (hn := ?_)
  refine LWo.move _ rfl (hn := ?_)
  refine LWo.len u_LLimpl_Value rfl (hn := ?_)
  refine LWo.cutOwn (l := 0) (h := xs.length) u_LLimpl_Value s_Limpl_Value rfl rfl rfl rfl ⟨_, rfl⟩ ⟨_, _, rfl, Nat.le_refl _, Nat.le_refl _⟩ (.inr (by simp)) (Nat.zero_le _) (Nat.le_refl _) rfl rfl (hn := ?_)
  refine LWo.assign _ rfl (hn := ?_)
  refine LWo.nil (hN2 _ ?_)
  refine LWP.ret (QRet.own1 (.inr rfl) rfl rfl rfl rfl (by simp) ⟨?_, rfl⟩)
  clear hN1 hN2
  exact congrArg (fun l => LV.nw 1 l false) (by simp)
def m_slices_Clip_LLimpl_Value_Limpl_Value_o (o0 : List (List S_impl_Value)) : Option (List (List S_impl_Value)) := some o0
theorem c_slices_Clip_LLimpl_Value_Limpl_Value_o (o0 : List (List S_impl_Value)) (r : List (List S_impl_Value)) (h : m_slices_Clip_LLimpl_Value_Limpl_Value_o o0 = some r) : Does Try.prog f_slices_Clip_LLimpl_Value_Limpl_Value [.own 0 0 o0.length] [(0, lob 1 e_Limpl_Value o0)] (fun x hh => x = .nw 1 (r.map e_Limpl_Value) false ∧ hh = []) := by
  cases h
  have := cc_slices_Clip_LLimpl_Value_Limpl_Value (o0.map e_Limpl_Value)
  rw [List.length_map] at this
  exact this



def m_slices_Clip_LLimpl_Value_Limpl_Value (a0 : (List (List S_impl_Value))) : Option (List (List S_impl_Value)) :=
  (cut3? a0 (0 : Int) (a0.length : Int) (a0.length : Int)).bind fun x3 =>
  some x3
theorem c_slices_Clip_LLimpl_Value_Limpl_Value (a0 : (List (List S_impl_Value))) (r : (List (List S_impl_Value))) (h : m_slices_Clip_LLimpl_Value_Limpl_Value a0 = some r) : Ret Try.prog f_slices_Clip_LLimpl_Value_Limpl_Value [e_LLimpl_Value a0] (e_LLimpl_Value r) := by
  refine Does.goG [] F_slices_Clip_LLimpl_Value_Limpl_Value rfl e_slices_Clip_LLimpl_Value_Limpl_Value n_slices_Clip_LLimpl_Value_Limpl_Value rfl (rvs := [.tmp 2]) rfl rfl ?_
  intro w0 ok0 lent ρ0
  refine LWP.seq_k fun N1 hN1 => ?_
  refine LWP.region (l := [_]) ?_
  refine LWo.assign _ rfl (hn := ?_)
  refine LWo.weakT 2 (e_LLimpl_Value ([] : (List (List S_impl_Value)))) rfl .nil ?_
  refine LWo.nil (hN1 _ ?_)
  refine LWP.seq_k fun N2 hN2 => ?_
  refine LWP.region (l := [_,_,_,_,_,_,_]) ?_
  refine LWo.move (e_LLimpl_Value a0) rfl (hn := ?_)
  refine LWo.move (e_LLimpl_Value a0) rfl (hn := ?_)
  refine LWo.lenM (f := e_Limpl_Value) (l := a0) u_LLimpl_Value rfl (hn := ?_)
  refine LWo.move (e_LLimpl_Value a0) rfl (hn := ?_)
  refine LWo.lenM (f := e_Limpl_Value) (l := a0) u_LLimpl_Value rfl (hn := ?_)
  refine bk h fun x3 e3 h => ?_
  refine LWo.cutM3 (f := e_Limpl_Value) e3 u_LLimpl_Value s_Limpl_Value rfl rfl ⟨_, rfl⟩ ⟨_, rfl⟩ (hn := ?_)
  refine LWo.assign (e_LLimpl_Value x3) rfl (hn := ?_)
  refine LWo.nil (hN2 _ ?_)
  obtain rfl := Option.some.inj h
  refine LWP.ret (QG.mk (.inr rfl) (.cons (.tmp (x := (e_LLimpl_Value x3)) rfl) (.nil)) (RetOK.one0 (.pure rfl) (by decide)) rfl rfl)

def m_impl_rowsCopy_j1 (o1003 : (List (List S_impl_Value))) : Option (List (List S_impl_Value)) :=
  (m_slices_Clip_LLimpl_Value_Limpl_Value_o o1003).bind fun x17 =>
  some x17
def m_impl_rowsCopy_l1 : Nat → (List (List S_impl_Value)) → Int → Int → (List (List S_impl_Value)) → Option (List (List S_impl_Value))
  | 0, _, _, _, _ => none
  | n1 + 1, t6, t7, t8, o1003 =>
    bif decide (t8 < t7) then ((at? t6 t8).bind fun x12 =>
    (m_impl_clone_impl_Value x12).bind fun x13 =>
    (app? o1003 ([x13] : (List (List S_impl_Value)))).bind fun x14 =>
    (ckI (t8 + (1 : Int))).bind fun x15 =>
    (m_impl_rowsCopy_l1  n1) t6 t7 x15 x14)
    else (m_impl_rowsCopy_j1  o1003)
def m_impl_rowsCopy (a0 : (List (List S_impl_Value))) : Option (List (List S_impl_Value)) :=
  m_impl_rowsCopy_l1  (((a0.length : Int) - (0 : Int)).toNat + 1) a0 (a0.length : Int) (0 : Int) ([] : (List (List S_impl_Value)))
theorem c_impl_rowsCopy (a0 : (List (List S_impl_Value))) (r : (List (List S_impl_Value))) (h : m_impl_rowsCopy a0 = some r) : Ret Try.prog f_impl_rowsCopy [e_LLimpl_Value a0] (.nw 1 (r.map e_Limpl_Value) false) := by
  refine Does.goG [] F_impl_rowsCopy rfl e_impl_rowsCopy n_impl_rowsCopy rfl (rvs := [.tmp 2]) rfl rfl ?_
  intro w0 ok0 lent ρ0
  refine LWP.seq_k fun N1 hN1 => ?_
  refine LWP.region (l := [_]) ?_
  refine LWo.assign _ rfl (hn := ?_)
  refine LWo.ownNil 2 1002 1 rfl rfl rfl ?_
  refine LWo.known 2 (.own 1002 0 ([] : (List (List S_impl_Value))).length) rfl ?_
  refine LWo.nil (hN1 _ ?_)
  refine LWP.seq_k fun N2 hN2 => ?_
  refine LWP.region (l := [_]) ?_
  refine LWo.assign _ rfl (hn := ?_)
  refine LWo.ownNil 3 1003 1 rfl rfl rfl ?_
  refine LWo.known 3 (.own 1003 0 ([] : (List (List S_impl_Value))).length) rfl ?_
  refine LWo.nil (hN2 _ ?_)
  refine LWP.join (α := (List (List S_impl_Value))) (fun z : (List (List S_impl_Value)) => [(3, (.own 1003 0 (z).length))]) (fun z : (List (List S_impl_Value)) => [(1003, (lob 1 e_Limpl_Value z))]) (fun z : (List (List S_impl_Value)) => m_impl_rowsCopy_j1  z) r (fun _ => by simp [hkeys]) ?_ ?_
  · rintro o1003 h
    replace h : m_impl_rowsCopy_j1  o1003 = some _ := h
    refine LWP.seq_k fun N16 hN16 => ?_
    refine LWP.region (l := [_,_,_]) ?_
    refine LWo.move (.own 1003 0 (o1003).length) rfl (hn := ?_)
    refine bk h fun x17 e17 h => ?_
    refine LWo.tcallN (e := e_Limpl_Value) (e' := e_Limpl_Value) 1019 rfl rfl (c_slices_Clip_LLimpl_Value_Limpl_Value_o _ _ e17) (fun _ => rfl) rfl rfl rfl rfl (hn := ?_)
    refine LWo.assign (.own 1019 0 (x17).length) rfl (hn := ?_)
    refine LWo.nil (hN16 _ ?_)
    obtain rfl := Option.some.inj h
    refine LWP.ret (QG.mk (.inr rfl) (.cons (.tmp (x := (.own 1019 0 (x17).length)) rfl) (.nil)) (RetOK.one0 (.nwM rfl rfl) (by decide)) rfl rfl)
  · intro N3 hN3
    refine LWP.seq_k fun N4 hN4 => ?_
    refine LWP.region (l := [_,_,_]) ?_
    refine LWo.move (e_LLimpl_Value a0) rfl (hn := ?_)
    refine LWo.lenM (f := e_Limpl_Value) (l := a0) u_LLimpl_Value rfl (hn := ?_)
    refine LWo.move (e_int (0 : Int)) rfl (hn := ?_)
    refine LWo.nil (hN4 _ ?_)
    refine LWP.block ?_
    refine LWP.loopM (α := (List (List S_impl_Value)) × Int × Int × (List (List S_impl_Value))) (fun z : (List (List S_impl_Value)) × Int × Int × (List (List S_impl_Value)) => [(3, (.own 1003 0 (z.2.2.2).length)), (6, (e_LLimpl_Value z.1)), (7, (e_int z.2.1)), (8, (e_int z.2.2.1))]) (fun z : (List (List S_impl_Value)) × Int × Int × (List (List S_impl_Value)) => [(1003, (lob 1 e_Limpl_Value z.2.2.2))]) (fun n1 (z : (List (List S_impl_Value)) × Int × Int × (List (List S_impl_Value))) => m_impl_rowsCopy_l1  n1 z.1 z.2.1 z.2.2.1 z.2.2.2) r _ (a0, (a0.length : Int), (0 : Int), ([] : (List (List S_impl_Value)))) h (fun _ => rfl) (fun _ => by simp [hkeys]) ⟨rfl, rfl, rfl, rfl, trivial⟩ ⟨rfl, trivial⟩ ?_
    rintro n1 ⟨t6, t7, t8, o1003⟩ h N5 hN5
    replace h : m_impl_rowsCopy_l1  (n1 + 1) t6 t7 t8 o1003 = some _ := h
    refine LWP.seq_k fun N7 hN7 => ?_
    refine LWP.region (l := [_]) ?_
    refine LWo.int _ rfl rfl rfl (hn := ?_)
    refine LWo.nil (hN7 _ ?_)
    refine LWP.seq_k fun N8 hN8 => ?_
    refine LWP.cond_split rfl (fun h9 => ?_) (fun h9 => ?_)
    · have h := bT h9 h
      refine LWP.skip (hN8 _ ?_)
      refine LWP.seq_k fun N10 hN10 => ?_
      refine LWP.block ?_
      refine LWP.seq_k fun N11 hN11 => ?_
      refine LWP.region (l := [_,_,_]) ?_
      refine bk h fun x12 e12 h => ?_
      refine LWo.indexM (f := e_Limpl_Value) e12 u_LLimpl_Value s_Limpl_Value rfl rfl (hn := ?_)
      refine LWo.load1 (c := (e_Limpl_Value x12)) g_Limpl_Value rfl (hn := ?_)
      refine LWo.assign (e_Limpl_Value x12) rfl (hn := ?_)
      refine LWo.nil (hN11 _ ?_)
      refine LWP.region (l := [_,_,_,_,_,_]) ?_
      refine LWo.move (.own 1003 0 (o1003).length) rfl (hn := ?_)
      refine LWo.move (e_Limpl_Value x12) rfl (hn := ?_)
      refine bk h fun x13 e13 h => ?_
      refine LWo.vcall rfl rfl (c_impl_clone_impl_Value _ _ e13) (.same (.nil)) (hn := ?_)
      refine LWo.lit (ops := [_]) [(e_Limpl_Value x13)] u_LLimpl_Value s_Limpl_Value z_Limpl_Value rfl rfl rfl rfl rfl rfl (hn := ?_)
      refine bk h fun x14 e14 h => ?_
      refine LWo.appendM (f := e_Limpl_Value) e14 rfl u_LLimpl_Value u_LLimpl_Value (fun _ h => by cases h) s_Limpl_Value i_Limpl_Value rfl rfl rfl (.sl rfl) rfl rfl (hn := ?_)
      refine LWo.assign (.own 1003 0 (x14).length) rfl (hn := ?_)
      refine LWo.nil (hN10 _ ?_)
      refine LWP.region (l := [_,_]) ?_
      refine bk h fun x15 e15 h => ?_
      refine LWo.int _ rfl rfl (add_ck e15) (hn := ?_)
      refine LWo.move (e_int x15) rfl (hn := ?_)
      refine LWo.nil (hN5 (t6, t7, x15, x14) _ ⟨rfl, rfl, rfl, rfl, trivial⟩ ⟨rfl, trivial⟩ h)
    · have h := bF h9 h
      refine LWP.exit (hN3 o1003 _ ⟨rfl, trivial⟩ ⟨rfl, trivial⟩ h)

def m_impl_RunsMerged_j3 (k1 : (List (List S_impl_Value)) → (List (List (List S_impl_Value))) → Option (List (List S_impl_Value))) (t5 : Int) (o1004 : (List (List S_impl_Value))) (o1011 : (List (List (List S_impl_Value)))) : Option (List (List S_impl_Value)) :=
  bif decide (t5 < (0 : Int)) then ((m_impl_rowsCopy o1004).bind fun x38 =>
    some x38)
  else ((at? o1011 t5).bind fun x40 =>
  (at? o1011 t5).bind fun x41 =>
  (at? x41 (0 : Int)).bind fun x42 =>
  (app? o1004 ([x42] : (List (List S_impl_Value)))).bind fun x43 =>
  (at? o1011 t5).bind fun x44 =>
  (at? o1011 t5).bind fun x45 =>
  (cut? x45 (1 : Int) (x45.length : Int)).bind fun x46 =>
  (at? o1011 t5).bind fun x47 =>
  (at? o1011 t5).bind fun x48 =>
  lt (x46) fun y49 =>
  k1 x43 (o1011.set (t5).toNat y49))
def m_impl_RunsMerged_j2 (k1 : (List (List S_impl_Value)) → (List (List (List S_impl_Value))) → Option (List (List S_impl_Value))) (k2 : Int → Int → Int → (List (List S_impl_Value)) → (List (List (List S_impl_Value))) → Option (List (List S_impl_Value))) (t5 : Int) (t13 : Int) (t14 : Int) (o1004 : (List (List S_impl_Value))) (o1011 : (List (List (List S_impl_Value)))) : Option (List (List S_impl_Value)) :=
  (ckI (t14 + (1 : Int))).bind fun x33 =>
  k2 t5 t13 x33 o1004 o1011
def m_impl_RunsMerged_j1 (k1 : (List (List S_impl_Value)) → (List (List (List S_impl_Value))) → Option (List (List S_impl_Value))) (k2 : Int → Int → Int → (List (List S_impl_Value)) → (List (List (List S_impl_Value))) → Option (List (List S_impl_Value))) (t5 : Int) (t6 : Int) (t13 : Int) (t14 : Int) (t38 : Bool) (o1004 : (List (List S_impl_Value))) (o1011 : (List (List (List S_impl_Value)))) : Option (List (List S_impl_Value)) :=
  bif t38 then (m_impl_RunsMerged_j2  k1 k2 t6 t13 t14 o1004 o1011)
  else (m_impl_RunsMerged_j2  k1 k2 t5 t13 t14 o1004 o1011)
def m_impl_RunsMerged_l2 (k1 : (List (List S_impl_Value)) → (List (List (List S_impl_Value))) → Option (List (List S_impl_Value))) : Nat → Int → Int → Int → (List (List S_impl_Value)) → (List (List (List S_impl_Value))) → Option (List (List S_impl_Value))
  | 0, _, _, _, _, _ => none
  | n2 + 1, t5, t13, t14, o1004, o1011 =>
    bif decide (t14 < t13) then ((at? o1011 t14).bind fun x22 =>
    (at? o1011 t14).bind fun x23 =>
    bif decide ((x23.length : Int) > (0 : Int)) then (bif decide (t5 < (0 : Int)) then (m_impl_RunsMerged_j1  k1 (m_impl_RunsMerged_l2  k1 n2) t5 t14 t13 t14 true o1004 o1011)
      else ((at? x23 (0 : Int)).bind fun x27 =>
        (at? o1011 t5).bind fun x28 =>
        (at? o1011 t5).bind fun x29 =>
        (at? x29 (0 : Int)).bind fun x30 =>
        (m_impl_rowOrder x27 x30).bind fun x31 =>
        m_impl_RunsMerged_j1  k1 (m_impl_RunsMerged_l2  k1 n2) t5 t14 t13 t14 (decide (x31 < (0 : Int))) o1004 o1011))
    else (m_impl_RunsMerged_j1  k1 (m_impl_RunsMerged_l2  k1 n2) t5 t14 t13 t14 false o1004 o1011))
    else (m_impl_RunsMerged_j3  k1 t5 o1004 o1011)
def m_impl_RunsMerged_l1 : Nat → (List (List S_impl_Value)) → (List (List (List S_impl_Value))) → Option (List (List S_impl_Value))
  | 0, _, _ => none
  | n1 + 1, o1004, o1011 =>
    m_impl_RunsMerged_l2  (m_impl_RunsMerged_l1  n1) (((o1011.length : Int) - (0 : Int)).toNat + 1) (-1 : Int) (o1011.length : Int) (0 : Int) o1004 o1011
def m_impl_RunsMerged (a0 : (List (List (List S_impl_Value)))) : Option (List (List S_impl_Value)) :=
  (m_slices_ContainsFunc_LLLimpl_Value_LLimpl_Value a0 (fun b0_ => m_impl_RunsMerged_1 b0_ )).bind fun x4 =>
  bif x4 then (some ([] : (List (List S_impl_Value))))
  else ((m_slices_Clone_LLLimpl_Value_LLimpl_Value a0).bind fun x8 =>
  m_impl_RunsMerged_l1  (1000000000) ([] : (List (List S_impl_Value))) x8)
theorem c_impl_RunsMerged (a0 : (List (List (List S_impl_Value)))) (r : (List (List S_impl_Value))) (h : m_impl_RunsMerged a0 = some r) : Ret Try.prog f_impl_RunsMerged [e_LLLimpl_Value a0] (e_LLimpl_Value r) := by
  refine Does.goG [] F_impl_RunsMerged rfl e_impl_RunsMerged n_impl_RunsMerged rfl (rvs := [.tmp 2]) rfl rfl ?_
  intro w0 ok0 lent ρ0
  refine LWP.seq_k fun N1 hN1 => ?_
  refine LWP.region (l := [_]) ?_
  refine LWo.assign _ rfl (hn := ?_)
  refine LWo.weakT 2 (e_LLimpl_Value ([] : (List (List S_impl_Value)))) rfl .nil ?_
  refine LWo.nil (hN1 _ ?_)
  refine LWP.seq_k fun N2 hN2 => ?_
  refine LWP.seq_k fun N3 hN3 => ?_
  refine LWP.region (l := [_,_]) ?_
  refine LWo.move (e_LLLimpl_Value a0) rfl (hn := ?_)
  refine bk h fun x4 e4 h => ?_
  refine LWo.vcall rfl rfl (c_slices_ContainsFunc_LLLimpl_Value_LLimpl_Value _ _ f_impl_RunsMerged_1 [] (fun _ => rfl) (fun b0_ v hv => c_impl_RunsMerged_1 b0_  v hv) _ e4) (.same (.same (.nil))) (hn := ?_)
  refine LWo.nil (hN3 _ ?_)
  refine LWP.cond_split rfl (fun h5 => ?_) (fun h5 => ?_)
  · have h := bT h5 h
    refine LWP.seq_k fun N6 hN6 => ?_
    refine LWP.region (l := [_]) ?_
    refine LWo.assign _ rfl (hn := ?_)
    refine LWo.weakT 2 (e_LLimpl_Value ([] : (List (List S_impl_Value)))) rfl .nil ?_
    refine LWo.nil (hN6 _ ?_)
    obtain rfl := Option.some.inj h
    refine LWP.ret (QG.mk (.inr rfl) (.cons (.tmp (x := (e_LLimpl_Value ([] : (List (List S_impl_Value))))) rfl) (.nil)) (RetOK.one0 (.pure rfl) (by decide)) rfl rfl)
  · have h := bF h5 h
    refine LWP.skip (hN2 _ ?_)
    refine LWP.seq_k fun N7 hN7 => ?_
    refine LWP.region (l := [_,_,_]) ?_
    refine LWo.move (e_LLLimpl_Value a0) rfl (hn := ?_)
    refine bk h fun x8 e8 h => ?_
    refine LWo.ncall (e := e_LLimpl_Value) 1011 rfl rfl (c_slices_Clone_LLLimpl_Value_LLimpl_Value _ _ e8) (.same (.nil)) rfl (hn := ?_)
    refine LWo.assign (.own 1011 0 (x8).length) rfl (hn := ?_)
    refine LWo.nil (hN7 _ ?_)
    refine LWP.seq_k fun N9 hN9 => ?_
    refine LWP.region (l := [_]) ?_
    refine LWo.assign _ rfl (hn := ?_)
    refine LWo.ownNil 4 1004 1 rfl rfl rfl ?_
    refine LWo.known 4 (.own 1004 0 ([] : (List (List S_impl_Value))).length) rfl ?_
    refine LWo.nil (hN9 _ ?_)
    refine LWP.block ?_
    refine LWP.loopM (α := (List (List S_impl_Value)) × (List (List (List S_impl_Value)))) (fun z : (List (List S_impl_Value)) × (List (List (List S_impl_Value))) => [(3, (.own 1011 0 (z.2).length)), (4, (.own 1004 0 (z.1).length))]) (fun z : (List (List S_impl_Value)) × (List (List (List S_impl_Value))) => [(1004, (lob 1 e_Limpl_Value z.1)), (1011, (lob 1 e_LLimpl_Value z.2))]) (fun n1 (z : (List (List S_impl_Value)) × (List (List (List S_impl_Value)))) => m_impl_RunsMerged_l1  n1 z.1 z.2) r _ (([] : (List (List S_impl_Value))), x8) h (fun _ => rfl) (fun _ => by simp [hkeys]) ⟨rfl, rfl, trivial⟩ ⟨rfl, rfl, trivial⟩ ?_
    rintro n1 ⟨o1004, o1011⟩ h N10 hN10
    replace h : m_impl_RunsMerged_l1  (n1 + 1) o1004 o1011 = some _ := h
    refine LWP.block ?_
    refine LWP.seq_k fun N12 hN12 => ?_
    refine LWP.region (l := [_]) ?_
    refine LWo.assign (e_int (-1 : Int)) rfl (hn := ?_)
    refine LWo.nil (hN12 _ ?_)
    refine LWP.join (α := Int × (List (List S_impl_Value)) × (List (List (List S_impl_Value)))) (fun z : Int × (List (List S_impl_Value)) × (List (List (List S_impl_Value))) => [(3, (.own 1011 0 (z.2.2).length)), (4, (.own 1004 0 (z.2.1).length)), (5, (e_int z.1))]) (fun z : Int × (List (List S_impl_Value)) × (List (List (List S_impl_Value))) => [(1004, (lob 1 e_Limpl_Value z.2.1)), (1011, (lob 1 e_LLimpl_Value z.2.2))]) (fun z : Int × (List (List S_impl_Value)) × (List (List (List S_impl_Value))) => m_impl_RunsMerged_j3  (m_impl_RunsMerged_l1  n1) z.1 z.2.1 z.2.2) r (fun _ => by simp [hkeys]) ?_ ?_
    · rintro ⟨t5, o1004, o1011⟩ h
      replace h : m_impl_RunsMerged_j3  (m_impl_RunsMerged_l1  n1) t5 o1004 o1011 = some _ := h
      refine LWP.seq_k fun N34 hN34 => ?_
      refine LWP.seq_k fun N35 hN35 => ?_
      refine LWP.region (l := [_,_]) ?_
      refine LWo.move (e_int t5) rfl (hn := ?_)
      refine LWo.int _ rfl rfl rfl (hn := ?_)
      refine LWo.nil (hN35 _ ?_)
      refine LWP.cond_split rfl (fun h36 => ?_) (fun h36 => ?_)
      · have h := bT h36 h
        refine LWP.seq_k fun N37 hN37 => ?_
        refine LWP.region (l := [_,_,_]) ?_
        refine LWo.move (.own 1004 0 (o1004).length) rfl (hn := ?_)
        refine bk h fun x38 e38 h => ?_
        refine LWo.frzL (f := e_Limpl_Value) (l := o1004) [4, 43] 1004 rfl rfl ⟨rfl, rfl, trivial⟩ ?_
        refine LWo.vcall rfl rfl (c_impl_rowsCopy _ _ e38) (.same (.nil)) (hn := ?_)
        refine LWo.assign (e_LLimpl_Value x38) rfl (hn := ?_)
        refine LWo.nil (hN37 _ ?_)
        obtain rfl := Option.some.inj h
        refine LWP.ret (QG.mk (.inr rfl) (.cons (.tmp (x := (e_LLimpl_Value x38)) rfl) (.nil)) (RetOK.one0 (.pure rfl) (by decide)) rfl rfl)
      · have h := bF h36 h
        refine LWP.skip (hN34 _ ?_)
        refine LWP.seq_k fun N39 hN39 => ?_
        refine LWP.region (l := [_,_,_,_,_,_,_,_,_,_]) ?_
        refine LWo.move (.own 1004 0 (o1004).length) rfl (hn := ?_)
        refine LWo.move (.own 1011 0 (o1011).length) rfl (hn := ?_)
        refine LWo.move (e_int t5) rfl (hn := ?_)
        refine bk h fun x40 e40 h => ?_
        refine LWo.indexO e40 rfl u_LLLimpl_Value s_LLimpl_Value rfl rfl rfl (hn := ?_)
        refine bk h fun x41 e41 h => ?_
        refine LWo.loadO1 (e_LLimpl_Value x41) e41 g_LLimpl_Value rfl rfl rfl (hn := ?_)
        refine bk h fun x42 e42 h => ?_
        refine LWo.indexM (f := e_Limpl_Value) e42 u_LLimpl_Value s_Limpl_Value rfl rfl (hn := ?_)
        refine LWo.load1 (c := (e_Limpl_Value x42)) g_Limpl_Value rfl (hn := ?_)
        refine LWo.lit (ops := [_]) [(e_Limpl_Value x42)] u_LLimpl_Value s_Limpl_Value z_Limpl_Value rfl rfl rfl rfl rfl rfl (hn := ?_)
        refine bk h fun x43 e43 h => ?_
        refine LWo.appendM (f := e_Limpl_Value) e43 rfl u_LLimpl_Value u_LLimpl_Value (fun _ h => by cases h) s_Limpl_Value i_Limpl_Value rfl rfl rfl (.sl rfl) rfl rfl (hn := ?_)
        refine LWo.assign (.own 1004 0 (x43).length) rfl (hn := ?_)
        refine LWo.nil (hN39 _ ?_)
        refine LWP.region (l := [_,_,_,_,_,_,_,_,_]) ?_
        refine LWo.move (.own 1011 0 (o1011).length) rfl (hn := ?_)
        refine LWo.move (e_int t5) rfl (hn := ?_)
        refine LWo.move (.own 1011 0 (o1011).length) rfl (hn := ?_)
        refine LWo.move (e_int t5) rfl (hn := ?_)
        refine bk h fun x44 e44 h => ?_
        refine LWo.indexO e44 rfl u_LLLimpl_Value s_LLimpl_Value rfl rfl rfl (hn := ?_)
        refine bk h fun x45 e45 h => ?_
        refine LWo.loadO1 (e_LLimpl_Value x45) e45 g_LLimpl_Value rfl rfl rfl (hn := ?_)
        refine bk h fun x46 e46 h => ?_
        refine LWo.cutM (f := e_Limpl_Value) e46 u_LLimpl_Value s_Limpl_Value rfl ⟨_, rfl⟩ rfl (hn := ?_)
        refine bk h fun x47 e47 h => ?_
        refine LWo.indexO e47 rfl u_LLLimpl_Value s_LLimpl_Value rfl rfl rfl (hn := ?_)
        refine bk h fun x48 e48 h => ?_
        refine lk h fun y49 e49 h => ?_
        refine LWo.storeO y49 e48 s_LLimpl_Value rfl rfl rfl rfl rfl rfl rfl (by rw [e49]; rfl) (hn := ?_)
        refine LWo.nil (hN10 (x43, (o1011.set (t5).toNat y49)) _ ⟨(congrArg (LV.own 1011 0) List.length_set.symm), rfl, trivial⟩ ⟨rfl, rfl, trivial⟩ h)
    · intro N13 hN13
      refine LWP.seq_k fun N14 hN14 => ?_
      refine LWP.region (l := [_,_,_]) ?_
      refine LWo.move (.own 1011 0 (o1011).length) rfl (hn := ?_)
      refine LWo.lenO u_LLLimpl_Value rfl (hn := ?_)
      refine LWo.move (e_int (0 : Int)) rfl (hn := ?_)
      refine LWo.nil (hN14 _ ?_)
      refine LWP.block ?_
      refine LWP.loopM (α := Int × Int × Int × (List (List S_impl_Value)) × (List (List (List S_impl_Value)))) (fun z : Int × Int × Int × (List (List S_impl_Value)) × (List (List (List S_impl_Value))) => [(3, (.own 1011 0 (z.2.2.2.2).length)), (4, (.own 1004 0 (z.2.2.2.1).length)), (5, (e_int z.1)), (12, (.own 1011 0 (z.2.2.2.2).length)), (13, (e_int z.2.1)), (14, (e_int z.2.2.1))]) (fun z : Int × Int × Int × (List (List S_impl_Value)) × (List (List (List S_impl_Value))) => [(1004, (lob 1 e_Limpl_Value z.2.2.2.1)), (1011, (lob 1 e_LLimpl_Value z.2.2.2.2))]) (fun n2 (z : Int × Int × Int × (List (List S_impl_Value)) × (List (List (List S_impl_Value)))) => m_impl_RunsMerged_l2  (m_impl_RunsMerged_l1  n1) n2 z.1 z.2.1 z.2.2.1 z.2.2.2.1 z.2.2.2.2) r _ ((-1 : Int), (o1011.length : Int), (0 : Int), o1004, o1011) h (fun _ => rfl) (fun _ => by simp [hkeys]) ⟨rfl, rfl, rfl, rfl, rfl, rfl, trivial⟩ ⟨rfl, rfl, trivial⟩ ?_
      rintro n2 ⟨t5, t13, t14, o1004, o1011⟩ h N15 hN15
      replace h : m_impl_RunsMerged_l2  (m_impl_RunsMerged_l1  n1) (n2 + 1) t5 t13 t14 o1004 o1011 = some _ := h
      refine LWP.seq_k fun N17 hN17 => ?_
      refine LWP.region (l := [_]) ?_
      refine LWo.int _ rfl rfl rfl (hn := ?_)
      refine LWo.nil (hN17 _ ?_)
      refine LWP.seq_k fun N18 hN18 => ?_
      refine LWP.cond_split rfl (fun h19 => ?_) (fun h19 => ?_)
      · have h := bT h19 h
        refine LWP.skip (hN18 _ ?_)
        refine LWP.join (α := Int × Int × Int × (List (List S_impl_Value)) × (List (List (List S_impl_Value)))) (fun z : Int × Int × Int × (List (List S_impl_Value)) × (List (List (List S_impl_Value))) => [(3, (.own 1011 0 (z.2.2.2.2).length)), (4, (.own 1004 0 (z.2.2.2.1).length)), (5, (e_int z.1)), (12, (.own 1011 0 (z.2.2.2.2).length)), (13, (e_int z.2.1)), (14, (e_int z.2.2.1))]) (fun z : Int × Int × Int × (List (List S_impl_Value)) × (List (List (List S_impl_Value))) => [(1004, (lob 1 e_Limpl_Value z.2.2.2.1)), (1011, (lob 1 e_LLimpl_Value z.2.2.2.2))]) (fun z : Int × Int × Int × (List (List S_impl_Value)) × (List (List (List S_impl_Value))) => m_impl_RunsMerged_j2  (m_impl_RunsMerged_l1  n1) (m_impl_RunsMerged_l2  (m_impl_RunsMerged_l1  n1) n2) z.1 z.2.1 z.2.2.1 z.2.2.2.1 z.2.2.2.2) r (fun _ => by simp [hkeys]) ?_ ?_
        · rintro ⟨t5, t13, t14, o1004, o1011⟩ h
          replace h : m_impl_RunsMerged_j2  (m_impl_RunsMerged_l1  n1) (m_impl_RunsMerged_l2  (m_impl_RunsMerged_l1  n1) n2) t5 t13 t14 o1004 o1011 = some _ := h
          refine LWP.region (l := [_,_]) ?_
          refine bk h fun x33 e33 h => ?_
          refine LWo.int _ rfl rfl (add_ck e33) (hn := ?_)
          refine LWo.move (e_int x33) rfl (hn := ?_)
          refine LWo.nil (hN15 (t5, t13, x33, o1004, o1011) _ ⟨rfl, rfl, rfl, rfl, rfl, rfl, trivial⟩ ⟨rfl, rfl, trivial⟩ h)
        · intro N20 hN20
          refine LWP.block ?_
          refine LWP.seq_k fun N21 hN21 => ?_
          refine LWP.region (l := [_,_,_,_,_]) ?_
          refine LWo.move (e_int t14) rfl (hn := ?_)
          refine bk h fun x22 e22 h => ?_
          refine LWo.indexO e22 rfl u_LLLimpl_Value s_LLimpl_Value rfl rfl rfl (hn := ?_)
          refine bk h fun x23 e23 h => ?_
          refine LWo.loadO1 (e_LLimpl_Value x23) e23 g_LLimpl_Value rfl rfl rfl (hn := ?_)
          refine LWo.assign (e_int t14) rfl (hn := ?_)
          refine LWo.assign (e_LLimpl_Value x23) rfl (hn := ?_)
          refine LWo.nil (hN21 _ ?_)
          refine LWP.join (α := Int × Int × Int × Int × Bool × (List (List S_impl_Value)) × (List (List (List S_impl_Value)))) (fun z : Int × Int × Int × Int × Bool × (List (List S_impl_Value)) × (List (List (List S_impl_Value))) => [(3, (.own 1011 0 (z.2.2.2.2.2.2).length)), (4, (.own 1004 0 (z.2.2.2.2.2.1).length)), (5, (e_int z.1)), (6, (e_int z.2.1)), (12, (.own 1011 0 (z.2.2.2.2.2.2).length)), (13, (e_int z.2.2.1)), (14, (e_int z.2.2.2.1)), (38, (e_bool z.2.2.2.2.1))]) (fun z : Int × Int × Int × Int × Bool × (List (List S_impl_Value)) × (List (List (List S_impl_Value))) => [(1004, (lob 1 e_Limpl_Value z.2.2.2.2.2.1)), (1011, (lob 1 e_LLimpl_Value z.2.2.2.2.2.2))]) (fun z : Int × Int × Int × Int × Bool × (List (List S_impl_Value)) × (List (List (List S_impl_Value))) => m_impl_RunsMerged_j1  (m_impl_RunsMerged_l1  n1) (m_impl_RunsMerged_l2  (m_impl_RunsMerged_l1  n1) n2) z.1 z.2.1 z.2.2.1 z.2.2.2.1 z.2.2.2.2.1 z.2.2.2.2.2.1 z.2.2.2.2.2.2) r (fun _ => by simp [hkeys]) ?_ ?_
          · rintro ⟨t5, t6, t13, t14, t38, o1004, o1011⟩ h
            replace h : m_impl_RunsMerged_j1  (m_impl_RunsMerged_l1  n1) (m_impl_RunsMerged_l2  (m_impl_RunsMerged_l1  n1) n2) t5 t6 t13 t14 t38 o1004 o1011 = some _ := h
            refine LWP.cond_split rfl (fun h32 => ?_) (fun h32 => ?_)
            · have h := bT h32 h
              refine LWP.region (l := [_,_]) ?_
              refine LWo.move (e_int t6) rfl (hn := ?_)
              refine LWo.assign (e_int t6) rfl (hn := ?_)
              refine LWo.nil (hN20 (t6, t13, t14, o1004, o1011) _ ⟨rfl, rfl, rfl, rfl, rfl, rfl, trivial⟩ ⟨rfl, rfl, trivial⟩ h)
            · have h := bF h32 h
              refine LWP.skip (hN20 (t5, t13, t14, o1004, o1011) _ ⟨rfl, rfl, rfl, rfl, rfl, rfl, trivial⟩ ⟨rfl, rfl, trivial⟩ h)
          · intro N24 hN24
            refine bS (decide ((x23.length : Int) > (0 : Int))) (fun h25 => ?_) (fun h25 => ?_)
            · have h := bT h25 h
              refine bS (decide (t5 < (0 : Int))) (fun h26 => ?_) (fun h26 => ?_)
              · have h := bT h26 h
                refine LWP.drawE (l := [_,_,_,_,_,_,_,_,_,_,_,_,_,_,_,_,_,_,_,_]) [] [3, 4, 5, 6, 7, 12, 13, 14] [([7], []), ([19], []), ([20], []), ([21], []), ([5, 22], []), ([22, 23], []), ([22, 24], []), ([7, 25], []), ([25, 26], []), ([25, 27], []), ([3, 25], []), ([5, 25], []), ([25, 29, 30], []), ([25, 31], []), ([25, 32], []), ([25, 33], []), ([25, 28, 34], []), ([25, 35], []), ([22, 25, 36], []), ([22, 37], [])] [3, 4, 5, 6, 12, 13, 14, 38] [1004, 1011] mixed (by kernel_rfl) rfl (by decide) ?_
                refine ⟨rfl, .put 19 _, trivial, fun u hg hu hh => LWo.move (e_LLimpl_Value x23) hu.1 (hn := LWo.nil ⟨rfl, .inl rfl, hg⟩), ?_⟩
                refine ⟨rfl, .put 20 _, trivial, fun u hg hu hh => LWo.lenM (f := e_Limpl_Value) (l := x23) u_LLimpl_Value hu.1 (hn := LWo.nil ⟨rfl, .inl rfl, hg⟩), ?_⟩
                refine ⟨rfl, .put 21 _, trivial, fun u hg hu hh => LWo.int _ hu.1 rfl rfl (hn := LWo.nil ⟨rfl, .inl rfl, hg⟩), ?_⟩
                refine ⟨rfl, .put 22 _, trivial, fun u hg hu hh => LWo.move (e_bool (decide ((x23.length : Int) > (0 : Int)))) hu.1 (hn := LWo.nil ⟨rfl, .inl rfl, hg⟩), ?_⟩
                refine ⟨rfl, .put 23 _, trivial, fun u hg hu hh => LWo.guardY (t := 22) hu.2.1 h25 rfl rfl (LWo.move (e_int t5) hu.1 (hn := LWo.nil ⟨rfl, .inl rfl, hg⟩)), ?_⟩
                refine ⟨rfl, .put 24 _, trivial, fun u hg hu hh => LWo.guardY (t := 22) hu.1 h25 rfl rfl (LWo.int _ hu.2.1 rfl rfl (hn := LWo.nil ⟨rfl, .inl rfl, hg⟩)), ?_⟩
                refine ⟨rfl, .put 25 _, trivial, fun u hg hu hh => LWo.guardY (t := 22) hu.1 h25 rfl rfl (LWo.move (e_bool (decide (t5 < (0 : Int)))) hu.2.1 (hn := LWo.nil ⟨rfl, .inl rfl, hg⟩)), ?_⟩
                refine ⟨rfl, .put 26 _, trivial, fun u hg hu hh => LWo.guardNU (t := 25) hu.2.1 h26 rfl rfl rfl rfl rfl (LWo.nil ⟨rfl, .inl rfl, hg⟩), ?_⟩
                refine ⟨rfl, .put 27 _, trivial, fun u hg hu hh => LWo.guardNU (t := 25) hu.1 h26 rfl rfl rfl rfl rfl (LWo.nil ⟨rfl, .inl rfl, hg⟩), ?_⟩
                refine ⟨rfl, .put 28 _, trivial, fun u hg hu hh => LWo.guardNU (t := 25) hu.1 h26 rfl rfl rfl rfl rfl (LWo.nil ⟨rfl, .inl rfl, hg⟩), ?_⟩
                refine ⟨rfl, .put 29 _, trivial, fun u hg hu hh => LWo.guardNU (t := 25) hu.2.1 h26 rfl rfl rfl rfl rfl (LWo.nil ⟨rfl, .inl rfl, hg⟩), ?_⟩
                refine ⟨rfl, .put 30 _, trivial, fun u hg hu hh => LWo.guardNU (t := 25) hu.2.1 h26 rfl rfl rfl rfl rfl (LWo.nil ⟨rfl, .inl rfl, hg⟩), ?_⟩
                refine ⟨rfl, .put 31 _, trivial, fun u hg hu hh => LWo.guardNU (t := 25) hu.1 h26 rfl rfl rfl rfl rfl (LWo.nil ⟨rfl, .inl rfl, hg⟩), ?_⟩
                refine ⟨rfl, .put 32 _, trivial, fun u hg hu hh => LWo.guardNU (t := 25) hu.1 h26 rfl rfl rfl rfl rfl (LWo.nil ⟨rfl, .inl rfl, hg⟩), ?_⟩
                refine ⟨rfl, .put 33 _, trivial, fun u hg hu hh => LWo.guardNU (t := 25) hu.1 h26 rfl rfl rfl rfl rfl (LWo.nil ⟨rfl, .inl rfl, hg⟩), ?_⟩
                refine ⟨rfl, .put 34 _, trivial, fun u hg hu hh => LWo.guardNU (t := 25) hu.1 h26 rfl rfl rfl rfl rfl (LWo.nil ⟨rfl, .inl rfl, hg⟩), ?_⟩
                refine ⟨rfl, .put 35 _, trivial, fun u hg hu hh => LWo.guardNU (t := 25) hu.1 h26 rfl rfl rfl rfl rfl (LWo.nil ⟨rfl, .inl rfl, hg⟩), ?_⟩
                refine ⟨rfl, .put 36 _, trivial, fun u hg hu hh => LWo.guardNU (t := 25) hu.1 h26 rfl rfl rfl rfl rfl (LWo.nil ⟨rfl, .inl rfl, hg⟩), ?_⟩
                refine ⟨rfl, .put 37 _, trivial, fun u hg hu hh => LWo.guardY (t := 22) hu.1 h25 rfl rfl (LWo.pickTM (e_bool true) hu.2.1 h26 rfl (hn := LWo.nil ⟨rfl, .inl rfl, hg⟩)), ?_⟩
                refine ⟨rfl, .put 38 _, trivial, fun u hg hu hh => LWo.pickTM (e_bool true) hu.1 h25 hu.2.1 (hn := LWo.nil ⟨rfl, .inl rfl, hg⟩), ?_⟩
                refine ⟨rfl, by kernel_rfl, hN24 (t5, t14, t13, t14, true, o1004, o1011) _ ⟨rfl, rfl, rfl, rfl, rfl, rfl, rfl, rfl, trivial⟩ ⟨rfl, rfl, trivial⟩ h⟩
              · have h := bF h26 h
                refine bk h fun x27 e27 h => ?_
                refine bk h fun x28 e28 h => ?_
                refine bk h fun x29 e29 h => ?_
                refine bk h fun x30 e30 h => ?_
                refine bk h fun x31 e31 h => ?_
                refine LWP.drawE (l := [_,_,_,_,_,_,_,_,_,_,_,_,_,_,_,_,_,_,_,_]) [] [3, 4, 5, 6, 7, 12, 13, 14] [([7], []), ([19], []), ([20], []), ([21], []), ([5, 22], []), ([22, 23], []), ([22, 24], []), ([7, 25], []), ([25, 26], []), ([25, 27], []), ([3, 25], []), ([5, 25], []), ([25, 29, 30], [1011]), ([25, 31], [1011]), ([25, 32], []), ([25, 33], []), ([25, 28, 34], []), ([25, 35], []), ([22, 25, 36], []), ([22, 37], [])] [3, 4, 5, 6, 12, 13, 14, 38] [1004, 1011] mixed (by kernel_rfl) rfl (by decide) ?_
                refine ⟨rfl, .put 19 _, trivial, fun u hg hu hh => LWo.move (e_LLimpl_Value x23) hu.1 (hn := LWo.nil ⟨rfl, .inl rfl, hg⟩), ?_⟩
                refine ⟨rfl, .put 20 _, trivial, fun u hg hu hh => LWo.lenM (f := e_Limpl_Value) (l := x23) u_LLimpl_Value hu.1 (hn := LWo.nil ⟨rfl, .inl rfl, hg⟩), ?_⟩
                refine ⟨rfl, .put 21 _, trivial, fun u hg hu hh => LWo.int _ hu.1 rfl rfl (hn := LWo.nil ⟨rfl, .inl rfl, hg⟩), ?_⟩
                refine ⟨rfl, .put 22 _, trivial, fun u hg hu hh => LWo.move (e_bool (decide ((x23.length : Int) > (0 : Int)))) hu.1 (hn := LWo.nil ⟨rfl, .inl rfl, hg⟩), ?_⟩
                refine ⟨rfl, .put 23 _, trivial, fun u hg hu hh => LWo.guardY (t := 22) hu.2.1 h25 rfl rfl (LWo.move (e_int t5) hu.1 (hn := LWo.nil ⟨rfl, .inl rfl, hg⟩)), ?_⟩
                refine ⟨rfl, .put 24 _, trivial, fun u hg hu hh => LWo.guardY (t := 22) hu.1 h25 rfl rfl (LWo.int _ hu.2.1 rfl rfl (hn := LWo.nil ⟨rfl, .inl rfl, hg⟩)), ?_⟩
                refine ⟨rfl, .put 25 _, trivial, fun u hg hu hh => LWo.guardY (t := 22) hu.1 h25 rfl rfl (LWo.move (e_bool (decide (t5 < (0 : Int)))) hu.2.1 (hn := LWo.nil ⟨rfl, .inl rfl, hg⟩)), ?_⟩
                refine ⟨rfl, .put 26 _, trivial, fun u hg hu hh => LWo.guardY (t := 25) hu.2.1 h26 rfl rfl (LWo.move (e_LLimpl_Value x23) hu.1 (hn := LWo.nil ⟨rfl, .inl rfl, hg⟩)), ?_⟩
                refine ⟨rfl, .put 27 _, trivial, fun u hg hu hh => LWo.guardY (t := 25) hu.1 h26 rfl rfl (LWo.indexM (f := e_Limpl_Value) e27 u_LLimpl_Value s_Limpl_Value hu.2.1 rfl (hn := LWo.nil ⟨rfl, .inl rfl, hg⟩)), ?_⟩
                refine ⟨rfl, .put 28 _, trivial, fun u hg hu hh => LWo.guardY (t := 25) hu.1 h26 rfl rfl (LWo.load1 (c := (e_Limpl_Value x27)) g_Limpl_Value hu.2.1 (hn := LWo.nil ⟨rfl, .inl rfl, hg⟩)), ?_⟩
                refine ⟨rfl, .put 29 _, trivial, fun u hg hu hh => LWo.guardY (t := 25) hu.2.1 h26 rfl rfl (LWo.move (.own 1011 0 (o1011).length) hu.1 (hn := LWo.nil ⟨rfl, .inl rfl, hg⟩)), ?_⟩
                refine ⟨rfl, .put 30 _, trivial, fun u hg hu hh => LWo.guardY (t := 25) hu.2.1 h26 rfl rfl (LWo.move (e_int t5) hu.1 (hn := LWo.nil ⟨rfl, .inl rfl, hg⟩)), ?_⟩
                refine ⟨rfl, .put 31 _, trivial, fun u hg hu hh => LWo.guardY (t := 25) hu.1 h26 rfl rfl (LWo.indexO e28 rfl u_LLLimpl_Value s_LLimpl_Value hu.2.1 hu.2.2.1 hh.1 (hn := LWo.nil ⟨rfl, .inl rfl, hg⟩)), ?_⟩
                refine ⟨rfl, .put 32 _, trivial, fun u hg hu hh => LWo.guardY (t := 25) hu.1 h26 rfl rfl (LWo.loadO1 (e_LLimpl_Value x29) e29 g_LLimpl_Value hu.2.1 hh.1 rfl (hn := LWo.nil ⟨rfl, .inl rfl, hg⟩)), ?_⟩
                refine ⟨rfl, .put 33 _, trivial, fun u hg hu hh => LWo.guardY (t := 25) hu.1 h26 rfl rfl (LWo.indexM (f := e_Limpl_Value) e30 u_LLimpl_Value s_Limpl_Value hu.2.1 rfl (hn := LWo.nil ⟨rfl, .inl rfl, hg⟩)), ?_⟩
                refine ⟨rfl, .put 34 _, trivial, fun u hg hu hh => LWo.guardY (t := 25) hu.1 h26 rfl rfl (LWo.load1 (c := (e_Limpl_Value x30)) g_Limpl_Value hu.2.1 (hn := LWo.nil ⟨rfl, .inl rfl, hg⟩)), ?_⟩
                refine ⟨rfl, .put 35 _, trivial, fun u hg hu hh => LWo.guardY (t := 25) hu.1 h26 rfl rfl (LWo.vcall rfl (av2 hu.2.1 hu.2.2.1) (c_impl_rowOrder _ _ _ e31) (.same (.same (.nil))) (hn := LWo.nil ⟨rfl, .inl rfl, hg⟩)), ?_⟩
                refine ⟨rfl, .put 36 _, trivial, fun u hg hu hh => LWo.guardY (t := 25) hu.1 h26 rfl rfl (LWo.int _ hu.2.1 rfl rfl (hn := LWo.nil ⟨rfl, .inl rfl, hg⟩)), ?_⟩
                refine ⟨rfl, .put 37 _, trivial, fun u hg hu hh => LWo.guardY (t := 22) hu.1 h25 rfl rfl (LWo.pickFM (e_bool (decide (x31 < (0 : Int)))) hu.2.1 h26 hu.2.2.1 (hn := LWo.nil ⟨rfl, .inl rfl, hg⟩)), ?_⟩
                refine ⟨rfl, .put 38 _, trivial, fun u hg hu hh => LWo.pickTM (e_bool (decide (x31 < (0 : Int)))) hu.1 h25 hu.2.1 (hn := LWo.nil ⟨rfl, .inl rfl, hg⟩), ?_⟩
                refine ⟨rfl, by kernel_rfl, hN24 (t5, t14, t13, t14, decide (x31 < (0 : Int)), o1004, o1011) _ ⟨rfl, rfl, rfl, rfl, rfl, rfl, rfl, rfl, trivial⟩ ⟨rfl, rfl, trivial⟩ h⟩
            · have h := bF h25 h
              refine LWP.drawE (l := [_,_,_,_,_,_,_,_,_,_,_,_,_,_,_,_,_,_,_,_]) [] [3, 4, 5, 6, 7, 12, 13, 14] [([7], []), ([19], []), ([20], []), ([21], []), ([5, 22], []), ([22, 23], []), ([22, 24], []), ([7, 25], []), ([25, 26], []), ([25, 27], []), ([3, 25], []), ([5, 25], []), ([25, 29, 30], []), ([25, 31], []), ([25, 32], []), ([25, 33], []), ([25, 28, 34], []), ([25, 35], []), ([22, 25, 36], []), ([22, 37], [])] [3, 4, 5, 6, 12, 13, 14, 38] [1004, 1011] mixed (by kernel_rfl) rfl (by decide) ?_
              refine ⟨rfl, .put 19 _, trivial, fun u hg hu hh => LWo.move (e_LLimpl_Value x23) hu.1 (hn := LWo.nil ⟨rfl, .inl rfl, hg⟩), ?_⟩
              refine ⟨rfl, .put 20 _, trivial, fun u hg hu hh => LWo.lenM (f := e_Limpl_Value) (l := x23) u_LLimpl_Value hu.1 (hn := LWo.nil ⟨rfl, .inl rfl, hg⟩), ?_⟩
              refine ⟨rfl, .put 21 _, trivial, fun u hg hu hh => LWo.int _ hu.1 rfl rfl (hn := LWo.nil ⟨rfl, .inl rfl, hg⟩), ?_⟩
              refine ⟨rfl, .put 22 _, trivial, fun u hg hu hh => LWo.move (e_bool (decide ((x23.length : Int) > (0 : Int)))) hu.1 (hn := LWo.nil ⟨rfl, .inl rfl, hg⟩), ?_⟩
              refine ⟨rfl, .put 23 _, trivial, fun u hg hu hh => LWo.guardNU (t := 22) hu.2.1 h25 rfl rfl rfl rfl rfl (LWo.nil ⟨rfl, .inl rfl, hg⟩), ?_⟩
              refine ⟨rfl, .put 24 _, trivial, fun u hg hu hh => LWo.guardNU (t := 22) hu.1 h25 rfl rfl rfl rfl rfl (LWo.nil ⟨rfl, .inl rfl, hg⟩), ?_⟩
              refine ⟨rfl, .put 25 _, trivial, fun u hg hu hh => LWo.guardNU (t := 22) hu.1 h25 rfl rfl rfl rfl rfl (LWo.nil ⟨rfl, .inl rfl, hg⟩), ?_⟩
              refine ⟨rfl, .put 26 _, trivial, fun u hg hu hh => LWo.guardU (t := 25) hu.2.1 rfl rfl rfl rfl (LWo.nil ⟨rfl, .inl rfl, hg⟩), ?_⟩
              refine ⟨rfl, .put 27 _, trivial, fun u hg hu hh => LWo.guardU (t := 25) hu.1 rfl rfl rfl rfl (LWo.nil ⟨rfl, .inl rfl, hg⟩), ?_⟩
              refine ⟨rfl, .put 28 _, trivial, fun u hg hu hh => LWo.guardU (t := 25) hu.1 rfl rfl rfl rfl (LWo.nil ⟨rfl, .inl rfl, hg⟩), ?_⟩
              refine ⟨rfl, .put 29 _, trivial, fun u hg hu hh => LWo.guardU (t := 25) hu.2.1 rfl rfl rfl rfl (LWo.nil ⟨rfl, .inl rfl, hg⟩), ?_⟩
              refine ⟨rfl, .put 30 _, trivial, fun u hg hu hh => LWo.guardU (t := 25) hu.2.1 rfl rfl rfl rfl (LWo.nil ⟨rfl, .inl rfl, hg⟩), ?_⟩
              refine ⟨rfl, .put 31 _, trivial, fun u hg hu hh => LWo.guardU (t := 25) hu.1 rfl rfl rfl rfl (LWo.nil ⟨rfl, .inl rfl, hg⟩), ?_⟩
              refine ⟨rfl, .put 32 _, trivial, fun u hg hu hh => LWo.guardU (t := 25) hu.1 rfl rfl rfl rfl (LWo.nil ⟨rfl, .inl rfl, hg⟩), ?_⟩
              refine ⟨rfl, .put 33 _, trivial, fun u hg hu hh => LWo.guardU (t := 25) hu.1 rfl rfl rfl rfl (LWo.nil ⟨rfl, .inl rfl, hg⟩), ?_⟩
              refine ⟨rfl, .put 34 _, trivial, fun u hg hu hh => LWo.guardU (t := 25) hu.1 rfl rfl rfl rfl (LWo.nil ⟨rfl, .inl rfl, hg⟩), ?_⟩
              refine ⟨rfl, .put 35 _, trivial, fun u hg hu hh => LWo.guardU (t := 25) hu.1 rfl rfl rfl rfl (LWo.nil ⟨rfl, .inl rfl, hg⟩), ?_⟩
              refine ⟨rfl, .put 36 _, trivial, fun u hg hu hh => LWo.guardU (t := 25) hu.1 rfl rfl rfl rfl (LWo.nil ⟨rfl, .inl rfl, hg⟩), ?_⟩
              refine ⟨rfl, .put 37 _, trivial, fun u hg hu hh => LWo.guardNU (t := 22) hu.1 h25 rfl rfl rfl rfl rfl (LWo.nil ⟨rfl, .inl rfl, hg⟩), ?_⟩
              refine ⟨rfl, .put 38 _, trivial, fun u hg hu hh => LWo.pickFM (e_bool false) hu.1 h25 rfl (hn := LWo.nil ⟨rfl, .inl rfl, hg⟩), ?_⟩
              refine ⟨rfl, by kernel_rfl, hN24 (t5, t14, t13, t14, false, o1004, o1011) _ ⟨rfl, rfl, rfl, rfl, rfl, rfl, rfl, rfl, trivial⟩ ⟨rfl, rfl, trivial⟩ h⟩
      · have h := bF h19 h
        refine LWP.exit (hN13 (t5, o1004, o1011) _ ⟨rfl, rfl, rfl, trivial⟩ ⟨rfl, rfl, trivial⟩ h)

def m_spec_RunsMerged_j9 (o1010 : (List (List S_impl_Value))) : Option (List (List S_impl_Value)) :=
  some o1010
def m_spec_RunsMerged_j8 (k3 : (List (List (List S_impl_Value))) → Int → (List (List S_impl_Value)) → (List Int) → Option (List (List S_impl_Value))) (t0 : (List (List (List S_impl_Value)))) (t5 : Int) (o1010 : (List (List S_impl_Value))) (o1013 : (List Int)) : Option (List (List S_impl_Value)) :=
  (ckI (t5 - (1 : Int))).bind fun x87 =>
  k3 t0 x87 o1010 o1013
def m_spec_RunsMerged_j7 (k3 : (List (List (List S_impl_Value))) → Int → (List (List S_impl_Value)) → (List Int) → Option (List (List S_impl_Value))) (t0 : (List (List (List S_impl_Value)))) (t5 : Int) (t8 : Int) (o1010 : (List (List S_impl_Value))) (o1013 : (List Int)) : Option (List (List S_impl_Value)) :=
  (at? t0 t8).bind fun x75 =>
  (at? o1013 t8).bind fun x76 =>
  (at? o1013 t8).bind fun x77 =>
  (at? x75 x77).bind fun x78 =>
  (m_spec_l3Own x78).bind fun x79 =>
  (app? o1010 ([x79] : (List (List S_impl_Value)))).bind fun x80 =>
  (at? o1013 t8).bind fun x81 =>
  (at? o1013 t8).bind fun x82 =>
  (ckI (x82 + (1 : Int))).bind fun x83 =>
  (at? o1013 t8).bind fun x84 =>
  (at? o1013 t8).bind fun x85 =>
  lt (x83) fun y86 =>
  m_spec_RunsMerged_j8  k3 t0 t5 x80 (o1013.set (t8).toNat y86)
def m_spec_RunsMerged_j6 (k3 : (List (List (List S_impl_Value))) → Int → (List (List S_impl_Value)) → (List Int) → Option (List (List S_impl_Value))) (k4 : (List (List (List S_impl_Value))) → Int → Int → Int → (List (List S_impl_Value)) → (List Int) → Option (List (List S_impl_Value))) (t0 : (List (List (List S_impl_Value)))) (t5 : Int) (t8 : Int) (t9 : Int) (o1010 : (List (List S_impl_Value))) (o1013 : (List Int)) : Option (List (List S_impl_Value)) :=
  (ckI (t9 + (1 : Int))).bind fun x73 =>
  k4 t0 t5 t8 x73 o1010 o1013
def m_spec_RunsMerged_j5 (k3 : (List (List (List S_impl_Value))) → Int → (List (List S_impl_Value)) → (List Int) → Option (List (List S_impl_Value))) (k4 : (List (List (List S_impl_Value))) → Int → Int → Int → (List (List S_impl_Value)) → (List Int) → Option (List (List S_impl_Value))) (t0 : (List (List (List S_impl_Value)))) (t5 : Int) (t8 : Int) (t9 : Int) (t116 : Bool) (o1010 : (List (List S_impl_Value))) (o1013 : (List Int)) : Option (List (List S_impl_Value)) :=
  bif t116 then (m_spec_RunsMerged_j6  k3 k4 t0 t5 t9 t9 o1010 o1013)
  else (m_spec_RunsMerged_j6  k3 k4 t0 t5 t8 t9 o1010 o1013)
def m_spec_RunsMerged_l4 (k3 : (List (List (List S_impl_Value))) → Int → (List (List S_impl_Value)) → (List Int) → Option (List (List S_impl_Value))) : Nat → (List (List (List S_impl_Value))) → Int → Int → Int → (List (List S_impl_Value)) → (List Int) → Option (List (List S_impl_Value))
  | 0, _, _, _, _, _, _ => none
  | n4 + 1, t0, t5, t8, t9, o1010, o1013 =>
    bif decide (t9 < (t0.length : Int)) then ((at? o1013 t9).bind fun x58 =>
    (at? o1013 t9).bind fun x59 =>
    (at? t0 t9).bind fun x60 =>
    bif decide (x59 < (x60.length : Int)) then (bif decide (t8 < (0 : Int)) then (m_spec_RunsMerged_j5  k3 (m_spec_RunsMerged_l4  k3 n4) t0 t5 t8 t9 true o1010 o1013)
      else ((at? t0 t9).bind fun x63 =>
        (at? o1013 t9).bind fun x64 =>
        (at? o1013 t9).bind fun x65 =>
        (at? x63 x65).bind fun x66 =>
        (at? t0 t8).bind fun x67 =>
        (at? o1013 t8).bind fun x68 =>
        (at? o1013 t8).bind fun x69 =>
        (at? x67 x69).bind fun x70 =>
        (m_spec_RowOrder x66 x70).bind fun x71 =>
        m_spec_RunsMerged_j5  k3 (m_spec_RunsMerged_l4  k3 n4) t0 t5 t8 t9 (decide (x71 < (0 : Int))) o1010 o1013))
    else (m_spec_RunsMerged_j5  k3 (m_spec_RunsMerged_l4  k3 n4) t0 t5 t8 t9 false o1010 o1013))
    else (m_spec_RunsMerged_j7  k3 t0 t5 t8 o1010 o1013)
def m_spec_RunsMerged_l3 : Nat → (List (List (List S_impl_Value))) → Int → (List (List S_impl_Value)) → (List Int) → Option (List (List S_impl_Value))
  | 0, _, _, _, _ => none
  | n3 + 1, t0, t5, o1010, o1013 =>
    bif decide (t5 > (0 : Int)) then (m_spec_RunsMerged_l4  (m_spec_RunsMerged_l3  n3) (((t0.length : Int) - (0 : Int)).toNat + 1) t0 t5 (-1 : Int) (0 : Int) o1010 o1013)
    else (m_spec_RunsMerged_j9  o1010)
def m_spec_RunsMerged_j4 (t0 : (List (List (List S_impl_Value)))) (t5 : Int) (o1010 : (List (List S_impl_Value))) (o1013 : (List Int)) : Option (List (List S_impl_Value)) :=
  m_spec_RunsMerged_l3  ((t5 - (0 : Int)).toNat + 1) t0 t5 o1010 o1013
def m_spec_RunsMerged_j3 (k1 : (List (List (List S_impl_Value))) → Int → Int → (List (List S_impl_Value)) → (List Int) → Option (List (List S_impl_Value))) (t0 : (List (List (List S_impl_Value)))) (t5 : Int) (t6 : Int) (o1010 : (List (List S_impl_Value))) (o1013 : (List Int)) : Option (List (List S_impl_Value)) :=
  (ckI (t6 + (1 : Int))).bind fun x40 =>
  k1 t0 t5 x40 o1010 o1013
def m_spec_RunsMerged_j2 (k1 : (List (List (List S_impl_Value))) → Int → Int → (List (List S_impl_Value)) → (List Int) → Option (List (List S_impl_Value))) (t0 : (List (List (List S_impl_Value)))) (t5 : Int) (t6 : Int) (o1010 : (List (List S_impl_Value))) (o1013 : (List Int)) : Option (List (List S_impl_Value)) :=
  (at? t0 t6).bind fun x38 =>
  (ckI (t5 + (x38.length : Int))).bind fun x39 =>
  m_spec_RunsMerged_j3  k1 t0 x39 t6 o1010 o1013
def m_spec_RunsMerged_j1 (k1 : (List (List (List S_impl_Value))) → Int → Int → (List (List S_impl_Value)) → (List Int) → Option (List (List S_impl_Value))) (k2 : (List (List (List S_impl_Value))) → Int → Int → Int → (List (List S_impl_Value)) → (List Int) → Option (List (List S_impl_Value))) (t0 : (List (List (List S_impl_Value)))) (t5 : Int) (t6 : Int) (t7 : Int) (t60 : Bool) (o1010 : (List (List S_impl_Value))) (o1013 : (List Int)) : Option (List (List S_impl_Value)) :=
  bif t60 then (some ([] : (List (List S_impl_Value))))
  else ((ckI (t7 + (1 : Int))).bind fun x37 =>
  k2 t0 t5 t6 x37 o1010 o1013)
def m_spec_RunsMerged_l2 (k1 : (List (List (List S_impl_Value))) → Int → Int → (List (List S_impl_Value)) → (List Int) → Option (List (List S_impl_Value))) : Nat → (List (List (List S_impl_Value))) → Int → Int → Int → (List (List S_impl_Value)) → (List Int) → Option (List (List S_impl_Value))
  | 0, _, _, _, _, _, _ => none
  | n2 + 1, t0, t5, t6, t7, o1010, o1013 =>
    (at? t0 t6).bind fun x20 =>
    bif decide (t7 < (x20.length : Int)) then ((at? t0 t6).bind fun x24 =>
    (at? x24 t7).bind fun x25 =>
    (m_spec_RowOk x25).bind fun x26 =>
    bif (!x26) then (m_spec_RunsMerged_j1  k1 (m_spec_RunsMerged_l2  k1 n2) t0 t5 t6 t7 true o1010 o1013)
    else (bif decide (t7 > (0 : Int)) then ((at? t0 t6).bind fun x29 =>
        (ckI (t7 - (1 : Int))).bind fun x30 =>
        (at? x29 x30).bind fun x31 =>
        (at? t0 t6).bind fun x32 =>
        (at? x32 t7).bind fun x33 =>
        (m_spec_RowOrder x31 x33).bind fun x34 =>
        m_spec_RunsMerged_j1  k1 (m_spec_RunsMerged_l2  k1 n2) t0 t5 t6 t7 (decide (x34 > (0 : Int))) o1010 o1013)
      else (m_spec_RunsMerged_j1  k1 (m_spec_RunsMerged_l2  k1 n2) t0 t5 t6 t7 false o1010 o1013)))
    else (m_spec_RunsMerged_j2  k1 t0 t5 t6 o1010 o1013)
def m_spec_RunsMerged_l1 : Nat → (List (List (List S_impl_Value))) → Int → Int → (List (List S_impl_Value)) → (List Int) → Option (List (List S_impl_Value))
  | 0, _, _, _, _, _ => none
  | n1 + 1, t0, t5, t6, o1010, o1013 =>
    bif decide (t6 < (t0.length : Int)) then (m_spec_RunsMerged_l2  (m_spec_RunsMerged_l1  n1) (1000000000) t0 t5 t6 (0 : Int) o1010 o1013)
    else (m_spec_RunsMerged_j4  t0 t5 o1010 o1013)
def m_spec_RunsMerged (a0 : (List (List (List S_impl_Value)))) : Option (List (List S_impl_Value)) :=
  (mk2? (a0.length : Int) (a0.length : Int) ((0 : Int) : Int)).bind fun x4 =>
  m_spec_RunsMerged_l1  (((a0.length : Int) - (0 : Int)).toNat + 1) a0 (0 : Int) (0 : Int) ([] : (List (List S_impl_Value))) x4
theorem c_spec_RunsMerged (a0 : (List (List (List S_impl_Value)))) (r : (List (List S_impl_Value))) (h : m_spec_RunsMerged a0 = some r) : Ret Try.prog f_spec_RunsMerged [e_LLLimpl_Value a0] (.nw 1 (r.map e_Limpl_Value) false) := by
  refine Does.goG [] F_spec_RunsMerged rfl e_spec_RunsMerged n_spec_RunsMerged rfl (rvs := [.tmp 2]) rfl rfl ?_
  intro w0 ok0 lent ρ0
  refine LWP.seq_k fun N1 hN1 => ?_
  refine LWP.region (l := [_]) ?_
  refine LWo.assign _ rfl (hn := ?_)
  refine LWo.ownNil 2 1002 1 rfl rfl rfl ?_
  refine LWo.known 2 (.own 1002 0 ([] : (List (List S_impl_Value))).length) rfl ?_
  refine LWo.nil (hN1 _ ?_)
  refine LWP.seq_k fun N2 hN2 => ?_
  refine LWP.region (l := [_,_]) ?_
  refine LWo.lit0 1010 u_LLimpl_Value s_Limpl_Value z_Limpl_Value (hn := ?_)
  refine LWo.known 10 (.own 1010 0 ([] : (List (List S_impl_Value))).length) rfl ?_
  refine LWo.assign (.own 1010 0 (([] : (List (List S_impl_Value)))).length) rfl (hn := ?_)
  refine LWo.nil (hN2 _ ?_)
  refine LWP.seq_k fun N3 hN3 => ?_
  refine LWP.region (l := [_,_,_,_]) ?_
  refine LWo.move (e_LLLimpl_Value a0) rfl (hn := ?_)
  refine LWo.lenM (f := e_LLimpl_Value) (l := a0) u_LLLimpl_Value rfl (hn := ?_)
  refine bk h fun x4 e4 h => ?_
  refine LWo.make_int 1013 e4 u_Lint i_int rfl rfl rfl (hn := ?_)
  refine LWo.assign (.own 1013 0 (x4).length) rfl (hn := ?_)
  refine LWo.nil (hN3 _ ?_)
  refine LWP.seq_k fun N5 hN5 => ?_
  refine LWP.region (l := [_]) ?_
  refine LWo.assign (e_int (0 : Int)) rfl (hn := ?_)
  refine LWo.nil (hN5 _ ?_)
  refine LWP.join (α := (List (List (List S_impl_Value))) × Int × (List (List S_impl_Value)) × (List Int)) (fun z : (List (List (List S_impl_Value))) × Int × (List (List S_impl_Value)) × (List Int) => [(0, (e_LLLimpl_Value z.1)), (3, (.own 1010 0 (z.2.2.1).length)), (4, (.own 1013 0 (z.2.2.2).length)), (5, (e_int z.2.1))]) (fun z : (List (List (List S_impl_Value))) × Int × (List (List S_impl_Value)) × (List Int) => [(1010, (lob 1 e_Limpl_Value z.2.2.1)), (1013, (lob 1 e_int z.2.2.2))]) (fun z : (List (List (List S_impl_Value))) × Int × (List (List S_impl_Value)) × (List Int) => m_spec_RunsMerged_j4  z.1 z.2.1 z.2.2.1 z.2.2.2) r (fun _ => by simp [hkeys]) ?_ ?_
  · rintro ⟨t0, t5, o1010, o1013⟩ h
    replace h : m_spec_RunsMerged_j4  t0 t5 o1010 o1013 = some _ := h
    refine LWP.join (α := (List (List S_impl_Value))) (fun z : (List (List S_impl_Value)) => [(3, (.own 1010 0 (z).length))]) (fun z : (List (List S_impl_Value)) => [(1010, (lob 1 e_Limpl_Value z))]) (fun z : (List (List S_impl_Value)) => m_spec_RunsMerged_j9  z) r (fun _ => by simp [hkeys]) ?_ ?_
    · rintro o1010 h
      replace h : m_spec_RunsMerged_j9  o1010 = some _ := h
      refine LWP.seq_k fun N88 hN88 => ?_
      refine LWP.region (l := [_,_]) ?_
      refine LWo.move (.own 1010 0 (o1010).length) rfl (hn := ?_)
      refine LWo.assign (.own 1010 0 (o1010).length) rfl (hn := ?_)
      refine LWo.nil (hN88 _ ?_)
      obtain rfl := Option.some.inj h
      refine LWP.ret (QG.mk (.inr rfl) (.cons (.tmp (x := (.own 1010 0 (o1010).length)) rfl) (.nil)) (RetOK.one0 (.nwM rfl rfl) (by decide)) rfl rfl)
    · intro N41 hN41
      refine LWP.block ?_
      refine LWP.loopM (α := (List (List (List S_impl_Value))) × Int × (List (List S_impl_Value)) × (List Int)) (fun z : (List (List (List S_impl_Value))) × Int × (List (List S_impl_Value)) × (List Int) => [(0, (e_LLLimpl_Value z.1)), (3, (.own 1010 0 (z.2.2.1).length)), (4, (.own 1013 0 (z.2.2.2).length)), (5, (e_int z.2.1))]) (fun z : (List (List (List S_impl_Value))) × Int × (List (List S_impl_Value)) × (List Int) => [(1010, (lob 1 e_Limpl_Value z.2.2.1)), (1013, (lob 1 e_int z.2.2.2))]) (fun n3 (z : (List (List (List S_impl_Value))) × Int × (List (List S_impl_Value)) × (List Int)) => m_spec_RunsMerged_l3  n3 z.1 z.2.1 z.2.2.1 z.2.2.2) r _ (t0, t5, o1010, o1013) h (fun _ => rfl) (fun _ => by simp [hkeys]) ⟨rfl, rfl, rfl, rfl, trivial⟩ ⟨rfl, rfl, trivial⟩ ?_
      rintro n3 ⟨t0, t5, o1010, o1013⟩ h N42 hN42
      replace h : m_spec_RunsMerged_l3  (n3 + 1) t0 t5 o1010 o1013 = some _ := h
      refine LWP.seq_k fun N44 hN44 => ?_
      refine LWP.seq_k fun N45 hN45 => ?_
      refine LWP.region (l := [_,_]) ?_
      refine LWo.move (e_int t5) rfl (hn := ?_)
      refine LWo.int _ rfl rfl rfl (hn := ?_)
      refine LWo.nil (hN45 _ ?_)
      refine LWP.cond_split rfl (fun h46 => ?_) (fun h46 => ?_)
      · have h := bT h46 h
        refine LWP.skip (hN44 _ ?_)
        refine LWP.join (α := (List (List (List S_impl_Value))) × Int × (List (List S_impl_Value)) × (List Int)) (fun z : (List (List (List S_impl_Value))) × Int × (List (List S_impl_Value)) × (List Int) => [(0, (e_LLLimpl_Value z.1)), (3, (.own 1010 0 (z.2.2.1).length)), (4, (.own 1013 0 (z.2.2.2).length)), (5, (e_int z.2.1))]) (fun z : (List (List (List S_impl_Value))) × Int × (List (List S_impl_Value)) × (List Int) => [(1010, (lob 1 e_Limpl_Value z.2.2.1)), (1013, (lob 1 e_int z.2.2.2))]) (fun z : (List (List (List S_impl_Value))) × Int × (List (List S_impl_Value)) × (List Int) => m_spec_RunsMerged_j8  (m_spec_RunsMerged_l3  n3) z.1 z.2.1 z.2.2.1 z.2.2.2) r (fun _ => by simp [hkeys]) ?_ ?_
        · rintro ⟨t0, t5, o1010, o1013⟩ h
          replace h : m_spec_RunsMerged_j8  (m_spec_RunsMerged_l3  n3) t0 t5 o1010 o1013 = some _ := h
          refine LWP.region (l := [_,_,_]) ?_
          refine LWo.move (e_int t5) rfl (hn := ?_)
          refine bk h fun x87 e87 h => ?_
          refine LWo.int _ rfl rfl (sub_ck e87) (hn := ?_)
          refine LWo.assign (e_int x87) rfl (hn := ?_)
          refine LWo.nil (hN42 (t0, x87, o1010, o1013) _ ⟨rfl, rfl, rfl, rfl, trivial⟩ ⟨rfl, rfl, trivial⟩ h)
        · intro N47 hN47
          refine LWP.block ?_
          refine LWP.seq_k fun N48 hN48 => ?_
          refine LWP.region (l := [_]) ?_
          refine LWo.assign (e_int (-1 : Int)) rfl (hn := ?_)
          refine LWo.nil (hN48 _ ?_)
          refine LWP.join (α := (List (List (List S_impl_Value))) × Int × Int × (List (List S_impl_Value)) × (List Int)) (fun z : (List (List (List S_impl_Value))) × Int × Int × (List (List S_impl_Value)) × (List Int) => [(0, (e_LLLimpl_Value z.1)), (3, (.own 1010 0 (z.2.2.2.1).length)), (4, (.own 1013 0 (z.2.2.2.2).length)), (5, (e_int z.2.1)), (8, (e_int z.2.2.1))]) (fun z : (List (List (List S_impl_Value))) × Int × Int × (List (List S_impl_Value)) × (List Int) => [(1010, (lob 1 e_Limpl_Value z.2.2.2.1)), (1013, (lob 1 e_int z.2.2.2.2))]) (fun z : (List (List (List S_impl_Value))) × Int × Int × (List (List S_impl_Value)) × (List Int) => m_spec_RunsMerged_j7  (m_spec_RunsMerged_l3  n3) z.1 z.2.1 z.2.2.1 z.2.2.2.1 z.2.2.2.2) r (fun _ => by simp [hkeys]) ?_ ?_
          · rintro ⟨t0, t5, t8, o1010, o1013⟩ h
            replace h : m_spec_RunsMerged_j7  (m_spec_RunsMerged_l3  n3) t0 t5 t8 o1010 o1013 = some _ := h
            refine LWP.seq_k fun N74 hN74 => ?_
            refine bk h fun x75 e75 h => ?_
            refine bk h fun x76 e76 h => ?_
            refine bk h fun x77 e77 h => ?_
            refine bk h fun x78 e78 h => ?_
            refine bk h fun x79 e79 h => ?_
            refine bk h fun x80 e80 h => ?_
            refine LWP.drawE (l := [_,_,_,_,_,_,_,_,_,_,_,_,_,_,_]) [1010] [0, 3, 4, 5, 8] [([3], []), ([0], []), ([8], []), ([119, 120], []), ([121], []), ([4], []), ([8], []), ([123, 124], [1013]), ([125], [1013]), ([122, 126], []), ([127], []), ([128], []), ([129], []), ([118, 130], [1010]), ([131], [])] [0, 3, 4, 5, 8] [1010, 1013] mixed (by kernel_rfl) rfl (by decide) ?_
            refine ⟨rfl, .put 118 _, trivial, fun u hg hu hh => LWo.move (.own 1010 0 (o1010).length) hu.1 (hn := LWo.nil ⟨rfl, .inl rfl, hg⟩), ?_⟩
            refine ⟨rfl, .put 119 _, trivial, fun u hg hu hh => LWo.move (e_LLLimpl_Value t0) hu.1 (hn := LWo.nil ⟨rfl, .inl rfl, hg⟩), ?_⟩
            refine ⟨rfl, .put 120 _, trivial, fun u hg hu hh => LWo.move (e_int t8) hu.1 (hn := LWo.nil ⟨rfl, .inl rfl, hg⟩), ?_⟩
            refine ⟨rfl, .put 121 _, trivial, fun u hg hu hh => LWo.indexM (f := e_LLimpl_Value) e75 u_LLLimpl_Value s_LLimpl_Value hu.1 hu.2.1 (hn := LWo.nil ⟨rfl, .inl rfl, hg⟩), ?_⟩
            refine ⟨rfl, .put 122 _, trivial, fun u hg hu hh => LWo.load1 (c := (e_LLimpl_Value x75)) g_LLimpl_Value hu.1 (hn := LWo.nil ⟨rfl, .inl rfl, hg⟩), ?_⟩
            refine ⟨rfl, .put 123 _, trivial, fun u hg hu hh => LWo.move (.own 1013 0 (o1013).length) hu.1 (hn := LWo.nil ⟨rfl, .inl rfl, hg⟩), ?_⟩
            refine ⟨rfl, .put 124 _, trivial, fun u hg hu hh => LWo.move (e_int t8) hu.1 (hn := LWo.nil ⟨rfl, .inl rfl, hg⟩), ?_⟩
            refine ⟨rfl, .put 125 _, trivial, fun u hg hu hh => LWo.indexO e76 rfl u_Lint s_int hu.1 hu.2.1 hh.1 (hn := LWo.nil ⟨rfl, .inl rfl, hg⟩), ?_⟩
            refine ⟨rfl, .put 126 _, trivial, fun u hg hu hh => LWo.loadO1 (e_int x77) e77 g_int hu.1 hh.1 rfl (hn := LWo.nil ⟨rfl, .inl rfl, hg⟩), ?_⟩
            refine ⟨rfl, .put 127 _, trivial, fun u hg hu hh => LWo.indexM (f := e_Limpl_Value) e78 u_LLimpl_Value s_Limpl_Value hu.1 hu.2.1 (hn := LWo.nil ⟨rfl, .inl rfl, hg⟩), ?_⟩
            refine ⟨rfl, .put 128 _, trivial, fun u hg hu hh => LWo.load1 (c := (e_Limpl_Value x78)) g_Limpl_Value hu.1 (hn := LWo.nil ⟨rfl, .inl rfl, hg⟩), ?_⟩
            refine ⟨rfl, .put 129 _, trivial, fun u hg hu hh => LWo.vcall rfl (av1 hu.1) (c_spec_l3Own _ _ e79) (.same (.nil)) (hn := LWo.nil ⟨rfl, .inl rfl, hg⟩), ?_⟩
            refine ⟨rfl, .put 130 _, trivial, fun u hg hu hh => LWo.lit (ops := [_]) [(e_Limpl_Value x79)] u_LLimpl_Value s_Limpl_Value z_Limpl_Value (lv1 hu.1) rfl rfl rfl rfl rfl (hn := LWo.nil ⟨rfl, .inl rfl, hg⟩), ?_⟩
            refine ⟨rfl, .make 131 _ 1010 _, (by exact (goodC rfl goodN)), fun u hg hu hh => LWo.appendM (f := e_Limpl_Value) e80 rfl u_LLimpl_Value u_LLimpl_Value (fun _ h => by cases h) s_Limpl_Value i_Limpl_Value rfl hu.1 hh.1 (.sl hu.2.1) (lone_of hg rfl) rfl (hn := LWo.nil ⟨rfl, .inl rfl, Ef.good_ok (e := .make 131 _ 1010 _) (by exact (goodC rfl goodN)) hg⟩), ?_⟩
            refine ⟨rfl, .put 3 _, trivial, fun u hg hu hh => LWo.assign (.own 1010 0 (x80).length) hu.1 (hn := LWo.nil ⟨rfl, .inl rfl, hg⟩), ?_⟩
            refine ⟨rfl, by kernel_rfl, hN74 _ ?_⟩
            refine LWP.region (l := [_,_,_,_,_,_,_,_,_]) ?_
            refine LWo.move (.own 1013 0 (o1013).length) rfl (hn := ?_)
            refine LWo.move (e_int t8) rfl (hn := ?_)
            refine LWo.move (.own 1013 0 (o1013).length) rfl (hn := ?_)
            refine LWo.move (e_int t8) rfl (hn := ?_)
            refine bk h fun x81 e81 h => ?_
            refine LWo.indexO e81 rfl u_Lint s_int rfl rfl rfl (hn := ?_)
            refine bk h fun x82 e82 h => ?_
            refine LWo.loadO1 (e_int x82) e82 g_int rfl rfl rfl (hn := ?_)
            refine bk h fun x83 e83 h => ?_
            refine LWo.int _ rfl rfl (add_ck e83) (hn := ?_)
            refine bk h fun x84 e84 h => ?_
            refine LWo.indexO e84 rfl u_Lint s_int rfl rfl rfl (hn := ?_)
            refine bk h fun x85 e85 h => ?_
            refine lk h fun y86 e86 h => ?_
            refine LWo.storeO y86 e85 s_int rfl rfl rfl rfl rfl rfl rfl (by rw [e86]; rfl) (hn := ?_)
            refine LWo.nil (hN47 (t0, t5, x80, (o1013.set (t8).toNat y86)) _ ⟨rfl, rfl, (congrArg (LV.own 1013 0) List.length_set.symm), rfl, trivial⟩ ⟨rfl, rfl, trivial⟩ h)
          · intro N49 hN49
            refine LWP.seq_k fun N50 hN50 => ?_
            refine LWP.region (l := [_]) ?_
            refine LWo.assign (e_int (0 : Int)) rfl (hn := ?_)
            refine LWo.nil (hN50 _ ?_)
            refine LWP.block ?_
            refine LWP.loopM (α := (List (List (List S_impl_Value))) × Int × Int × Int × (List (List S_impl_Value)) × (List Int)) (fun z : (List (List (List S_impl_Value))) × Int × Int × Int × (List (List S_impl_Value)) × (List Int) => [(0, (e_LLLimpl_Value z.1)), (3, (.own 1010 0 (z.2.2.2.2.1).length)), (4, (.own 1013 0 (z.2.2.2.2.2).length)), (5, (e_int z.2.1)), (8, (e_int z.2.2.1)), (9, (e_int z.2.2.2.1))]) (fun z : (List (List (List S_impl_Value))) × Int × Int × Int × (List (List S_impl_Value)) × (List Int) => [(1010, (lob 1 e_Limpl_Value z.2.2.2.2.1)), (1013, (lob 1 e_int z.2.2.2.2.2))]) (fun n4 (z : (List (List (List S_impl_Value))) × Int × Int × Int × (List (List S_impl_Value)) × (List Int)) => m_spec_RunsMerged_l4  (m_spec_RunsMerged_l3  n3) n4 z.1 z.2.1 z.2.2.1 z.2.2.2.1 z.2.2.2.2.1 z.2.2.2.2.2) r _ (t0, t5, (-1 : Int), (0 : Int), o1010, o1013) h (fun _ => rfl) (fun _ => by simp [hkeys]) ⟨rfl, rfl, rfl, rfl, rfl, rfl, trivial⟩ ⟨rfl, rfl, trivial⟩ ?_
            rintro n4 ⟨t0, t5, t8, t9, o1010, o1013⟩ h N51 hN51
            replace h : m_spec_RunsMerged_l4  (m_spec_RunsMerged_l3  n3) (n4 + 1) t0 t5 t8 t9 o1010 o1013 = some _ := h
            refine LWP.seq_k fun N53 hN53 => ?_
            refine LWP.seq_k fun N54 hN54 => ?_
            refine LWP.region (l := [_,_,_,_]) ?_
            refine LWo.move (e_int t9) rfl (hn := ?_)
            refine LWo.move (e_LLLimpl_Value t0) rfl (hn := ?_)
            refine LWo.lenM (f := e_LLimpl_Value) (l := t0) u_LLLimpl_Value rfl (hn := ?_)
            refine LWo.int _ rfl rfl rfl (hn := ?_)
            refine LWo.nil (hN54 _ ?_)
            refine LWP.cond_split rfl (fun h55 => ?_) (fun h55 => ?_)
            · have h := bT h55 h
              refine LWP.skip (hN53 _ ?_)
              refine LWP.join (α := (List (List (List S_impl_Value))) × Int × Int × Int × (List (List S_impl_Value)) × (List Int)) (fun z : (List (List (List S_impl_Value))) × Int × Int × Int × (List (List S_impl_Value)) × (List Int) => [(0, (e_LLLimpl_Value z.1)), (3, (.own 1010 0 (z.2.2.2.2.1).length)), (4, (.own 1013 0 (z.2.2.2.2.2).length)), (5, (e_int z.2.1)), (8, (e_int z.2.2.1)), (9, (e_int z.2.2.2.1))]) (fun z : (List (List (List S_impl_Value))) × Int × Int × Int × (List (List S_impl_Value)) × (List Int) => [(1010, (lob 1 e_Limpl_Value z.2.2.2.2.1)), (1013, (lob 1 e_int z.2.2.2.2.2))]) (fun z : (List (List (List S_impl_Value))) × Int × Int × Int × (List (List S_impl_Value)) × (List Int) => m_spec_RunsMerged_j6  (m_spec_RunsMerged_l3  n3) (m_spec_RunsMerged_l4  (m_spec_RunsMerged_l3  n3) n4) z.1 z.2.1 z.2.2.1 z.2.2.2.1 z.2.2.2.2.1 z.2.2.2.2.2) r (fun _ => by simp [hkeys]) ?_ ?_
              · rintro ⟨t0, t5, t8, t9, o1010, o1013⟩ h
                replace h : m_spec_RunsMerged_j6  (m_spec_RunsMerged_l3  n3) (m_spec_RunsMerged_l4  (m_spec_RunsMerged_l3  n3) n4) t0 t5 t8 t9 o1010 o1013 = some _ := h
                refine LWP.region (l := [_,_,_]) ?_
                refine LWo.move (e_int t9) rfl (hn := ?_)
                refine bk h fun x73 e73 h => ?_
                refine LWo.int _ rfl rfl (add_ck e73) (hn := ?_)
                refine LWo.assign (e_int x73) rfl (hn := ?_)
                refine LWo.nil (hN51 (t0, t5, t8, x73, o1010, o1013) _ ⟨rfl, rfl, rfl, rfl, rfl, rfl, trivial⟩ ⟨rfl, rfl, trivial⟩ h)
              · intro N56 hN56
                refine LWP.block ?_
                refine LWP.join (α := (List (List (List S_impl_Value))) × Int × Int × Int × Bool × (List (List S_impl_Value)) × (List Int)) (fun z : (List (List (List S_impl_Value))) × Int × Int × Int × Bool × (List (List S_impl_Value)) × (List Int) => [(0, (e_LLLimpl_Value z.1)), (3, (.own 1010 0 (z.2.2.2.2.2.1).length)), (4, (.own 1013 0 (z.2.2.2.2.2.2).length)), (5, (e_int z.2.1)), (8, (e_int z.2.2.1)), (9, (e_int z.2.2.2.1)), (116, (e_bool z.2.2.2.2.1))]) (fun z : (List (List (List S_impl_Value))) × Int × Int × Int × Bool × (List (List S_impl_Value)) × (List Int) => [(1010, (lob 1 e_Limpl_Value z.2.2.2.2.2.1)), (1013, (lob 1 e_int z.2.2.2.2.2.2))]) (fun z : (List (List (List S_impl_Value))) × Int × Int × Int × Bool × (List (List S_impl_Value)) × (List Int) => m_spec_RunsMerged_j5  (m_spec_RunsMerged_l3  n3) (m_spec_RunsMerged_l4  (m_spec_RunsMerged_l3  n3) n4) z.1 z.2.1 z.2.2.1 z.2.2.2.1 z.2.2.2.2.1 z.2.2.2.2.2.1 z.2.2.2.2.2.2) r (fun _ => by simp [hkeys]) ?_ ?_
                · rintro ⟨t0, t5, t8, t9, t116, o1010, o1013⟩ h
                  replace h : m_spec_RunsMerged_j5  (m_spec_RunsMerged_l3  n3) (m_spec_RunsMerged_l4  (m_spec_RunsMerged_l3  n3) n4) t0 t5 t8 t9 t116 o1010 o1013 = some _ := h
                  refine LWP.cond_split rfl (fun h72 => ?_) (fun h72 => ?_)
                  · have h := bT h72 h
                    refine LWP.region (l := [_,_]) ?_
                    refine LWo.move (e_int t9) rfl (hn := ?_)
                    refine LWo.assign (e_int t9) rfl (hn := ?_)
                    refine LWo.nil (hN56 (t0, t5, t9, t9, o1010, o1013) _ ⟨rfl, rfl, rfl, rfl, rfl, rfl, trivial⟩ ⟨rfl, rfl, trivial⟩ h)
                  · have h := bF h72 h
                    refine LWP.skip (hN56 (t0, t5, t8, t9, o1010, o1013) _ ⟨rfl, rfl, rfl, rfl, rfl, rfl, trivial⟩ ⟨rfl, rfl, trivial⟩ h)
                · intro N57 hN57
                  refine bk h fun x58 e58 h => ?_
                  refine bk h fun x59 e59 h => ?_
                  refine bk h fun x60 e60 h => ?_
                  refine bS (decide (x59 < (x60.length : Int))) (fun h61 => ?_) (fun h61 => ?_)
                  · have h := bT h61 h
                    refine bS (decide (t8 < (0 : Int))) (fun h62 => ?_) (fun h62 => ?_)
                    · have h := bT h62 h
                      refine LWP.drawE (l := [_,_,_,_,_,_,_,_,_,_,_,_,_,_,_,_,_,_,_,_,_,_,_,_,_,_,_,_,_,_,_,_,_,_,_,_,_,_]) [] [0, 3, 4, 5, 8, 9] [([4], []), ([9], []), ([79, 80], [1013]), ([81], [1013]), ([0], []), ([9], []), ([83, 84], []), ([85], []), ([86], []), ([82, 87], []), ([88], []), ([8, 89], []), ([89, 90], []), ([89, 91], []), ([0, 92], []), ([9, 92], []), ([92, 93, 94], []), ([92, 95], []), ([4, 92], []), ([9, 92], []), ([92, 97, 98], []), ([92, 99], []), ([92, 96, 100], []), ([92, 101], []), ([0, 92], []), ([8, 92], []), ([92, 103, 104], []), ([92, 105], []), ([4, 92], []), ([8, 92], []), ([92, 107, 108], []), ([92, 109], []), ([92, 106, 110], []), ([92, 111], []), ([92, 102, 112], []), ([92, 113], []), ([89, 92, 114], []), ([89, 115], [])] [0, 3, 4, 5, 8, 9, 116] [1010, 1013] mixed (by kernel_rfl) rfl (by decide) ?_
                      refine ⟨rfl, .put 79 _, trivial, fun u hg hu hh => LWo.move (.own 1013 0 (o1013).length) hu.1 (hn := LWo.nil ⟨rfl, .inl rfl, hg⟩), ?_⟩
                      refine ⟨rfl, .put 80 _, trivial, fun u hg hu hh => LWo.move (e_int t9) hu.1 (hn := LWo.nil ⟨rfl, .inl rfl, hg⟩), ?_⟩
                      refine ⟨rfl, .put 81 _, trivial, fun u hg hu hh => LWo.indexO e58 rfl u_Lint s_int hu.1 hu.2.1 hh.1 (hn := LWo.nil ⟨rfl, .inl rfl, hg⟩), ?_⟩
                      refine ⟨rfl, .put 82 _, trivial, fun u hg hu hh => LWo.loadO1 (e_int x59) e59 g_int hu.1 hh.1 rfl (hn := LWo.nil ⟨rfl, .inl rfl, hg⟩), ?_⟩
                      refine ⟨rfl, .put 83 _, trivial, fun u hg hu hh => LWo.move (e_LLLimpl_Value t0) hu.1 (hn := LWo.nil ⟨rfl, .inl rfl, hg⟩), ?_⟩
                      refine ⟨rfl, .put 84 _, trivial, fun u hg hu hh => LWo.move (e_int t9) hu.1 (hn := LWo.nil ⟨rfl, .inl rfl, hg⟩), ?_⟩
                      refine ⟨rfl, .put 85 _, trivial, fun u hg hu hh => LWo.indexM (f := e_LLimpl_Value) e60 u_LLLimpl_Value s_LLimpl_Value hu.1 hu.2.1 (hn := LWo.nil ⟨rfl, .inl rfl, hg⟩), ?_⟩
                      refine ⟨rfl, .put 86 _, trivial, fun u hg hu hh => LWo.load1 (c := (e_LLimpl_Value x60)) g_LLimpl_Value hu.1 (hn := LWo.nil ⟨rfl, .inl rfl, hg⟩), ?_⟩
                      refine ⟨rfl, .put 87 _, trivial, fun u hg hu hh => LWo.lenM (f := e_Limpl_Value) (l := x60) u_LLimpl_Value hu.1 (hn := LWo.nil ⟨rfl, .inl rfl, hg⟩), ?_⟩
                      refine ⟨rfl, .put 88 _, trivial, fun u hg hu hh => LWo.int _ hu.1 hu.2.1 rfl (hn := LWo.nil ⟨rfl, .inl rfl, hg⟩), ?_⟩
                      refine ⟨rfl, .put 89 _, trivial, fun u hg hu hh => LWo.move (e_bool (decide (x59 < (x60.length : Int)))) hu.1 (hn := LWo.nil ⟨rfl, .inl rfl, hg⟩), ?_⟩
                      refine ⟨rfl, .put 90 _, trivial, fun u hg hu hh => LWo.guardY (t := 89) hu.2.1 h61 rfl rfl (LWo.move (e_int t8) hu.1 (hn := LWo.nil ⟨rfl, .inl rfl, hg⟩)), ?_⟩
                      refine ⟨rfl, .put 91 _, trivial, fun u hg hu hh => LWo.guardY (t := 89) hu.1 h61 rfl rfl (LWo.int _ hu.2.1 rfl rfl (hn := LWo.nil ⟨rfl, .inl rfl, hg⟩)), ?_⟩
                      refine ⟨rfl, .put 92 _, trivial, fun u hg hu hh => LWo.guardY (t := 89) hu.1 h61 rfl rfl (LWo.move (e_bool (decide (t8 < (0 : Int)))) hu.2.1 (hn := LWo.nil ⟨rfl, .inl rfl, hg⟩)), ?_⟩
                      refine ⟨rfl, .put 93 _, trivial, fun u hg hu hh => LWo.guardNU (t := 92) hu.2.1 h62 rfl rfl rfl rfl rfl (LWo.nil ⟨rfl, .inl rfl, hg⟩), ?_⟩
                      refine ⟨rfl, .put 94 _, trivial, fun u hg hu hh => LWo.guardNU (t := 92) hu.2.1 h62 rfl rfl rfl rfl rfl (LWo.nil ⟨rfl, .inl rfl, hg⟩), ?_⟩
                      refine ⟨rfl, .put 95 _, trivial, fun u hg hu hh => LWo.guardNU (t := 92) hu.1 h62 rfl rfl rfl rfl rfl (LWo.nil ⟨rfl, .inl rfl, hg⟩), ?_⟩
                      refine ⟨rfl, .put 96 _, trivial, fun u hg hu hh => LWo.guardNU (t := 92) hu.1 h62 rfl rfl rfl rfl rfl (LWo.nil ⟨rfl, .inl rfl, hg⟩), ?_⟩
                      refine ⟨rfl, .put 97 _, trivial, fun u hg hu hh => LWo.guardNU (t := 92) hu.2.1 h62 rfl rfl rfl rfl rfl (LWo.nil ⟨rfl, .inl rfl, hg⟩), ?_⟩
                      refine ⟨rfl, .put 98 _, trivial, fun u hg hu hh => LWo.guardNU (t := 92) hu.2.1 h62 rfl rfl rfl rfl rfl (LWo.nil ⟨rfl, .inl rfl, hg⟩), ?_⟩
                      refine ⟨rfl, .put 99 _, trivial, fun u hg hu hh => LWo.guardNU (t := 92) hu.1 h62 rfl rfl rfl rfl rfl (LWo.nil ⟨rfl, .inl rfl, hg⟩), ?_⟩
                      refine ⟨rfl, .put 100 _, trivial, fun u hg hu hh => LWo.guardNU (t := 92) hu.1 h62 rfl rfl rfl rfl rfl (LWo.nil ⟨rfl, .inl rfl, hg⟩), ?_⟩
                      refine ⟨rfl, .put 101 _, trivial, fun u hg hu hh => LWo.guardNU (t := 92) hu.1 h62 rfl rfl rfl rfl rfl (LWo.nil ⟨rfl, .inl rfl, hg⟩), ?_⟩
                      refine ⟨rfl, .put 102 _, trivial, fun u hg hu hh => LWo.guardNU (t := 92) hu.1 h62 rfl rfl rfl rfl rfl (LWo.nil ⟨rfl, .inl rfl, hg⟩), ?_⟩
                      refine ⟨rfl, .put 103 _, trivial, fun u hg hu hh => LWo.guardNU (t := 92) hu.2.1 h62 rfl rfl rfl rfl rfl (LWo.nil ⟨rfl, .inl rfl, hg⟩), ?_⟩
                      refine ⟨rfl, .put 104 _, trivial, fun u hg hu hh => LWo.guardNU (t := 92) hu.2.1 h62 rfl rfl rfl rfl rfl (LWo.nil ⟨rfl, .inl rfl, hg⟩), ?_⟩
                      refine ⟨rfl, .put 105 _, trivial, fun u hg hu hh => LWo.guardNU (t := 92) hu.1 h62 rfl rfl rfl rfl rfl (LWo.nil ⟨rfl, .inl rfl, hg⟩), ?_⟩
                      refine ⟨rfl, .put 106 _, trivial, fun u hg hu hh => LWo.guardNU (t := 92) hu.1 h62 rfl rfl rfl rfl rfl (LWo.nil ⟨rfl, .inl rfl, hg⟩), ?_⟩
                      refine ⟨rfl, .put 107 _, trivial, fun u hg hu hh => LWo.guardNU (t := 92) hu.2.1 h62 rfl rfl rfl rfl rfl (LWo.nil ⟨rfl, .inl rfl, hg⟩), ?_⟩
                      refine ⟨rfl, .put 108 _, trivial, fun u hg hu hh => LWo.guardNU (t := 92) hu.2.1 h62 rfl rfl rfl rfl rfl (LWo.nil ⟨rfl, .inl rfl, hg⟩), ?_⟩
                      refine ⟨rfl, .put 109 _, trivial, fun u hg hu hh => LWo.guardNU (t := 92) hu.1 h62 rfl rfl rfl rfl rfl (LWo.nil ⟨rfl, .inl rfl, hg⟩), ?_⟩
                      refine ⟨rfl, .put 110 _, trivial, fun u hg hu hh => LWo.guardNU (t := 92) hu.1 h62 rfl rfl rfl rfl rfl (LWo.nil ⟨rfl, .inl rfl, hg⟩), ?_⟩
                      refine ⟨rfl, .put 111 _, trivial, fun u hg hu hh => LWo.guardNU (t := 92) hu.1 h62 rfl rfl rfl rfl rfl (LWo.nil ⟨rfl, .inl rfl, hg⟩), ?_⟩
                      refine ⟨rfl, .put 112 _, trivial, fun u hg hu hh => LWo.guardNU (t := 92) hu.1 h62 rfl rfl rfl rfl rfl (LWo.nil ⟨rfl, .inl rfl, hg⟩), ?_⟩
                      refine ⟨rfl, .put 113 _, trivial, fun u hg hu hh => LWo.guardNU (t := 92) hu.1 h62 rfl rfl rfl rfl rfl (LWo.nil ⟨rfl, .inl rfl, hg⟩), ?_⟩
                      refine ⟨rfl, .put 114 _, trivial, fun u hg hu hh => LWo.guardNU (t := 92) hu.1 h62 rfl rfl rfl rfl rfl (LWo.nil ⟨rfl, .inl rfl, hg⟩), ?_⟩
                      refine ⟨rfl, .put 115 _, trivial, fun u hg hu hh => LWo.guardY (t := 89) hu.1 h61 rfl rfl (LWo.pickTM (e_bool true) hu.2.1 h62 rfl (hn := LWo.nil ⟨rfl, .inl rfl, hg⟩)), ?_⟩
                      refine ⟨rfl, .put 116 _, trivial, fun u hg hu hh => LWo.pickTM (e_bool true) hu.1 h61 hu.2.1 (hn := LWo.nil ⟨rfl, .inl rfl, hg⟩), ?_⟩
                      refine ⟨rfl, by kernel_rfl, hN57 (t0, t5, t8, t9, true, o1010, o1013) _ ⟨rfl, rfl, rfl, rfl, rfl, rfl, rfl, trivial⟩ ⟨rfl, rfl, trivial⟩ h⟩
                    · have h := bF h62 h
                      refine bk h fun x63 e63 h => ?_
                      refine bk h fun x64 e64 h => ?_
                      refine bk h fun x65 e65 h => ?_
                      refine bk h fun x66 e66 h => ?_
                      refine bk h fun x67 e67 h => ?_
                      refine bk h fun x68 e68 h => ?_
                      refine bk h fun x69 e69 h => ?_
                      refine bk h fun x70 e70 h => ?_
                      refine bk h fun x71 e71 h => ?_
                      refine LWP.drawE (l := [_,_,_,_,_,_,_,_,_,_,_,_,_,_,_,_,_,_,_,_,_,_,_,_,_,_,_,_,_,_,_,_,_,_,_,_,_,_]) [] [0, 3, 4, 5, 8, 9] [([4], []), ([9], []), ([79, 80], [1013]), ([81], [1013]), ([0], []), ([9], []), ([83, 84], []), ([85], []), ([86], []), ([82, 87], []), ([88], []), ([8, 89], []), ([89, 90], []), ([89, 91], []), ([0, 92], []), ([9, 92], []), ([92, 93, 94], []), ([92, 95], []), ([4, 92], []), ([9, 92], []), ([92, 97, 98], [1013]), ([92, 99], [1013]), ([92, 96, 100], []), ([92, 101], []), ([0, 92], []), ([8, 92], []), ([92, 103, 104], []), ([92, 105], []), ([4, 92], []), ([8, 92], []), ([92, 107, 108], [1013]), ([92, 109], [1013]), ([92, 106, 110], []), ([92, 111], []), ([92, 102, 112], []), ([92, 113], []), ([89, 92, 114], []), ([89, 115], [])] [0, 3, 4, 5, 8, 9, 116] [1010, 1013] mixed (by kernel_rfl) rfl (by decide) ?_
                      refine ⟨rfl, .put 79 _, trivial, fun u hg hu hh => LWo.move (.own 1013 0 (o1013).length) hu.1 (hn := LWo.nil ⟨rfl, .inl rfl, hg⟩), ?_⟩
                      refine ⟨rfl, .put 80 _, trivial, fun u hg hu hh => LWo.move (e_int t9) hu.1 (hn := LWo.nil ⟨rfl, .inl rfl, hg⟩), ?_⟩
                      refine ⟨rfl, .put 81 _, trivial, fun u hg hu hh => LWo.indexO e58 rfl u_Lint s_int hu.1 hu.2.1 hh.1 (hn := LWo.nil ⟨rfl, .inl rfl, hg⟩), ?_⟩
                      refine ⟨rfl, .put 82 _, trivial, fun u hg hu hh => LWo.loadO1 (e_int x59) e59 g_int hu.1 hh.1 rfl (hn := LWo.nil ⟨rfl, .inl rfl, hg⟩), ?_⟩
                      refine ⟨rfl, .put 83 _, trivial, fun u hg hu hh => LWo.move (e_LLLimpl_Value t0) hu.1 (hn := LWo.nil ⟨rfl, .inl rfl, hg⟩), ?_⟩
                      refine ⟨rfl, .put 84 _, trivial, fun u hg hu hh => LWo.move (e_int t9) hu.1 (hn := LWo.nil ⟨rfl, .inl rfl, hg⟩), ?_⟩
                      refine ⟨rfl, .put 85 _, trivial, fun u hg hu hh => LWo.indexM (f := e_LLimpl_Value) e60 u_LLLimpl_Value s_LLimpl_Value hu.1 hu.2.1 (hn := LWo.nil ⟨rfl, .inl rfl, hg⟩), ?_⟩
                      refine ⟨rfl, .put 86 _, trivial, fun u hg hu hh => LWo.load1 (c := (e_LLimpl_Value x60)) g_LLimpl_Value hu.1 (hn := LWo.nil ⟨rfl, .inl rfl, hg⟩), ?_⟩
                      refine ⟨rfl, .put 87 _, trivial, fun u hg hu hh => LWo.lenM (f := e_Limpl_Value) (l := x60) u_LLimpl_Value hu.1 (hn := LWo.nil ⟨rfl, .inl rfl, hg⟩), ?_⟩
                      refine ⟨rfl, .put 88 _, trivial, fun u hg hu hh => LWo.int _ hu.1 hu.2.1 rfl (hn := LWo.nil ⟨rfl, .inl rfl, hg⟩), ?_⟩
                      refine ⟨rfl, .put 89 _, trivial, fun u hg hu hh => LWo.move (e_bool (decide (x59 < (x60.length : Int)))) hu.1 (hn := LWo.nil ⟨rfl, .inl rfl, hg⟩), ?_⟩
                      refine ⟨rfl, .put 90 _, trivial, fun u hg hu hh => LWo.guardY (t := 89) hu.2.1 h61 rfl rfl (LWo.move (e_int t8) hu.1 (hn := LWo.nil ⟨rfl, .inl rfl, hg⟩)), ?_⟩
                      refine ⟨rfl, .put 91 _, trivial, fun u hg hu hh => LWo.guardY (t := 89) hu.1 h61 rfl rfl (LWo.int _ hu.2.1 rfl rfl (hn := LWo.nil ⟨rfl, .inl rfl, hg⟩)), ?_⟩
                      refine ⟨rfl, .put 92 _, trivial, fun u hg hu hh => LWo.guardY (t := 89) hu.1 h61 rfl rfl (LWo.move (e_bool (decide (t8 < (0 : Int)))) hu.2.1 (hn := LWo.nil ⟨rfl, .inl rfl, hg⟩)), ?_⟩
                      refine ⟨rfl, .put 93 _, trivial, fun u hg hu hh => LWo.guardY (t := 92) hu.2.1 h62 rfl rfl (LWo.move (e_LLLimpl_Value t0) hu.1 (hn := LWo.nil ⟨rfl, .inl rfl, hg⟩)), ?_⟩
                      refine ⟨rfl, .put 94 _, trivial, fun u hg hu hh => LWo.guardY (t := 92) hu.2.1 h62 rfl rfl (LWo.move (e_int t9) hu.1 (hn := LWo.nil ⟨rfl, .inl rfl, hg⟩)), ?_⟩
                      refine ⟨rfl, .put 95 _, trivial, fun u hg hu hh => LWo.guardY (t := 92) hu.1 h62 rfl rfl (LWo.indexM (f := e_LLimpl_Value) e63 u_LLLimpl_Value s_LLimpl_Value hu.2.1 hu.2.2.1 (hn := LWo.nil ⟨rfl, .inl rfl, hg⟩)), ?_⟩
                      refine ⟨rfl, .put 96 _, trivial, fun u hg hu hh => LWo.guardY (t := 92) hu.1 h62 rfl rfl (LWo.load1 (c := (e_LLimpl_Value x63)) g_LLimpl_Value hu.2.1 (hn := LWo.nil ⟨rfl, .inl rfl, hg⟩)), ?_⟩
                      refine ⟨rfl, .put 97 _, trivial, fun u hg hu hh => LWo.guardY (t := 92) hu.2.1 h62 rfl rfl (LWo.move (.own 1013 0 (o1013).length) hu.1 (hn := LWo.nil ⟨rfl, .inl rfl, hg⟩)), ?_⟩
                      refine ⟨rfl, .put 98 _, trivial, fun u hg hu hh => LWo.guardY (t := 92) hu.2.1 h62 rfl rfl (LWo.move (e_int t9) hu.1 (hn := LWo.nil ⟨rfl, .inl rfl, hg⟩)), ?_⟩
                      refine ⟨rfl, .put 99 _, trivial, fun u hg hu hh => LWo.guardY (t := 92) hu.1 h62 rfl rfl (LWo.indexO e64 rfl u_Lint s_int hu.2.1 hu.2.2.1 hh.1 (hn := LWo.nil ⟨rfl, .inl rfl, hg⟩)), ?_⟩
                      refine ⟨rfl, .put 100 _, trivial, fun u hg hu hh => LWo.guardY (t := 92) hu.1 h62 rfl rfl (LWo.loadO1 (e_int x65) e65 g_int hu.2.1 hh.1 rfl (hn := LWo.nil ⟨rfl, .inl rfl, hg⟩)), ?_⟩
                      refine ⟨rfl, .put 101 _, trivial, fun u hg hu hh => LWo.guardY (t := 92) hu.1 h62 rfl rfl (LWo.indexM (f := e_Limpl_Value) e66 u_LLimpl_Value s_Limpl_Value hu.2.1 hu.2.2.1 (hn := LWo.nil ⟨rfl, .inl rfl, hg⟩)), ?_⟩
                      refine ⟨rfl, .put 102 _, trivial, fun u hg hu hh => LWo.guardY (t := 92) hu.1 h62 rfl rfl (LWo.load1 (c := (e_Limpl_Value x66)) g_Limpl_Value hu.2.1 (hn := LWo.nil ⟨rfl, .inl rfl, hg⟩)), ?_⟩
                      refine ⟨rfl, .put 103 _, trivial, fun u hg hu hh => LWo.guardY (t := 92) hu.2.1 h62 rfl rfl (LWo.move (e_LLLimpl_Value t0) hu.1 (hn := LWo.nil ⟨rfl, .inl rfl, hg⟩)), ?_⟩
                      refine ⟨rfl, .put 104 _, trivial, fun u hg hu hh => LWo.guardY (t := 92) hu.2.1 h62 rfl rfl (LWo.move (e_int t8) hu.1 (hn := LWo.nil ⟨rfl, .inl rfl, hg⟩)), ?_⟩
                      refine ⟨rfl, .put 105 _, trivial, fun u hg hu hh => LWo.guardY (t := 92) hu.1 h62 rfl rfl (LWo.indexM (f := e_LLimpl_Value) e67 u_LLLimpl_Value s_LLimpl_Value hu.2.1 hu.2.2.1 (hn := LWo.nil ⟨rfl, .inl rfl, hg⟩)), ?_⟩
                      refine ⟨rfl, .put 106 _, trivial, fun u hg hu hh => LWo.guardY (t := 92) hu.1 h62 rfl rfl (LWo.load1 (c := (e_LLimpl_Value x67)) g_LLimpl_Value hu.2.1 (hn := LWo.nil ⟨rfl, .inl rfl, hg⟩)), ?_⟩
                      refine ⟨rfl, .put 107 _, trivial, fun u hg hu hh => LWo.guardY (t := 92) hu.2.1 h62 rfl rfl (LWo.move (.own 1013 0 (o1013).length) hu.1 (hn := LWo.nil ⟨rfl, .inl rfl, hg⟩)), ?_⟩
                      refine ⟨rfl, .put 108 _, trivial, fun u hg hu hh => LWo.guardY (t := 92) hu.2.1 h62 rfl rfl (LWo.move (e_int t8) hu.1 (hn := LWo.nil ⟨rfl, .inl rfl, hg⟩)), ?_⟩
                      refine ⟨rfl, .put 109 _, trivial, fun u hg hu hh => LWo.guardY (t := 92) hu.1 h62 rfl rfl (LWo.indexO e68 rfl u_Lint s_int hu.2.1 hu.2.2.1 hh.1 (hn := LWo.nil ⟨rfl, .inl rfl, hg⟩)), ?_⟩
                      refine ⟨rfl, .put 110 _, trivial, fun u hg hu hh => LWo.guardY (t := 92) hu.1 h62 rfl rfl (LWo.loadO1 (e_int x69) e69 g_int hu.2.1 hh.1 rfl (hn := LWo.nil ⟨rfl, .inl rfl, hg⟩)), ?_⟩
                      refine ⟨rfl, .put 111 _, trivial, fun u hg hu hh => LWo.guardY (t := 92) hu.1 h62 rfl rfl (LWo.indexM (f := e_Limpl_Value) e70 u_LLimpl_Value s_Limpl_Value hu.2.1 hu.2.2.1 (hn := LWo.nil ⟨rfl, .inl rfl, hg⟩)), ?_⟩
                      refine ⟨rfl, .put 112 _, trivial, fun u hg hu hh => LWo.guardY (t := 92) hu.1 h62 rfl rfl (LWo.load1 (c := (e_Limpl_Value x70)) g_Limpl_Value hu.2.1 (hn := LWo.nil ⟨rfl, .inl rfl, hg⟩)), ?_⟩
                      refine ⟨rfl, .put 113 _, trivial, fun u hg hu hh => LWo.guardY (t := 92) hu.1 h62 rfl rfl (LWo.vcall rfl (av2 hu.2.1 hu.2.2.1) (c_spec_RowOrder _ _ _ e71) (.same (.same (.nil))) (hn := LWo.nil ⟨rfl, .inl rfl, hg⟩)), ?_⟩
                      refine ⟨rfl, .put 114 _, trivial, fun u hg hu hh => LWo.guardY (t := 92) hu.1 h62 rfl rfl (LWo.int _ hu.2.1 rfl rfl (hn := LWo.nil ⟨rfl, .inl rfl, hg⟩)), ?_⟩
                      refine ⟨rfl, .put 115 _, trivial, fun u hg hu hh => LWo.guardY (t := 89) hu.1 h61 rfl rfl (LWo.pickFM (e_bool (decide (x71 < (0 : Int)))) hu.2.1 h62 hu.2.2.1 (hn := LWo.nil ⟨rfl, .inl rfl, hg⟩)), ?_⟩
                      refine ⟨rfl, .put 116 _, trivial, fun u hg hu hh => LWo.pickTM (e_bool (decide (x71 < (0 : Int)))) hu.1 h61 hu.2.1 (hn := LWo.nil ⟨rfl, .inl rfl, hg⟩), ?_⟩
                      refine ⟨rfl, by kernel_rfl, hN57 (t0, t5, t8, t9, decide (x71 < (0 : Int)), o1010, o1013) _ ⟨rfl, rfl, rfl, rfl, rfl, rfl, rfl, trivial⟩ ⟨rfl, rfl, trivial⟩ h⟩
                  · have h := bF h61 h
                    refine LWP.drawE (l := [_,_,_,_,_,_,_,_,_,_,_,_,_,_,_,_,_,_,_,_,_,_,_,_,_,_,_,_,_,_,_,_,_,_,_,_,_,_]) [] [0, 3, 4, 5, 8, 9] [([4], []), ([9], []), ([79, 80], [1013]), ([81], [1013]), ([0], []), ([9], []), ([83, 84], []), ([85], []), ([86], []), ([82, 87], []), ([88], []), ([8, 89], []), ([89, 90], []), ([89, 91], []), ([0, 92], []), ([9, 92], []), ([92, 93, 94], []), ([92, 95], []), ([4, 92], []), ([9, 92], []), ([92, 97, 98], []), ([92, 99], []), ([92, 96, 100], []), ([92, 101], []), ([0, 92], []), ([8, 92], []), ([92, 103, 104], []), ([92, 105], []), ([4, 92], []), ([8, 92], []), ([92, 107, 108], []), ([92, 109], []), ([92, 106, 110], []), ([92, 111], []), ([92, 102, 112], []), ([92, 113], []), ([89, 92, 114], []), ([89, 115], [])] [0, 3, 4, 5, 8, 9, 116] [1010, 1013] mixed (by kernel_rfl) rfl (by decide) ?_
                    refine ⟨rfl, .put 79 _, trivial, fun u hg hu hh => LWo.move (.own 1013 0 (o1013).length) hu.1 (hn := LWo.nil ⟨rfl, .inl rfl, hg⟩), ?_⟩
                    refine ⟨rfl, .put 80 _, trivial, fun u hg hu hh => LWo.move (e_int t9) hu.1 (hn := LWo.nil ⟨rfl, .inl rfl, hg⟩), ?_⟩
                    refine ⟨rfl, .put 81 _, trivial, fun u hg hu hh => LWo.indexO e58 rfl u_Lint s_int hu.1 hu.2.1 hh.1 (hn := LWo.nil ⟨rfl, .inl rfl, hg⟩), ?_⟩
                    refine ⟨rfl, .put 82 _, trivial, fun u hg hu hh => LWo.loadO1 (e_int x59) e59 g_int hu.1 hh.1 rfl (hn := LWo.nil ⟨rfl, .inl rfl, hg⟩), ?_⟩
                    refine ⟨rfl, .put 83 _, trivial, fun u hg hu hh => LWo.move (e_LLLimpl_Value t0) hu.1 (hn := LWo.nil ⟨rfl, .inl rfl, hg⟩), ?_⟩
                    refine ⟨rfl, .put 84 _, trivial, fun u hg hu hh => LWo.move (e_int t9) hu.1 (hn := LWo.nil ⟨rfl, .inl rfl, hg⟩), ?_⟩
                    refine ⟨rfl, .put 85 _, trivial, fun u hg hu hh => LWo.indexM (f := e_LLimpl_Value) e60 u_LLLimpl_Value s_LLimpl_Value hu.1 hu.2.1 (hn := LWo.nil ⟨rfl, .inl rfl, hg⟩), ?_⟩
                    refine ⟨rfl, .put 86 _, trivial, fun u hg hu hh => LWo.load1 (c := (e_LLimpl_Value x60)) g_LLimpl_Value hu.1 (hn := LWo.nil ⟨rfl, .inl rfl, hg⟩), ?_⟩
                    refine ⟨rfl, .put 87 _, trivial, fun u hg hu hh => LWo.lenM (f := e_Limpl_Value) (l := x60) u_LLimpl_Value hu.1 (hn := LWo.nil ⟨rfl, .inl rfl, hg⟩), ?_⟩
                    refine ⟨rfl, .put 88 _, trivial, fun u hg hu hh => LWo.int _ hu.1 hu.2.1 rfl (hn := LWo.nil ⟨rfl, .inl rfl, hg⟩), ?_⟩
                    refine ⟨rfl, .put 89 _, trivial, fun u hg hu hh => LWo.move (e_bool (decide (x59 < (x60.length : Int)))) hu.1 (hn := LWo.nil ⟨rfl, .inl rfl, hg⟩), ?_⟩
                    refine ⟨rfl, .put 90 _, trivial, fun u hg hu hh => LWo.guardNU (t := 89) hu.2.1 h61 rfl rfl rfl rfl rfl (LWo.nil ⟨rfl, .inl rfl, hg⟩), ?_⟩
                    refine ⟨rfl, .put 91 _, trivial, fun u hg hu hh => LWo.guardNU (t := 89) hu.1 h61 rfl rfl rfl rfl rfl (LWo.nil ⟨rfl, .inl rfl, hg⟩), ?_⟩
                    refine ⟨rfl, .put 92 _, trivial, fun u hg hu hh => LWo.guardNU (t := 89) hu.1 h61 rfl rfl rfl rfl rfl (LWo.nil ⟨rfl, .inl rfl, hg⟩), ?_⟩
                    refine ⟨rfl, .put 93 _, trivial, fun u hg hu hh => LWo.guardU (t := 92) hu.2.1 rfl rfl rfl rfl (LWo.nil ⟨rfl, .inl rfl, hg⟩), ?_⟩
                    refine ⟨rfl, .put 94 _, trivial, fun u hg hu hh => LWo.guardU (t := 92) hu.2.1 rfl rfl rfl rfl (LWo.nil ⟨rfl, .inl rfl, hg⟩), ?_⟩
                    refine ⟨rfl, .put 95 _, trivial, fun u hg hu hh => LWo.guardU (t := 92) hu.1 rfl rfl rfl rfl (LWo.nil ⟨rfl, .inl rfl, hg⟩), ?_⟩
                    refine ⟨rfl, .put 96 _, trivial, fun u hg hu hh => LWo.guardU (t := 92) hu.1 rfl rfl rfl rfl (LWo.nil ⟨rfl, .inl rfl, hg⟩), ?_⟩
                    refine ⟨rfl, .put 97 _, trivial, fun u hg hu hh => LWo.guardU (t := 92) hu.2.1 rfl rfl rfl rfl (LWo.nil ⟨rfl, .inl rfl, hg⟩), ?_⟩
                    refine ⟨rfl, .put 98 _, trivial, fun u hg hu hh => LWo.guardU (t := 92) hu.2.1 rfl rfl rfl rfl (LWo.nil ⟨rfl, .inl rfl, hg⟩), ?_⟩
                    refine ⟨rfl, .put 99 _, trivial, fun u hg hu hh => LWo.guardU (t := 92) hu.1 rfl rfl rfl rfl (LWo.nil ⟨rfl, .inl rfl, hg⟩), ?_⟩
                    refine ⟨rfl, .put 100 _, trivial, fun u hg hu hh => LWo.guardU (t := 92) hu.1 rfl rfl rfl rfl (LWo.nil ⟨rfl, .inl rfl, hg⟩), ?_⟩
                    refine ⟨rfl, .put 101 _, trivial, fun u hg hu hh => LWo.guardU (t := 92) hu.1 rfl rfl rfl rfl (LWo.nil ⟨rfl, .inl rfl, hg⟩), ?_⟩
                    refine ⟨rfl, .put 102 _, trivial, fun u hg hu hh => LWo.guardU (t := 92) hu.1 rfl rfl rfl rfl (LWo.nil ⟨rfl, .inl rfl, hg⟩), ?_⟩
                    refine ⟨rfl, .put 103 _, trivial, fun u hg hu hh => LWo.guardU (t := 92) hu.2.1 rfl rfl rfl rfl (LWo.nil ⟨rfl, .inl rfl, hg⟩), ?_⟩
                    refine ⟨rfl, .put 104 _, trivial, fun u hg hu hh => LWo.guardU (t := 92) hu.2.1 rfl rfl rfl rfl (LWo.nil ⟨rfl, .inl rfl, hg⟩), ?_⟩
                    refine ⟨rfl, .put 105 _, trivial, fun u hg hu hh => LWo.guardU (t := 92) hu.1 rfl rfl rfl rfl (LWo.nil ⟨rfl, .inl rfl, hg⟩), ?_⟩
                    refine ⟨rfl, .put 106 _, trivial, fun u hg hu hh => LWo.guardU (t := 92) hu.1 rfl rfl rfl rfl (LWo.nil ⟨rfl, .inl rfl, hg⟩), ?_⟩
                    refine ⟨rfl, .put 107 _, trivial, fun u hg hu hh => LWo.guardU (t := 92) hu.2.1 rfl rfl rfl rfl (LWo.nil ⟨rfl, .inl rfl, hg⟩), ?_⟩
                    refine ⟨rfl, .put 108 _, trivial, fun u hg hu hh => LWo.guardU (t := 92) hu.2.1 rfl rfl rfl rfl (LWo.nil ⟨rfl, .inl rfl, hg⟩), ?_⟩
                    refine ⟨rfl, .put 109 _, trivial, fun u hg hu hh => LWo.guardU (t := 92) hu.1 rfl rfl rfl rfl (LWo.nil ⟨rfl, .inl rfl, hg⟩), ?_⟩
                    refine ⟨rfl, .put 110 _, trivial, fun u hg hu hh => LWo.guardU (t := 92) hu.1 rfl rfl rfl rfl (LWo.nil ⟨rfl, .inl rfl, hg⟩), ?_⟩
                    refine ⟨rfl, .put 111 _, trivial, fun u hg hu hh => LWo.guardU (t := 92) hu.1 rfl rfl rfl rfl (LWo.nil ⟨rfl, .inl rfl, hg⟩), ?_⟩
                    refine ⟨rfl, .put 112 _, trivial, fun u hg hu hh => LWo.guardU (t := 92) hu.1 rfl rfl rfl rfl (LWo.nil ⟨rfl, .inl rfl, hg⟩), ?_⟩
                    refine ⟨rfl, .put 113 _, trivial, fun u hg hu hh => LWo.guardU (t := 92) hu.1 rfl rfl rfl rfl (LWo.nil ⟨rfl, .inl rfl, hg⟩), ?_⟩
                    refine ⟨rfl, .put 114 _, trivial, fun u hg hu hh => LWo.guardU (t := 92) hu.1 rfl rfl rfl rfl (LWo.nil ⟨rfl, .inl rfl, hg⟩), ?_⟩
                    refine ⟨rfl, .put 115 _, trivial, fun u hg hu hh => LWo.guardNU (t := 89) hu.1 h61 rfl rfl rfl rfl rfl (LWo.nil ⟨rfl, .inl rfl, hg⟩), ?_⟩
                    refine ⟨rfl, .put 116 _, trivial, fun u hg hu hh => LWo.pickFM (e_bool false) hu.1 h61 rfl (hn := LWo.nil ⟨rfl, .inl rfl, hg⟩), ?_⟩
                    refine ⟨rfl, by kernel_rfl, hN57 (t0, t5, t8, t9, false, o1010, o1013) _ ⟨rfl, rfl, rfl, rfl, rfl, rfl, rfl, trivial⟩ ⟨rfl, rfl, trivial⟩ h⟩
            · have h := bF h55 h
              refine LWP.exit (hN49 (t0, t5, t8, o1010, o1013) _ ⟨rfl, rfl, rfl, rfl, rfl, trivial⟩ ⟨rfl, rfl, trivial⟩ h)
      · have h := bF h46 h
        refine LWP.exit (hN41 o1010 _ ⟨rfl, trivial⟩ ⟨rfl, trivial⟩ h)
  · intro N6 hN6
    refine LWP.seq_k fun N7 hN7 => ?_
    refine LWP.region (l := [_]) ?_
    refine LWo.assign (e_int (0 : Int)) rfl (hn := ?_)
    refine LWo.nil (hN7 _ ?_)
    refine LWP.block ?_
    refine LWP.loopM (α := (List (List (List S_impl_Value))) × Int × Int × (List (List S_impl_Value)) × (List Int)) (fun z : (List (List (List S_impl_Value))) × Int × Int × (List (List S_impl_Value)) × (List Int) => [(0, (e_LLLimpl_Value z.1)), (3, (.own 1010 0 (z.2.2.2.1).length)), (4, (.own 1013 0 (z.2.2.2.2).length)), (5, (e_int z.2.1)), (6, (e_int z.2.2.1))]) (fun z : (List (List (List S_impl_Value))) × Int × Int × (List (List S_impl_Value)) × (List Int) => [(1010, (lob 1 e_Limpl_Value z.2.2.2.1)), (1013, (lob 1 e_int z.2.2.2.2))]) (fun n1 (z : (List (List (List S_impl_Value))) × Int × Int × (List (List S_impl_Value)) × (List Int)) => m_spec_RunsMerged_l1  n1 z.1 z.2.1 z.2.2.1 z.2.2.2.1 z.2.2.2.2) r _ (a0, (0 : Int), (0 : Int), ([] : (List (List S_impl_Value))), x4) h (fun _ => rfl) (fun _ => by simp [hkeys]) ⟨rfl, rfl, rfl, rfl, rfl, trivial⟩ ⟨rfl, rfl, trivial⟩ ?_
    rintro n1 ⟨t0, t5, t6, o1010, o1013⟩ h N8 hN8
    replace h : m_spec_RunsMerged_l1  (n1 + 1) t0 t5 t6 o1010 o1013 = some _ := h
    refine LWP.seq_k fun N10 hN10 => ?_
    refine LWP.seq_k fun N11 hN11 => ?_
    refine LWP.region (l := [_,_,_,_]) ?_
    refine LWo.move (e_int t6) rfl (hn := ?_)
    refine LWo.move (e_LLLimpl_Value t0) rfl (hn := ?_)
    refine LWo.lenM (f := e_LLimpl_Value) (l := t0) u_LLLimpl_Value rfl (hn := ?_)
    refine LWo.int _ rfl rfl rfl (hn := ?_)
    refine LWo.nil (hN11 _ ?_)
    refine LWP.cond_split rfl (fun h12 => ?_) (fun h12 => ?_)
    · have h := bT h12 h
      refine LWP.skip (hN10 _ ?_)
      refine LWP.join (α := (List (List (List S_impl_Value))) × Int × Int × (List (List S_impl_Value)) × (List Int)) (fun z : (List (List (List S_impl_Value))) × Int × Int × (List (List S_impl_Value)) × (List Int) => [(0, (e_LLLimpl_Value z.1)), (3, (.own 1010 0 (z.2.2.2.1).length)), (4, (.own 1013 0 (z.2.2.2.2).length)), (5, (e_int z.2.1)), (6, (e_int z.2.2.1))]) (fun z : (List (List (List S_impl_Value))) × Int × Int × (List (List S_impl_Value)) × (List Int) => [(1010, (lob 1 e_Limpl_Value z.2.2.2.1)), (1013, (lob 1 e_int z.2.2.2.2))]) (fun z : (List (List (List S_impl_Value))) × Int × Int × (List (List S_impl_Value)) × (List Int) => m_spec_RunsMerged_j3  (m_spec_RunsMerged_l1  n1) z.1 z.2.1 z.2.2.1 z.2.2.2.1 z.2.2.2.2) r (fun _ => by simp [hkeys]) ?_ ?_
      · rintro ⟨t0, t5, t6, o1010, o1013⟩ h
        replace h : m_spec_RunsMerged_j3  (m_spec_RunsMerged_l1  n1) t0 t5 t6 o1010 o1013 = some _ := h
        refine LWP.region (l := [_,_,_]) ?_
        refine LWo.move (e_int t6) rfl (hn := ?_)
        refine bk h fun x40 e40 h => ?_
        refine LWo.int _ rfl rfl (add_ck e40) (hn := ?_)
        refine LWo.assign (e_int x40) rfl (hn := ?_)
        refine LWo.nil (hN8 (t0, t5, x40, o1010, o1013) _ ⟨rfl, rfl, rfl, rfl, rfl, trivial⟩ ⟨rfl, rfl, trivial⟩ h)
      · intro N13 hN13
        refine LWP.block ?_
        refine LWP.join (α := (List (List (List S_impl_Value))) × Int × Int × (List (List S_impl_Value)) × (List Int)) (fun z : (List (List (List S_impl_Value))) × Int × Int × (List (List S_impl_Value)) × (List Int) => [(0, (e_LLLimpl_Value z.1)), (3, (.own 1010 0 (z.2.2.2.1).length)), (4, (.own 1013 0 (z.2.2.2.2).length)), (5, (e_int z.2.1)), (6, (e_int z.2.2.1))]) (fun z : (List (List (List S_impl_Value))) × Int × Int × (List (List S_impl_Value)) × (List Int) => [(1010, (lob 1 e_Limpl_Value z.2.2.2.1)), (1013, (lob 1 e_int z.2.2.2.2))]) (fun z : (List (List (List S_impl_Value))) × Int × Int × (List (List S_impl_Value)) × (List Int) => m_spec_RunsMerged_j2  (m_spec_RunsMerged_l1  n1) z.1 z.2.1 z.2.2.1 z.2.2.2.1 z.2.2.2.2) r (fun _ => by simp [hkeys]) ?_ ?_
        · rintro ⟨t0, t5, t6, o1010, o1013⟩ h
          replace h : m_spec_RunsMerged_j2  (m_spec_RunsMerged_l1  n1) t0 t5 t6 o1010 o1013 = some _ := h
          refine LWP.region (l := [_,_,_,_,_,_,_,_]) ?_
          refine LWo.move (e_int t5) rfl (hn := ?_)
          refine LWo.move (e_LLLimpl_Value t0) rfl (hn := ?_)
          refine LWo.move (e_int t6) rfl (hn := ?_)
          refine bk h fun x38 e38 h => ?_
          refine LWo.indexM (f := e_LLimpl_Value) e38 u_LLLimpl_Value s_LLimpl_Value rfl rfl (hn := ?_)
          refine LWo.load1 (c := (e_LLimpl_Value x38)) g_LLimpl_Value rfl (hn := ?_)
          refine LWo.lenM (f := e_Limpl_Value) (l := x38) u_LLimpl_Value rfl (hn := ?_)
          refine bk h fun x39 e39 h => ?_
          refine LWo.int _ rfl rfl (add_ck e39) (hn := ?_)
          refine LWo.assign (e_int x39) rfl (hn := ?_)
          refine LWo.nil (hN13 (t0, x39, t6, o1010, o1013) _ ⟨rfl, rfl, rfl, rfl, rfl, trivial⟩ ⟨rfl, rfl, trivial⟩ h)
        · intro N14 hN14
          refine LWP.seq_k fun N15 hN15 => ?_
          refine LWP.region (l := [_]) ?_
          refine LWo.assign (e_int (0 : Int)) rfl (hn := ?_)
          refine LWo.nil (hN15 _ ?_)
          refine LWP.block ?_
          refine LWP.loopM (α := (List (List (List S_impl_Value))) × Int × Int × Int × (List (List S_impl_Value)) × (List Int)) (fun z : (List (List (List S_impl_Value))) × Int × Int × Int × (List (List S_impl_Value)) × (List Int) => [(0, (e_LLLimpl_Value z.1)), (3, (.own 1010 0 (z.2.2.2.2.1).length)), (4, (.own 1013 0 (z.2.2.2.2.2).length)), (5, (e_int z.2.1)), (6, (e_int z.2.2.1)), (7, (e_int z.2.2.2.1))]) (fun z : (List (List (List S_impl_Value))) × Int × Int × Int × (List (List S_impl_Value)) × (List Int) => [(1010, (lob 1 e_Limpl_Value z.2.2.2.2.1)), (1013, (lob 1 e_int z.2.2.2.2.2))]) (fun n2 (z : (List (List (List S_impl_Value))) × Int × Int × Int × (List (List S_impl_Value)) × (List Int)) => m_spec_RunsMerged_l2  (m_spec_RunsMerged_l1  n1) n2 z.1 z.2.1 z.2.2.1 z.2.2.2.1 z.2.2.2.2.1 z.2.2.2.2.2) r _ (t0, t5, t6, (0 : Int), o1010, o1013) h (fun _ => rfl) (fun _ => by simp [hkeys]) ⟨rfl, rfl, rfl, rfl, rfl, rfl, trivial⟩ ⟨rfl, rfl, trivial⟩ ?_
          rintro n2 ⟨t0, t5, t6, t7, o1010, o1013⟩ h N16 hN16
          replace h : m_spec_RunsMerged_l2  (m_spec_RunsMerged_l1  n1) (n2 + 1) t0 t5 t6 t7 o1010 o1013 = some _ := h
          refine LWP.seq_k fun N18 hN18 => ?_
          refine LWP.seq_k fun N19 hN19 => ?_
          refine LWP.region (l := [_,_,_,_,_,_,_]) ?_
          refine LWo.move (e_int t7) rfl (hn := ?_)
          refine LWo.move (e_LLLimpl_Value t0) rfl (hn := ?_)
          refine LWo.move (e_int t6) rfl (hn := ?_)
          refine bk h fun x20 e20 h => ?_
          refine LWo.indexM (f := e_LLimpl_Value) e20 u_LLLimpl_Value s_LLimpl_Value rfl rfl (hn := ?_)
          refine LWo.load1 (c := (e_LLimpl_Value x20)) g_LLimpl_Value rfl (hn := ?_)
          refine LWo.lenM (f := e_Limpl_Value) (l := x20) u_LLimpl_Value rfl (hn := ?_)
          refine LWo.int _ rfl rfl rfl (hn := ?_)
          refine LWo.nil (hN19 _ ?_)
          refine LWP.cond_split rfl (fun h21 => ?_) (fun h21 => ?_)
          · have h := bT h21 h
            refine LWP.skip (hN18 _ ?_)
            refine LWP.seq_k fun N22 hN22 => ?_
            refine LWP.block ?_
            refine LWP.join (α := (List (List (List S_impl_Value))) × Int × Int × Int × Bool × (List (List S_impl_Value)) × (List Int)) (fun z : (List (List (List S_impl_Value))) × Int × Int × Int × Bool × (List (List S_impl_Value)) × (List Int) => [(0, (e_LLLimpl_Value z.1)), (3, (.own 1010 0 (z.2.2.2.2.2.1).length)), (4, (.own 1013 0 (z.2.2.2.2.2.2).length)), (5, (e_int z.2.1)), (6, (e_int z.2.2.1)), (7, (e_int z.2.2.2.1)), (60, (e_bool z.2.2.2.2.1))]) (fun z : (List (List (List S_impl_Value))) × Int × Int × Int × Bool × (List (List S_impl_Value)) × (List Int) => [(1010, (lob 1 e_Limpl_Value z.2.2.2.2.2.1)), (1013, (lob 1 e_int z.2.2.2.2.2.2))]) (fun z : (List (List (List S_impl_Value))) × Int × Int × Int × Bool × (List (List S_impl_Value)) × (List Int) => m_spec_RunsMerged_j1  (m_spec_RunsMerged_l1  n1) (m_spec_RunsMerged_l2  (m_spec_RunsMerged_l1  n1) n2) z.1 z.2.1 z.2.2.1 z.2.2.2.1 z.2.2.2.2.1 z.2.2.2.2.2.1 z.2.2.2.2.2.2) r (fun _ => by simp [hkeys]) ?_ ?_
            · rintro ⟨t0, t5, t6, t7, t60, o1010, o1013⟩ h
              replace h : m_spec_RunsMerged_j1  (m_spec_RunsMerged_l1  n1) (m_spec_RunsMerged_l2  (m_spec_RunsMerged_l1  n1) n2) t0 t5 t6 t7 t60 o1010 o1013 = some _ := h
              refine LWP.cond_split rfl (fun h35 => ?_) (fun h35 => ?_)
              · have h := bT h35 h
                refine LWP.seq_k fun N36 hN36 => ?_
                refine LWP.region (l := [_,_]) ?_
                refine LWo.lit0 1061 u_LLimpl_Value s_Limpl_Value z_Limpl_Value (hn := ?_)
                refine LWo.known 61 (.own 1061 0 ([] : (List (List S_impl_Value))).length) rfl ?_
                refine LWo.assign (.own 1061 0 (([] : (List (List S_impl_Value)))).length) rfl (hn := ?_)
                refine LWo.nil (hN36 _ ?_)
                obtain rfl := Option.some.inj h
                refine LWP.ret (QG.mk (.inr rfl) (.cons (.tmp (x := (.own 1061 0 (([] : (List (List S_impl_Value)))).length)) rfl) (.nil)) (RetOK.one0 (.nwM rfl rfl) (by decide)) rfl rfl)
              · have h := bF h35 h
                refine LWP.skip (hN22 _ ?_)
                refine LWP.region (l := [_,_,_]) ?_
                refine LWo.move (e_int t7) rfl (hn := ?_)
                refine bk h fun x37 e37 h => ?_
                refine LWo.int _ rfl rfl (add_ck e37) (hn := ?_)
                refine LWo.assign (e_int x37) rfl (hn := ?_)
                refine LWo.nil (hN16 (t0, t5, t6, x37, o1010, o1013) _ ⟨rfl, rfl, rfl, rfl, rfl, rfl, trivial⟩ ⟨rfl, rfl, trivial⟩ h)
            · intro N23 hN23
              refine bk h fun x24 e24 h => ?_
              refine bk h fun x25 e25 h => ?_
              refine bk h fun x26 e26 h => ?_
              refine bS ((!x26)) (fun h27 => ?_) (fun h27 => ?_)
              · have h := bT h27 h
                refine LWP.drawE (l := [_,_,_,_,_,_,_,_,_,_,_,_,_,_,_,_,_,_,_,_,_,_,_,_,_,_,_,_,_,_,_,_]) [] [0, 3, 4, 5, 6, 7] [([0], []), ([6], []), ([29, 30], []), ([31], []), ([7], []), ([32, 33], []), ([34], []), ([35], []), ([36], []), ([37], []), ([7, 38], []), ([38, 39], []), ([38, 40], []), ([0, 41], []), ([6, 41], []), ([41, 42, 43], []), ([41, 44], []), ([7, 41], []), ([41, 46], []), ([41, 45, 47], []), ([41, 48], []), ([0, 41], []), ([6, 41], []), ([41, 50, 51], []), ([41, 52], []), ([7, 41], []), ([41, 53, 54], []), ([41, 55], []), ([41, 49, 56], []), ([41, 57], []), ([38, 41, 58], []), ([38, 59], [])] [0, 3, 4, 5, 6, 7, 60] [1010, 1013] mixed (by kernel_rfl) rfl (by decide) ?_
                refine ⟨rfl, .put 29 _, trivial, fun u hg hu hh => LWo.move (e_LLLimpl_Value t0) hu.1 (hn := LWo.nil ⟨rfl, .inl rfl, hg⟩), ?_⟩
                refine ⟨rfl, .put 30 _, trivial, fun u hg hu hh => LWo.move (e_int t6) hu.1 (hn := LWo.nil ⟨rfl, .inl rfl, hg⟩), ?_⟩
                refine ⟨rfl, .put 31 _, trivial, fun u hg hu hh => LWo.indexM (f := e_LLimpl_Value) e24 u_LLLimpl_Value s_LLimpl_Value hu.1 hu.2.1 (hn := LWo.nil ⟨rfl, .inl rfl, hg⟩), ?_⟩
                refine ⟨rfl, .put 32 _, trivial, fun u hg hu hh => LWo.load1 (c := (e_LLimpl_Value x24)) g_LLimpl_Value hu.1 (hn := LWo.nil ⟨rfl, .inl rfl, hg⟩), ?_⟩
                refine ⟨rfl, .put 33 _, trivial, fun u hg hu hh => LWo.move (e_int t7) hu.1 (hn := LWo.nil ⟨rfl, .inl rfl, hg⟩), ?_⟩
                refine ⟨rfl, .put 34 _, trivial, fun u hg hu hh => LWo.indexM (f := e_Limpl_Value) e25 u_LLimpl_Value s_Limpl_Value hu.1 hu.2.1 (hn := LWo.nil ⟨rfl, .inl rfl, hg⟩), ?_⟩
                refine ⟨rfl, .put 35 _, trivial, fun u hg hu hh => LWo.load1 (c := (e_Limpl_Value x25)) g_Limpl_Value hu.1 (hn := LWo.nil ⟨rfl, .inl rfl, hg⟩), ?_⟩
                refine ⟨rfl, .put 36 _, trivial, fun u hg hu hh => LWo.vcall rfl (av1 hu.1) (c_spec_RowOk _ _ e26) (.same (.nil)) (hn := LWo.nil ⟨rfl, .inl rfl, hg⟩), ?_⟩
                refine ⟨rfl, .put 37 _, trivial, fun u hg hu hh => LWo.not hu.1 (hn := LWo.nil ⟨rfl, .inl rfl, hg⟩), ?_⟩
                refine ⟨rfl, .put 38 _, trivial, fun u hg hu hh => LWo.move (e_bool (!x26)) hu.1 (hn := LWo.nil ⟨rfl, .inl rfl, hg⟩), ?_⟩
                refine ⟨rfl, .put 39 _, trivial, fun u hg hu hh => LWo.guardNU (t := 38) hu.2.1 h27 rfl rfl rfl rfl rfl (LWo.nil ⟨rfl, .inl rfl, hg⟩), ?_⟩
                refine ⟨rfl, .put 40 _, trivial, fun u hg hu hh => LWo.guardNU (t := 38) hu.1 h27 rfl rfl rfl rfl rfl (LWo.nil ⟨rfl, .inl rfl, hg⟩), ?_⟩
                refine ⟨rfl, .put 41 _, trivial, fun u hg hu hh => LWo.guardNU (t := 38) hu.1 h27 rfl rfl rfl rfl rfl (LWo.nil ⟨rfl, .inl rfl, hg⟩), ?_⟩
                refine ⟨rfl, .put 42 _, trivial, fun u hg hu hh => LWo.guardU (t := 41) hu.2.1 rfl rfl rfl rfl (LWo.nil ⟨rfl, .inl rfl, hg⟩), ?_⟩
                refine ⟨rfl, .put 43 _, trivial, fun u hg hu hh => LWo.guardU (t := 41) hu.2.1 rfl rfl rfl rfl (LWo.nil ⟨rfl, .inl rfl, hg⟩), ?_⟩
                refine ⟨rfl, .put 44 _, trivial, fun u hg hu hh => LWo.guardU (t := 41) hu.1 rfl rfl rfl rfl (LWo.nil ⟨rfl, .inl rfl, hg⟩), ?_⟩
                refine ⟨rfl, .put 45 _, trivial, fun u hg hu hh => LWo.guardU (t := 41) hu.1 rfl rfl rfl rfl (LWo.nil ⟨rfl, .inl rfl, hg⟩), ?_⟩
                refine ⟨rfl, .put 46 _, trivial, fun u hg hu hh => LWo.guardU (t := 41) hu.2.1 rfl rfl rfl rfl (LWo.nil ⟨rfl, .inl rfl, hg⟩), ?_⟩
                refine ⟨rfl, .put 47 _, trivial, fun u hg hu hh => LWo.guardU (t := 41) hu.1 rfl rfl rfl rfl (LWo.nil ⟨rfl, .inl rfl, hg⟩), ?_⟩
                refine ⟨rfl, .put 48 _, trivial, fun u hg hu hh => LWo.guardU (t := 41) hu.1 rfl rfl rfl rfl (LWo.nil ⟨rfl, .inl rfl, hg⟩), ?_⟩
                refine ⟨rfl, .put 49 _, trivial, fun u hg hu hh => LWo.guardU (t := 41) hu.1 rfl rfl rfl rfl (LWo.nil ⟨rfl, .inl rfl, hg⟩), ?_⟩
                refine ⟨rfl, .put 50 _, trivial, fun u hg hu hh => LWo.guardU (t := 41) hu.2.1 rfl rfl rfl rfl (LWo.nil ⟨rfl, .inl rfl, hg⟩), ?_⟩
                refine ⟨rfl, .put 51 _, trivial, fun u hg hu hh => LWo.guardU (t := 41) hu.2.1 rfl rfl rfl rfl (LWo.nil ⟨rfl, .inl rfl, hg⟩), ?_⟩
                refine ⟨rfl, .put 52 _, trivial, fun u hg hu hh => LWo.guardU (t := 41) hu.1 rfl rfl rfl rfl (LWo.nil ⟨rfl, .inl rfl, hg⟩), ?_⟩
                refine ⟨rfl, .put 53 _, trivial, fun u hg hu hh => LWo.guardU (t := 41) hu.1 rfl rfl rfl rfl (LWo.nil ⟨rfl, .inl rfl, hg⟩), ?_⟩
                refine ⟨rfl, .put 54 _, trivial, fun u hg hu hh => LWo.guardU (t := 41) hu.2.1 rfl rfl rfl rfl (LWo.nil ⟨rfl, .inl rfl, hg⟩), ?_⟩
                refine ⟨rfl, .put 55 _, trivial, fun u hg hu hh => LWo.guardU (t := 41) hu.1 rfl rfl rfl rfl (LWo.nil ⟨rfl, .inl rfl, hg⟩), ?_⟩
                refine ⟨rfl, .put 56 _, trivial, fun u hg hu hh => LWo.guardU (t := 41) hu.1 rfl rfl rfl rfl (LWo.nil ⟨rfl, .inl rfl, hg⟩), ?_⟩
                refine ⟨rfl, .put 57 _, trivial, fun u hg hu hh => LWo.guardU (t := 41) hu.1 rfl rfl rfl rfl (LWo.nil ⟨rfl, .inl rfl, hg⟩), ?_⟩
                refine ⟨rfl, .put 58 _, trivial, fun u hg hu hh => LWo.guardU (t := 41) hu.1 rfl rfl rfl rfl (LWo.nil ⟨rfl, .inl rfl, hg⟩), ?_⟩
                refine ⟨rfl, .put 59 _, trivial, fun u hg hu hh => LWo.guardNU (t := 38) hu.1 h27 rfl rfl rfl rfl rfl (LWo.nil ⟨rfl, .inl rfl, hg⟩), ?_⟩
                refine ⟨rfl, .put 60 _, trivial, fun u hg hu hh => LWo.pickTM (e_bool true) hu.1 h27 rfl (hn := LWo.nil ⟨rfl, .inl rfl, hg⟩), ?_⟩
                refine ⟨rfl, by kernel_rfl, hN23 (t0, t5, t6, t7, true, o1010, o1013) _ ⟨rfl, rfl, rfl, rfl, rfl, rfl, rfl, trivial⟩ ⟨rfl, rfl, trivial⟩ h⟩
              · have h := bF h27 h
                refine bS (decide (t7 > (0 : Int))) (fun h28 => ?_) (fun h28 => ?_)
                · have h := bT h28 h
                  refine bk h fun x29 e29 h => ?_
                  refine bk h fun x30 e30 h => ?_
                  refine bk h fun x31 e31 h => ?_
                  refine bk h fun x32 e32 h => ?_
                  refine bk h fun x33 e33 h => ?_
                  refine bk h fun x34 e34 h => ?_
                  refine LWP.drawE (l := [_,_,_,_,_,_,_,_,_,_,_,_,_,_,_,_,_,_,_,_,_,_,_,_,_,_,_,_,_,_,_,_]) [] [0, 3, 4, 5, 6, 7] [([0], []), ([6], []), ([29, 30], []), ([31], []), ([7], []), ([32, 33], []), ([34], []), ([35], []), ([36], []), ([37], []), ([7, 38], []), ([38, 39], []), ([38, 40], []), ([0, 41], []), ([6, 41], []), ([41, 42, 43], []), ([41, 44], []), ([7, 41], []), ([41, 46], []), ([41, 45, 47], []), ([41, 48], []), ([0, 41], []), ([6, 41], []), ([41, 50, 51], []), ([41, 52], []), ([7, 41], []), ([41, 53, 54], []), ([41, 55], []), ([41, 49, 56], []), ([41, 57], []), ([38, 41, 58], []), ([38, 59], [])] [0, 3, 4, 5, 6, 7, 60] [1010, 1013] mixed (by kernel_rfl) rfl (by decide) ?_
                  refine ⟨rfl, .put 29 _, trivial, fun u hg hu hh => LWo.move (e_LLLimpl_Value t0) hu.1 (hn := LWo.nil ⟨rfl, .inl rfl, hg⟩), ?_⟩
                  refine ⟨rfl, .put 30 _, trivial, fun u hg hu hh => LWo.move (e_int t6) hu.1 (hn := LWo.nil ⟨rfl, .inl rfl, hg⟩), ?_⟩
                  refine ⟨rfl, .put 31 _, trivial, fun u hg hu hh => LWo.indexM (f := e_LLimpl_Value) e24 u_LLLimpl_Value s_LLimpl_Value hu.1 hu.2.1 (hn := LWo.nil ⟨rfl, .inl rfl, hg⟩), ?_⟩
                  refine ⟨rfl, .put 32 _, trivial, fun u hg hu hh => LWo.load1 (c := (e_LLimpl_Value x24)) g_LLimpl_Value hu.1 (hn := LWo.nil ⟨rfl, .inl rfl, hg⟩), ?_⟩
                  refine ⟨rfl, .put 33 _, trivial, fun u hg hu hh => LWo.move (e_int t7) hu.1 (hn := LWo.nil ⟨rfl, .inl rfl, hg⟩), ?_⟩
                  refine ⟨rfl, .put 34 _, trivial, fun u hg hu hh => LWo.indexM (f := e_Limpl_Value) e25 u_LLimpl_Value s_Limpl_Value hu.1 hu.2.1 (hn := LWo.nil ⟨rfl, .inl rfl, hg⟩), ?_⟩
                  refine ⟨rfl, .put 35 _, trivial, fun u hg hu hh => LWo.load1 (c := (e_Limpl_Value x25)) g_Limpl_Value hu.1 (hn := LWo.nil ⟨rfl, .inl rfl, hg⟩), ?_⟩
                  refine ⟨rfl, .put 36 _, trivial, fun u hg hu hh => LWo.vcall rfl (av1 hu.1) (c_spec_RowOk _ _ e26) (.same (.nil)) (hn := LWo.nil ⟨rfl, .inl rfl, hg⟩), ?_⟩
                  refine ⟨rfl, .put 37 _, trivial, fun u hg hu hh => LWo.not hu.1 (hn := LWo.nil ⟨rfl, .inl rfl, hg⟩), ?_⟩
                  refine ⟨rfl, .put 38 _, trivial, fun u hg hu hh => LWo.move (e_bool (!x26)) hu.1 (hn := LWo.nil ⟨rfl, .inl rfl, hg⟩), ?_⟩
                  refine ⟨rfl, .put 39 _, trivial, fun u hg hu hh => LWo.guardY (t := 38) hu.2.1 h27 rfl rfl (LWo.move (e_int t7) hu.1 (hn := LWo.nil ⟨rfl, .inl rfl, hg⟩)), ?_⟩
                  refine ⟨rfl, .put 40 _, trivial, fun u hg hu hh => LWo.guardY (t := 38) hu.1 h27 rfl rfl (LWo.int _ hu.2.1 rfl rfl (hn := LWo.nil ⟨rfl, .inl rfl, hg⟩)), ?_⟩
                  refine ⟨rfl, .put 41 _, trivial, fun u hg hu hh => LWo.guardY (t := 38) hu.1 h27 rfl rfl (LWo.move (e_bool (decide (t7 > (0 : Int)))) hu.2.1 (hn := LWo.nil ⟨rfl, .inl rfl, hg⟩)), ?_⟩
                  refine ⟨rfl, .put 42 _, trivial, fun u hg hu hh => LWo.guardY (t := 41) hu.2.1 h28 rfl rfl (LWo.move (e_LLLimpl_Value t0) hu.1 (hn := LWo.nil ⟨rfl, .inl rfl, hg⟩)), ?_⟩
                  refine ⟨rfl, .put 43 _, trivial, fun u hg hu hh => LWo.guardY (t := 41) hu.2.1 h28 rfl rfl (LWo.move (e_int t6) hu.1 (hn := LWo.nil ⟨rfl, .inl rfl, hg⟩)), ?_⟩
                  refine ⟨rfl, .put 44 _, trivial, fun u hg hu hh => LWo.guardY (t := 41) hu.1 h28 rfl rfl (LWo.indexM (f := e_LLimpl_Value) e29 u_LLLimpl_Value s_LLimpl_Value hu.2.1 hu.2.2.1 (hn := LWo.nil ⟨rfl, .inl rfl, hg⟩)), ?_⟩
                  refine ⟨rfl, .put 45 _, trivial, fun u hg hu hh => LWo.guardY (t := 41) hu.1 h28 rfl rfl (LWo.load1 (c := (e_LLimpl_Value x29)) g_LLimpl_Value hu.2.1 (hn := LWo.nil ⟨rfl, .inl rfl, hg⟩)), ?_⟩
                  refine ⟨rfl, .put 46 _, trivial, fun u hg hu hh => LWo.guardY (t := 41) hu.2.1 h28 rfl rfl (LWo.move (e_int t7) hu.1 (hn := LWo.nil ⟨rfl, .inl rfl, hg⟩)), ?_⟩
                  refine ⟨rfl, .put 47 _, trivial, fun u hg hu hh => LWo.guardY (t := 41) hu.1 h28 rfl rfl (LWo.int _ hu.2.1 rfl (sub_ck e30) (hn := LWo.nil ⟨rfl, .inl rfl, hg⟩)), ?_⟩
                  refine ⟨rfl, .put 48 _, trivial, fun u hg hu hh => LWo.guardY (t := 41) hu.1 h28 rfl rfl (LWo.indexM (f := e_Limpl_Value) e31 u_LLimpl_Value s_Limpl_Value hu.2.1 hu.2.2.1 (hn := LWo.nil ⟨rfl, .inl rfl, hg⟩)), ?_⟩
                  refine ⟨rfl, .put 49 _, trivial, fun u hg hu hh => LWo.guardY (t := 41) hu.1 h28 rfl rfl (LWo.load1 (c := (e_Limpl_Value x31)) g_Limpl_Value hu.2.1 (hn := LWo.nil ⟨rfl, .inl rfl, hg⟩)), ?_⟩
                  refine ⟨rfl, .put 50 _, trivial, fun u hg hu hh => LWo.guardY (t := 41) hu.2.1 h28 rfl rfl (LWo.move (e_LLLimpl_Value t0) hu.1 (hn := LWo.nil ⟨rfl, .inl rfl, hg⟩)), ?_⟩
                  refine ⟨rfl, .put 51 _, trivial, fun u hg hu hh => LWo.guardY (t := 41) hu.2.1 h28 rfl rfl (LWo.move (e_int t6) hu.1 (hn := LWo.nil ⟨rfl, .inl rfl, hg⟩)), ?_⟩
                  refine ⟨rfl, .put 52 _, trivial, fun u hg hu hh => LWo.guardY (t := 41) hu.1 h28 rfl rfl (LWo.indexM (f := e_LLimpl_Value) e32 u_LLLimpl_Value s_LLimpl_Value hu.2.1 hu.2.2.1 (hn := LWo.nil ⟨rfl, .inl rfl, hg⟩)), ?_⟩
                  refine ⟨rfl, .put 53 _, trivial, fun u hg hu hh => LWo.guardY (t := 41) hu.1 h28 rfl rfl (LWo.load1 (c := (e_LLimpl_Value x32)) g_LLimpl_Value hu.2.1 (hn := LWo.nil ⟨rfl, .inl rfl, hg⟩)), ?_⟩
                  refine ⟨rfl, .put 54 _, trivial, fun u hg hu hh => LWo.guardY (t := 41) hu.2.1 h28 rfl rfl (LWo.move (e_int t7) hu.1 (hn := LWo.nil ⟨rfl, .inl rfl, hg⟩)), ?_⟩
                  refine ⟨rfl, .put 55 _, trivial, fun u hg hu hh => LWo.guardY (t := 41) hu.1 h28 rfl rfl (LWo.indexM (f := e_Limpl_Value) e33 u_LLimpl_Value s_Limpl_Value hu.2.1 hu.2.2.1 (hn := LWo.nil ⟨rfl, .inl rfl, hg⟩)), ?_⟩
                  refine ⟨rfl, .put 56 _, trivial, fun u hg hu hh => LWo.guardY (t := 41) hu.1 h28 rfl rfl (LWo.load1 (c := (e_Limpl_Value x33)) g_Limpl_Value hu.2.1 (hn := LWo.nil ⟨rfl, .inl rfl, hg⟩)), ?_⟩
                  refine ⟨rfl, .put 57 _, trivial, fun u hg hu hh => LWo.guardY (t := 41) hu.1 h28 rfl rfl (LWo.vcall rfl (av2 hu.2.1 hu.2.2.1) (c_spec_RowOrder _ _ _ e34) (.same (.same (.nil))) (hn := LWo.nil ⟨rfl, .inl rfl, hg⟩)), ?_⟩
                  refine ⟨rfl, .put 58 _, trivial, fun u hg hu hh => LWo.guardY (t := 41) hu.1 h28 rfl rfl (LWo.int _ hu.2.1 rfl rfl (hn := LWo.nil ⟨rfl, .inl rfl, hg⟩)), ?_⟩
                  refine ⟨rfl, .put 59 _, trivial, fun u hg hu hh => LWo.guardY (t := 38) hu.1 h27 rfl rfl (LWo.pickTM (e_bool (decide (x34 > (0 : Int)))) hu.2.1 h28 hu.2.2.1 (hn := LWo.nil ⟨rfl, .inl rfl, hg⟩)), ?_⟩
                  refine ⟨rfl, .put 60 _, trivial, fun u hg hu hh => LWo.pickFM (e_bool (decide (x34 > (0 : Int)))) hu.1 h27 hu.2.1 (hn := LWo.nil ⟨rfl, .inl rfl, hg⟩), ?_⟩
                  refine ⟨rfl, by kernel_rfl, hN23 (t0, t5, t6, t7, decide (x34 > (0 : Int)), o1010, o1013) _ ⟨rfl, rfl, rfl, rfl, rfl, rfl, rfl, trivial⟩ ⟨rfl, rfl, trivial⟩ h⟩
                · have h := bF h28 h
                  refine LWP.drawE (l := [_,_,_,_,_,_,_,_,_,_,_,_,_,_,_,_,_,_,_,_,_,_,_,_,_,_,_,_,_,_,_,_]) [] [0, 3, 4, 5, 6, 7] [([0], []), ([6], []), ([29, 30], []), ([31], []), ([7], []), ([32, 33], []), ([34], []), ([35], []), ([36], []), ([37], []), ([7, 38], []), ([38, 39], []), ([38, 40], []), ([0, 41], []), ([6, 41], []), ([41, 42, 43], []), ([41, 44], []), ([7, 41], []), ([41, 46], []), ([41, 45, 47], []), ([41, 48], []), ([0, 41], []), ([6, 41], []), ([41, 50, 51], []), ([41, 52], []), ([7, 41], []), ([41, 53, 54], []), ([41, 55], []), ([41, 49, 56], []), ([41, 57], []), ([38, 41, 58], []), ([38, 59], [])] [0, 3, 4, 5, 6, 7, 60] [1010, 1013] mixed (by kernel_rfl) rfl (by decide) ?_
                  refine ⟨rfl, .put 29 _, trivial, fun u hg hu hh => LWo.move (e_LLLimpl_Value t0) hu.1 (hn := LWo.nil ⟨rfl, .inl rfl, hg⟩), ?_⟩
                  refine ⟨rfl, .put 30 _, trivial, fun u hg hu hh => LWo.move (e_int t6) hu.1 (hn := LWo.nil ⟨rfl, .inl rfl, hg⟩), ?_⟩
                  refine ⟨rfl, .put 31 _, trivial, fun u hg hu hh => LWo.indexM (f := e_LLimpl_Value) e24 u_LLLimpl_Value s_LLimpl_Value hu.1 hu.2.1 (hn := LWo.nil ⟨rfl, .inl rfl, hg⟩), ?_⟩
                  refine ⟨rfl, .put 32 _, trivial, fun u hg hu hh => LWo.load1 (c := (e_LLimpl_Value x24)) g_LLimpl_Value hu.1 (hn := LWo.nil ⟨rfl, .inl rfl, hg⟩), ?_⟩
                  refine ⟨rfl, .put 33 _, trivial, fun u hg hu hh => LWo.move (e_int t7) hu.1 (hn := LWo.nil ⟨rfl, .inl rfl, hg⟩), ?_⟩
                  refine ⟨rfl, .put 34 _, trivial, fun u hg hu hh => LWo.indexM (f := e_Limpl_Value) e25 u_LLimpl_Value s_Limpl_Value hu.1 hu.2.1 (hn := LWo.nil ⟨rfl, .inl rfl, hg⟩), ?_⟩
                  refine ⟨rfl, .put 35 _, trivial, fun u hg hu hh => LWo.load1 (c := (e_Limpl_Value x25)) g_Limpl_Value hu.1 (hn := LWo.nil ⟨rfl, .inl rfl, hg⟩), ?_⟩
                  refine ⟨rfl, .put 36 _, trivial, fun u hg hu hh => LWo.vcall rfl (av1 hu.1) (c_spec_RowOk _ _ e26) (.same (.nil)) (hn := LWo.nil ⟨rfl, .inl rfl, hg⟩), ?_⟩
                  refine ⟨rfl, .put 37 _, trivial, fun u hg hu hh => LWo.not hu.1 (hn := LWo.nil ⟨rfl, .inl rfl, hg⟩), ?_⟩
                  refine ⟨rfl, .put 38 _, trivial, fun u hg hu hh => LWo.move (e_bool (!x26)) hu.1 (hn := LWo.nil ⟨rfl, .inl rfl, hg⟩), ?_⟩
                  refine ⟨rfl, .put 39 _, trivial, fun u hg hu hh => LWo.guardY (t := 38) hu.2.1 h27 rfl rfl (LWo.move (e_int t7) hu.1 (hn := LWo.nil ⟨rfl, .inl rfl, hg⟩)), ?_⟩
                  refine ⟨rfl, .put 40 _, trivial, fun u hg hu hh => LWo.guardY (t := 38) hu.1 h27 rfl rfl (LWo.int _ hu.2.1 rfl rfl (hn := LWo.nil ⟨rfl, .inl rfl, hg⟩)), ?_⟩
                  refine ⟨rfl, .put 41 _, trivial, fun u hg hu hh => LWo.guardY (t := 38) hu.1 h27 rfl rfl (LWo.move (e_bool (decide (t7 > (0 : Int)))) hu.2.1 (hn := LWo.nil ⟨rfl, .inl rfl, hg⟩)), ?_⟩
                  refine ⟨rfl, .put 42 _, trivial, fun u hg hu hh => LWo.guardNU (t := 41) hu.2.1 h28 rfl rfl rfl rfl rfl (LWo.nil ⟨rfl, .inl rfl, hg⟩), ?_⟩
                  refine ⟨rfl, .put 43 _, trivial, fun u hg hu hh => LWo.guardNU (t := 41) hu.2.1 h28 rfl rfl rfl rfl rfl (LWo.nil ⟨rfl, .inl rfl, hg⟩), ?_⟩
                  refine ⟨rfl, .put 44 _, trivial, fun u hg hu hh => LWo.guardNU (t := 41) hu.1 h28 rfl rfl rfl rfl rfl (LWo.nil ⟨rfl, .inl rfl, hg⟩), ?_⟩
                  refine ⟨rfl, .put 45 _, trivial, fun u hg hu hh => LWo.guardNU (t := 41) hu.1 h28 rfl rfl rfl rfl rfl (LWo.nil ⟨rfl, .inl rfl, hg⟩), ?_⟩
                  refine ⟨rfl, .put 46 _, trivial, fun u hg hu hh => LWo.guardNU (t := 41) hu.2.1 h28 rfl rfl rfl rfl rfl (LWo.nil ⟨rfl, .inl rfl, hg⟩), ?_⟩
                  refine ⟨rfl, .put 47 _, trivial, fun u hg hu hh => LWo.guardNU (t := 41) hu.1 h28 rfl rfl rfl rfl rfl (LWo.nil ⟨rfl, .inl rfl, hg⟩), ?_⟩
                  refine ⟨rfl, .put 48 _, trivial, fun u hg hu hh => LWo.guardNU (t := 41) hu.1 h28 rfl rfl rfl rfl rfl (LWo.nil ⟨rfl, .inl rfl, hg⟩), ?_⟩
                  refine ⟨rfl, .put 49 _, trivial, fun u hg hu hh => LWo.guardNU (t := 41) hu.1 h28 rfl rfl rfl rfl rfl (LWo.nil ⟨rfl, .inl rfl, hg⟩), ?_⟩
                  refine ⟨rfl, .put 50 _, trivial, fun u hg hu hh => LWo.guardNU (t := 41) hu.2.1 h28 rfl rfl rfl rfl rfl (LWo.nil ⟨rfl, .inl rfl, hg⟩), ?_⟩
                  refine ⟨rfl, .put 51 _, trivial, fun u hg hu hh => LWo.guardNU (t := 41) hu.2.1 h28 rfl rfl rfl rfl rfl (LWo.nil ⟨rfl, .inl rfl, hg⟩), ?_⟩
                  refine ⟨rfl, .put 52 _, trivial, fun u hg hu hh => LWo.guardNU (t := 41) hu.1 h28 rfl rfl rfl rfl rfl (LWo.nil ⟨rfl, .inl rfl, hg⟩), ?_⟩
                  refine ⟨rfl, .put 53 _, trivial, fun u hg hu hh => LWo.guardNU (t := 41) hu.1 h28 rfl rfl rfl rfl rfl (LWo.nil ⟨rfl, .inl rfl, hg⟩), ?_⟩
                  refine ⟨rfl, .put 54 _, trivial, fun u hg hu hh => LWo.guardNU (t := 41) hu.2.1 h28 rfl rfl rfl rfl rfl (LWo.nil ⟨rfl, .inl rfl, hg⟩), ?_⟩
                  refine ⟨rfl, .put 55 _, trivial, fun u hg hu hh => LWo.guardNU (t := 41) hu.1 h28 rfl rfl rfl rfl rfl (LWo.nil ⟨rfl, .inl rfl, hg⟩), ?_⟩
                  refine ⟨rfl, .put 56 _, trivial, fun u hg hu hh => LWo.guardNU (t := 41) hu.1 h28 rfl rfl rfl rfl rfl (LWo.nil ⟨rfl, .inl rfl, hg⟩), ?_⟩
                  refine ⟨rfl, .put 57 _, trivial, fun u hg hu hh => LWo.guardNU (t := 41) hu.1 h28 rfl rfl rfl rfl rfl (LWo.nil ⟨rfl, .inl rfl, hg⟩), ?_⟩
                  refine ⟨rfl, .put 58 _, trivial, fun u hg hu hh => LWo.guardNU (t := 41) hu.1 h28 rfl rfl rfl rfl rfl (LWo.nil ⟨rfl, .inl rfl, hg⟩), ?_⟩
                  refine ⟨rfl, .put 59 _, trivial, fun u hg hu hh => LWo.guardY (t := 38) hu.1 h27 rfl rfl (LWo.pickFM (e_bool false) hu.2.1 h28 rfl (hn := LWo.nil ⟨rfl, .inl rfl, hg⟩)), ?_⟩
                  refine ⟨rfl, .put 60 _, trivial, fun u hg hu hh => LWo.pickFM (e_bool false) hu.1 h27 hu.2.1 (hn := LWo.nil ⟨rfl, .inl rfl, hg⟩), ?_⟩
                  refine ⟨rfl, by kernel_rfl, hN23 (t0, t5, t6, t7, false, o1010, o1013) _ ⟨rfl, rfl, rfl, rfl, rfl, rfl, rfl, trivial⟩ ⟨rfl, rfl, trivial⟩ h⟩
          · have h := bF h21 h
            refine LWP.exit (hN14 (t0, t5, t6, o1010, o1013) _ ⟨rfl, rfl, rfl, rfl, rfl, trivial⟩ ⟨rfl, rfl, trivial⟩ h)
    · have h := bF h12 h
      refine LWP.exit (hN6 (t0, t5, o1010, o1013) _ ⟨rfl, rfl, rfl, rfl, trivial⟩ ⟨rfl, rfl, trivial⟩ h)
end Go.Proofs.Ytemfdnnhknepbaa
