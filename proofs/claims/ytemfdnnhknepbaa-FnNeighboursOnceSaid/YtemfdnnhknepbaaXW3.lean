/- Mirrors of functions, and that the functions return what the mirrors say. -/
import Derived.Test.YtemfdnnhknepbaaXW2
set_option linter.unusedVariables false
set_option linter.unusedSimpArgs false
set_option linter.unnecessarySimpa false
namespace Go.Proofs.Ytemfdnnhknepbaa
open Go.Proofs Go.Lift Go.RowKit
def m_cmp_Or_int_j1 (t3 : Int) : Option Int :=
  some t3
def m_cmp_Or_int_l1 : Nat → Int → (List Int) → Int → Int → Option Int
  | 0, _, _, _, _ => none
  | n1 + 1, t3, t6, t7, t8 =>
    bif decide (t8 < t7) then ((at? t6 t8).bind fun x12 =>
    bif (x12 != t3) then (some x12)
    else ((ckI (t8 + (1 : Int))).bind fun x16 =>
    (m_cmp_Or_int_l1  n1) t3 t6 t7 x16))
    else (m_cmp_Or_int_j1  t3)
def m_cmp_Or_int (a0 : (List Int)) : Option Int :=
  m_cmp_Or_int_l1  (((a0.length : Int) - (0 : Int)).toNat + 1) (0 : Int) a0 (a0.length : Int) (0 : Int)
theorem c_cmp_Or_int (a0 : (List Int)) (r : Int) (h : m_cmp_Or_int a0 = some r) : Ret Try.prog f_cmp_Or_int [e_Lint a0] (e_int r) := by
  refine Does.goG [] F_cmp_Or_int rfl e_cmp_Or_int n_cmp_Or_int rfl (rvs := [.tmp 2]) rfl rfl ?_
  intro w0 ok0 lent ρ0
  refine LWP.seq_k fun N1 hN1 => ?_
  refine LWP.region (l := [_]) ?_
  refine LWo.assign (e_int (0 : Int)) rfl (hn := ?_)
  refine LWo.nil (hN1 _ ?_)
  refine LWP.seq_k fun N2 hN2 => ?_
  refine LWP.region (l := [_]) ?_
  refine LWo.assign (e_int (0 : Int)) rfl (hn := ?_)
  refine LWo.nil (hN2 _ ?_)
  refine LWP.join (α := Int) (fun z : Int => [(3, (e_int z))]) (fun z : Int => []) (fun z : Int => m_cmp_Or_int_j1  z) r (fun _ => by simp [hkeys]) ?_ ?_
  · rintro t3 h
    replace h : m_cmp_Or_int_j1  t3 = some _ := h
    refine LWP.seq_k fun N17 hN17 => ?_
    refine LWP.region (l := [_,_]) ?_
    refine LWo.move (e_int t3) rfl (hn := ?_)
    refine LWo.assign (e_int t3) rfl (hn := ?_)
    refine LWo.nil (hN17 _ ?_)
    obtain rfl := Option.some.inj h
    refine LWP.ret (QG.mk (.inr rfl) (.cons (.tmp (x := (e_int t3)) rfl) (.nil)) (RetOK.one0 (.pure rfl) (by decide)) rfl rfl)
  · intro N3 hN3
    refine LWP.seq_k fun N4 hN4 => ?_
    refine LWP.region (l := [_,_,_]) ?_
    refine LWo.move (e_Lint a0) rfl (hn := ?_)
    refine LWo.lenM (f := e_int) (l := a0) u_Lint rfl (hn := ?_)
    refine LWo.move (e_int (0 : Int)) rfl (hn := ?_)
    refine LWo.nil (hN4 _ ?_)
    refine LWP.block ?_
    refine LWP.loopM (α := Int × (List Int) × Int × Int) (fun z : Int × (List Int) × Int × Int => [(3, (e_int z.1)), (6, (e_Lint z.2.1)), (7, (e_int z.2.2.1)), (8, (e_int z.2.2.2))]) (fun z : Int × (List Int) × Int × Int => []) (fun n1 (z : Int × (List Int) × Int × Int) => m_cmp_Or_int_l1  n1 z.1 z.2.1 z.2.2.1 z.2.2.2) r _ ((0 : Int), a0, (a0.length : Int), (0 : Int)) h (fun _ => rfl) (fun _ => by simp [hkeys]) ⟨rfl, rfl, rfl, rfl, trivial⟩ trivial ?_
    rintro n1 ⟨t3, t6, t7, t8⟩ h N5 hN5
    replace h : m_cmp_Or_int_l1  (n1 + 1) t3 t6 t7 t8 = some _ := h
    refine LWP.seq_k fun N7 hN7 => ?_
    refine LWP.region (l := [_]) ?_
    refine LWo.int _ rfl rfl rfl (hn := ?_)
    refine LWo.nil (hN7 _ ?_)
    refine LWP.seq_k fun N8 hN8 => ?_
    refine LWP.cond_split rfl (fun h9 => ?_) (fun h9 => ?_)
    · have h := bT h9 h
      refine LWP.skip (hN8 _ ?_)
      refine LWP.seq_k fun N10 hN10 => ?_
      refine LWP.block ?_
      refine LWP.seq_k fun N11 hN11 => ?_
      refine LWP.region (l := [_,_,_]) ?_
      refine bk h fun x12 e12 h => ?_
      refine LWo.indexM (f := e_int) e12 u_Lint s_int rfl rfl (hn := ?_)
      refine LWo.load1 (c := (e_int x12)) g_int rfl (hn := ?_)
      refine LWo.assign (e_int x12) rfl (hn := ?_)
      refine LWo.nil (hN11 _ ?_)
      refine LWP.seq_k fun N13 hN13 => ?_
      refine LWP.region (l := [_,_,_]) ?_
      refine LWo.move (e_int x12) rfl (hn := ?_)
      refine LWo.move (e_int t3) rfl (hn := ?_)
      refine LWo.int _ rfl rfl rfl (hn := ?_)
      refine LWo.nil (hN13 _ ?_)
      refine LWP.cond_split rfl (fun h14 => ?_) (fun h14 => ?_)
      · have h := bT h14 h
        refine LWP.seq_k fun N15 hN15 => ?_
        refine LWP.region (l := [_,_]) ?_
        refine LWo.move (e_int x12) rfl (hn := ?_)
        refine LWo.assign (e_int x12) rfl (hn := ?_)
        refine LWo.nil (hN15 _ ?_)
        obtain rfl := Option.some.inj h
        refine LWP.ret (QG.mk (.inr rfl) (.cons (.tmp (x := (e_int x12)) rfl) (.nil)) (RetOK.one0 (.pure rfl) (by decide)) rfl rfl)
      · have h := bF h14 h
        refine LWP.skip (hN10 _ ?_)
        refine LWP.region (l := [_,_]) ?_
        refine bk h fun x16 e16 h => ?_
        refine LWo.int _ rfl rfl (add_ck e16) (hn := ?_)
        refine LWo.move (e_int x16) rfl (hn := ?_)
        refine LWo.nil (hN5 (t3, t6, t7, x16) _ ⟨rfl, rfl, rfl, rfl, trivial⟩ trivial h)
    · have h := bF h9 h
      refine LWP.exit (hN3 t3 _ ⟨rfl, trivial⟩ trivial h)

def m_impl_Value_order (a0 : S_impl_Value) (a1 : S_impl_Value) : Option Int :=
  (m_cmp_Compare_int a0.Kind a1.Kind).bind fun x3 =>
  (m_cmp_Compare_int a0.N a1.N).bind fun x4 =>
  (m_cmp_Compare_string a0.S a1.S).bind fun x5 =>
  (m_cmp_Or_int ([x3, x4, x5] : (List Int))).bind fun x6 =>
  some x6
theorem c_impl_Value_order (a0 : S_impl_Value) (a1 : S_impl_Value) (r : Int) (h : m_impl_Value_order a0 a1 = some r) : Ret Try.prog f_impl_Value_order [e_impl_Value a0, e_impl_Value a1] (e_int r) := by
  refine Does.goG [] F_impl_Value_order rfl e_impl_Value_order n_impl_Value_order rfl (rvs := [.tmp 4]) rfl rfl ?_
  intro w0 ok0 lent ρ0
  refine LWP.seq_k fun N1 hN1 => ?_
  refine LWP.region (l := [_,_,_]) ?_
  refine LWo.boxF (e_impl_Value a0) rfl rfl rfl (hn := ?_)
  refine LWo.boxF (e_impl_Value a1) rfl rfl rfl (hn := ?_)
  refine LWo.assign (e_int (0 : Int)) rfl (hn := ?_)
  refine LWo.nil (hN1 _ ?_)
  refine LWP.seq_k fun N2 hN2 => ?_
  refine bk h fun x3 e3 h => ?_
  refine bk h fun x4 e4 h => ?_
  refine bk h fun x5 e5 h => ?_
  refine bk h fun x6 e6 h => ?_
  refine LWP.drawE (l := [_,_,_,_,_,_,_,_,_,_,_,_,_,_,_,_,_,_]) [] [2, 3] [([2], []), ([5], []), ([3], []), ([7], []), ([6, 8], []), ([2], []), ([10], []), ([3], []), ([12], []), ([11, 13], []), ([2], []), ([15], []), ([3], []), ([17], []), ([16, 18], []), ([9, 14, 19], []), ([20], []), ([21], [])] [4] [] mixed (by kernel_rfl) rfl (by decide) ?_
  refine ⟨rfl, .put 5 _, trivial, fun u hg hu hh => LWo.fieldAddr _ u_impl_Value rfl s_int hu.1 rfl (hn := LWo.nil ⟨rfl, .inl rfl, hg⟩), ?_⟩
  refine ⟨rfl, .put 6 _, trivial, fun u hg hu hh => LWo.load1 (c := (e_int a0.Kind)) g_int hu.1 (hn := LWo.nil ⟨rfl, .inl rfl, hg⟩), ?_⟩
  refine ⟨rfl, .put 7 _, trivial, fun u hg hu hh => LWo.fieldAddr _ u_impl_Value rfl s_int hu.1 rfl (hn := LWo.nil ⟨rfl, .inl rfl, hg⟩), ?_⟩
  refine ⟨rfl, .put 8 _, trivial, fun u hg hu hh => LWo.load1 (c := (e_int a1.Kind)) g_int hu.1 (hn := LWo.nil ⟨rfl, .inl rfl, hg⟩), ?_⟩
  refine ⟨rfl, .put 9 _, trivial, fun u hg hu hh => LWo.vcall rfl (av2 hu.1 hu.2.1) (c_cmp_Compare_int _ _ _ e3) (.same (.same (.nil))) (hn := LWo.nil ⟨rfl, .inl rfl, hg⟩), ?_⟩
  refine ⟨rfl, .put 10 _, trivial, fun u hg hu hh => LWo.fieldAddr _ u_impl_Value rfl s_int hu.1 rfl (hn := LWo.nil ⟨rfl, .inl rfl, hg⟩), ?_⟩
  refine ⟨rfl, .put 11 _, trivial, fun u hg hu hh => LWo.load1 (c := (e_int a0.N)) g_int hu.1 (hn := LWo.nil ⟨rfl, .inl rfl, hg⟩), ?_⟩
  refine ⟨rfl, .put 12 _, trivial, fun u hg hu hh => LWo.fieldAddr _ u_impl_Value rfl s_int hu.1 rfl (hn := LWo.nil ⟨rfl, .inl rfl, hg⟩), ?_⟩
  refine ⟨rfl, .put 13 _, trivial, fun u hg hu hh => LWo.load1 (c := (e_int a1.N)) g_int hu.1 (hn := LWo.nil ⟨rfl, .inl rfl, hg⟩), ?_⟩
  refine ⟨rfl, .put 14 _, trivial, fun u hg hu hh => LWo.vcall rfl (av2 hu.1 hu.2.1) (c_cmp_Compare_int _ _ _ e4) (.same (.same (.nil))) (hn := LWo.nil ⟨rfl, .inl rfl, hg⟩), ?_⟩
  refine ⟨rfl, .put 15 _, trivial, fun u hg hu hh => LWo.fieldAddr _ u_impl_Value rfl s_string hu.1 rfl (hn := LWo.nil ⟨rfl, .inl rfl, hg⟩), ?_⟩
  refine ⟨rfl, .put 16 _, trivial, fun u hg hu hh => LWo.load1 (c := (e_string a0.S)) g_string hu.1 (hn := LWo.nil ⟨rfl, .inl rfl, hg⟩), ?_⟩
  refine ⟨rfl, .put 17 _, trivial, fun u hg hu hh => LWo.fieldAddr _ u_impl_Value rfl s_string hu.1 rfl (hn := LWo.nil ⟨rfl, .inl rfl, hg⟩), ?_⟩
  refine ⟨rfl, .put 18 _, trivial, fun u hg hu hh => LWo.load1 (c := (e_string a1.S)) g_string hu.1 (hn := LWo.nil ⟨rfl, .inl rfl, hg⟩), ?_⟩
  refine ⟨rfl, .put 19 _, trivial, fun u hg hu hh => LWo.vcall rfl (av2 hu.1 hu.2.1) (c_cmp_Compare_string _ _ _ e5) (.same (.same (.nil))) (hn := LWo.nil ⟨rfl, .inl rfl, hg⟩), ?_⟩
  refine ⟨rfl, .put 20 _, trivial, fun u hg hu hh => LWo.lit (ops := [_, _, _]) [(e_int x3), (e_int x4), (e_int x5)] u_Lint s_int z_int (lv3 hu.1 hu.2.1 hu.2.2.1) rfl rfl rfl rfl rfl (hn := LWo.nil ⟨rfl, .inl rfl, hg⟩), ?_⟩
  refine ⟨rfl, .put 21 _, trivial, fun u hg hu hh => LWo.vcall rfl (av1 hu.1) (c_cmp_Or_int _ _ e6) (.same (.nil)) (hn := LWo.nil ⟨rfl, .inl rfl, hg⟩), ?_⟩
  refine ⟨rfl, .put 4 _, trivial, fun u hg hu hh => LWo.assign (e_int x6) hu.1 (hn := LWo.nil ⟨rfl, .inl rfl, hg⟩), ?_⟩
  refine ⟨rfl, by kernel_rfl, hN2 _ ?_⟩
  obtain rfl := Option.some.inj h
  refine LWP.ret (QG.mk (.inr rfl) (.cons (.tmp (x := (e_int x6)) rfl) (.nil)) (RetOK.one0 (.pure rfl) (by decide)) rfl rfl)

def m_impl_rowOrder (a0 : (List S_impl_Value)) (a1 : (List S_impl_Value)) : Option Int :=
  (m_slices_CompareFunc_Limpl_Value_Limpl_Value_impl_Value_impl_Value a0 a1 (fun b0_ b1_ => m_impl_Value_order b0_ b1_ )).bind fun x3 =>
  (m_cmp_Compare_int (a0.length : Int) (a1.length : Int)).bind fun x4 =>
  (m_cmp_Or_int ([x3, x4] : (List Int))).bind fun x5 =>
  some x5
theorem c_impl_rowOrder (a0 : (List S_impl_Value)) (a1 : (List S_impl_Value)) (r : Int) (h : m_impl_rowOrder a0 a1 = some r) : Ret Try.prog f_impl_rowOrder [e_Limpl_Value a0, e_Limpl_Value a1] (e_int r) := by
  refine Does.goG [] F_impl_rowOrder rfl e_impl_rowOrder n_impl_rowOrder rfl (rvs := [.tmp 4]) rfl rfl ?_
  intro w0 ok0 lent ρ0
  refine LWP.seq_k fun N1 hN1 => ?_
  refine LWP.region (l := [_]) ?_
  refine LWo.assign (e_int (0 : Int)) rfl (hn := ?_)
  refine LWo.nil (hN1 _ ?_)
  refine LWP.seq_k fun N2 hN2 => ?_
  refine LWP.region (l := [_,_,_,_,_,_,_,_,_,_,_]) ?_
  refine LWo.move (e_Limpl_Value a0) rfl (hn := ?_)
  refine LWo.move (e_Limpl_Value a1) rfl (hn := ?_)
  refine bk h fun x3 e3 h => ?_
  refine LWo.vcall rfl rfl (c_slices_CompareFunc_Limpl_Value_Limpl_Value_impl_Value_impl_Value _ _ _ f_impl_Value_order [] (fun _ => rfl) (fun b0_ b1_ v hv => c_impl_Value_order b0_ b1_  v hv) _ e3) (.same (.same (.same (.nil)))) (hn := ?_)
  refine LWo.move (e_Limpl_Value a0) rfl (hn := ?_)
  refine LWo.lenM (f := e_impl_Value) (l := a0) u_Limpl_Value rfl (hn := ?_)
  refine LWo.move (e_Limpl_Value a1) rfl (hn := ?_)
  refine LWo.lenM (f := e_impl_Value) (l := a1) u_Limpl_Value rfl (hn := ?_)
  refine bk h fun x4 e4 h => ?_
  refine LWo.vcall rfl rfl (c_cmp_Compare_int _ _ _ e4) (.same (.same (.nil))) (hn := ?_)
  refine LWo.lit (ops := [_, _]) [(e_int x3), (e_int x4)] u_Lint s_int z_int rfl rfl rfl rfl rfl rfl (hn := ?_)
  refine bk h fun x5 e5 h => ?_
  refine LWo.vcall rfl rfl (c_cmp_Or_int _ _ e5) (.same (.nil)) (hn := ?_)
  refine LWo.assign (e_int x5) rfl (hn := ?_)
  refine LWo.nil (hN2 _ ?_)
  obtain rfl := Option.some.inj h
  refine LWP.ret (QG.mk (.inr rfl) (.cons (.tmp (x := (e_int x5)) rfl) (.nil)) (RetOK.one0 (.pure rfl) (by decide)) rfl rfl)

def m_impl_inOrder_j1 (t2 : Bool) : Option Bool :=
  some t2
def m_impl_inOrder (a0 : (List (List S_impl_Value))) : Option Bool :=
  (m_impl_allOk a0).bind fun x3 =>
  bif x3 then ((m_slices_IsSortedFunc_LLimpl_Value_Limpl_Value a0 (fun b0_ b1_ => m_impl_rowOrder b0_ b1_ )).bind fun x5 =>
    m_impl_inOrder_j1  x5)
  else (m_impl_inOrder_j1  false)
theorem c_impl_inOrder (a0 : (List (List S_impl_Value))) (r : Bool) (h : m_impl_inOrder a0 = some r) : Ret Try.prog f_impl_inOrder [e_LLimpl_Value a0] (e_bool r) := by
  refine Does.goG [] F_impl_inOrder rfl e_impl_inOrder n_impl_inOrder rfl (rvs := [.tmp 2]) rfl rfl ?_
  intro w0 ok0 lent ρ0
  refine LWP.seq_k fun N1 hN1 => ?_
  refine LWP.region (l := [_]) ?_
  refine LWo.assign (e_bool false) rfl (hn := ?_)
  refine LWo.nil (hN1 _ ?_)
  refine LWP.join (α := Bool) (fun z : Bool => [(2, (e_bool z))]) (fun z : Bool => []) (fun z : Bool => m_impl_inOrder_j1  z) r (fun _ => by simp [hkeys]) ?_ ?_
  · rintro t2 h
    replace h : m_impl_inOrder_j1  t2 = some _ := h
    obtain rfl := Option.some.inj h
    refine LWP.ret (QG.mk (.inr rfl) (.cons (.tmp (x := (e_bool t2)) rfl) (.nil)) (RetOK.one0 (.pure rfl) (by decide)) rfl rfl)
  · intro N2 hN2
    refine LWP.region (l := [_,_,_,_,_,_,_]) ?_
    refine LWo.move (e_LLimpl_Value a0) rfl (hn := ?_)
    refine bk h fun x3 e3 h => ?_
    refine LWo.vcall rfl rfl (c_impl_allOk _ _ e3) (.same (.nil)) (hn := ?_)
    refine LWo.move (e_bool x3) rfl (hn := ?_)
    refine LWo.byCases (t := 5) _ rfl (fun h4 => ?_) (fun h4 => ?_)
    · have h := bT h4 h
      refine LWo.guardY (t := 5) rfl h4 rfl rfl ?_
      refine LWo.move (e_LLimpl_Value a0) rfl (hn := ?_)
      refine bk h fun x5 e5 h => ?_
      refine LWo.guardY (t := 5) rfl h4 rfl rfl ?_
      refine LWo.vcall rfl rfl (c_slices_IsSortedFunc_LLimpl_Value_Limpl_Value _ _ f_impl_rowOrder [] (fun _ => rfl) (fun b0_ b1_ v hv => c_impl_rowOrder b0_ b1_  v hv) _ e5) (.same (.same (.nil))) (hn := ?_)
      refine LWo.pickTM (e_bool x5) rfl h4 rfl (hn := ?_)
      refine LWo.assign (e_bool x5) rfl (hn := ?_)
      refine LWo.nil (hN2 x5 _ ⟨rfl, trivial⟩ trivial h)
    · have h := bF h4 h
      refine LWo.guardNU (t := 5) rfl h4 rfl rfl rfl rfl rfl ?_
      refine LWo.guardNU (t := 5) rfl h4 rfl rfl rfl rfl rfl ?_
      refine LWo.pickFM (e_bool false) rfl h4 rfl (hn := ?_)
      refine LWo.assign (e_bool false) rfl (hn := ?_)
      refine LWo.nil (hN2 false _ ⟨rfl, trivial⟩ trivial h)

def m_slices_Clone_LLimpl_Value_Limpl_Value (a0 : (List (List S_impl_Value))) : Option (List (List S_impl_Value)) :=
  nilM a0 fun b4 =>
  bif b4 then (some ([] : (List (List S_impl_Value))))
  else ((app? ([] : (List (List S_impl_Value))) a0).bind fun x8 =>
  some x8)
theorem c_slices_Clone_LLimpl_Value_Limpl_Value (a0 : (List (List S_impl_Value))) (r : (List (List S_impl_Value))) (h : m_slices_Clone_LLimpl_Value_Limpl_Value a0 = some r) : Ret Try.prog f_slices_Clone_LLimpl_Value_Limpl_Value [e_LLimpl_Value a0] (.nw 1 (r.map e_Limpl_Value) false) := by
  refine Does.goG [] F_slices_Clone_LLimpl_Value_Limpl_Value rfl e_slices_Clone_LLimpl_Value_Limpl_Value n_slices_Clone_LLimpl_Value_Limpl_Value rfl (rvs := [.tmp 2]) rfl rfl ?_
  intro w0 ok0 lent ρ0
  refine LWP.seq_k fun N1 hN1 => ?_
  refine LWP.region (l := [_]) ?_
  refine LWo.assign _ rfl (hn := ?_)
  refine LWo.ownNil 2 1002 1 rfl rfl rfl ?_
  refine LWo.known 2 (.own 1002 0 ([] : (List (List S_impl_Value))).length) rfl ?_
  refine LWo.nil (hN1 _ ?_)
  refine LWP.seq_k fun N2 hN2 => ?_
  refine LWP.seq_k fun N3 hN3 => ?_
  refine LWP.region (l := [_,_]) ?_
  refine LWo.move (e_LLimpl_Value a0) rfl (hn := ?_)
  refine LWo.nilEq (f := e_Limpl_Value) u_LLimpl_Value rfl rfl (hn := fun b4 e4 => nkb h b4 e4 fun h => ?_)
  refine LWo.nil (hN3 _ ?_)
  refine LWP.cond_split rfl (fun h5 => ?_) (fun h5 => ?_)
  · have h := bT h5 h
    refine LWP.seq_k fun N6 hN6 => ?_
    refine LWP.region (l := [_]) ?_
    refine LWo.assign _ rfl (hn := ?_)
    refine LWo.ownNil 2 1002 1 rfl rfl rfl ?_
    refine LWo.known 2 (.own 1002 0 ([] : (List (List S_impl_Value))).length) rfl ?_
    refine LWo.nil (hN6 _ ?_)
    obtain rfl := Option.some.inj h
    refine LWP.ret (QG.mk (.inr rfl) (.cons (.tmp (x := (.own 1002 0 (([] : (List (List S_impl_Value)))).length)) rfl) (.nil)) (RetOK.one0 (.nwM rfl rfl) (by decide)) rfl rfl)
  · have h := bF h5 h
    refine LWP.skip (hN2 _ ?_)
    refine LWP.seq_k fun N7 hN7 => ?_
    refine LWP.region (l := [_,_,_,_]) ?_
    refine LWo.lit0 1005 u_LLimpl_Value s_Limpl_Value z_Limpl_Value (hn := ?_)
    refine LWo.known 5 (.own 1005 0 ([] : (List (List S_impl_Value))).length) rfl ?_
    refine LWo.move (e_LLimpl_Value a0) rfl (hn := ?_)
    refine bk h fun x8 e8 h => ?_
    refine LWo.appendM (f := e_Limpl_Value) e8 rfl u_LLimpl_Value u_LLimpl_Value (fun _ h => by cases h) s_Limpl_Value i_Limpl_Value rfl rfl rfl (.sl rfl) rfl rfl (hn := ?_)
    refine LWo.assign (.own 1005 0 (x8).length) rfl (hn := ?_)
    refine LWo.nil (hN7 _ ?_)
    obtain rfl := Option.some.inj h
    refine LWP.ret (QG.mk (.inr rfl) (.cons (.tmp (x := (.own 1005 0 (x8).length)) rfl) (.nil)) (RetOK.one0 (.nwM rfl rfl) (by decide)) rfl rfl)

def m_slices_CompactFunc_LLimpl_Value_Limpl_Value_j4 (p1 : (List S_impl_Value) → (List S_impl_Value) → Option Bool) (o1000 : (List (List S_impl_Value))) : Option (List (List S_impl_Value)) :=
  some o1000
def m_slices_CompactFunc_LLimpl_Value_Limpl_Value_j3 (p1 : (List S_impl_Value) → (List S_impl_Value) → Option Bool) (k1 : Int → (List (List S_impl_Value)) → Option (List (List S_impl_Value))) (t5 : Int) (o1000 : (List (List S_impl_Value))) : Option (List (List S_impl_Value)) :=
  (ckI (t5 + (1 : Int))).bind fun x53 =>
  k1 x53 o1000
def m_slices_CompactFunc_LLimpl_Value_Limpl_Value_j2 (p1 : (List S_impl_Value) → (List S_impl_Value) → Option Bool) (k1 : Int → (List (List S_impl_Value)) → Option (List (List S_impl_Value))) (t5 : Int) (o1000 : (List (List S_impl_Value))) : Option (List (List S_impl_Value)) :=
  (rng? t5 ((o1000).length : Int) ((o1000).length)).bind fun u49 =>
  (rng? (0 : Int) t5 ((o1000).length)).bind fun u51 =>
  (leN ((t5).toNat) (o1000.take (0 + (t5).toNat)).length).bind fun u52 =>
  some ((o1000.take (0 + (t5).toNat)).take ((t5).toNat))
def m_slices_CompactFunc_LLimpl_Value_Limpl_Value_j1 (p1 : (List S_impl_Value) → (List S_impl_Value) → Option Bool) (k1 : Int → (List (List S_impl_Value)) → Option (List (List S_impl_Value))) (k2 : Int → Nat → Nat → Int → (List (List S_impl_Value)) → Option (List (List S_impl_Value))) (t5 : Int) (t6o : Nat) (t6n : Nat) (t7 : Int) (o1000 : (List (List S_impl_Value))) : Option (List (List S_impl_Value)) :=
  (ckI (t7 + (1 : Int))).bind fun x47 =>
  k2 t5 t6o t6n x47 o1000
def m_slices_CompactFunc_LLimpl_Value_Limpl_Value_l2 (p1 : (List S_impl_Value) → (List S_impl_Value) → Option Bool) (k1 : Int → (List (List S_impl_Value)) → Option (List (List S_impl_Value))) : Nat → Int → Nat → Nat → Int → (List (List S_impl_Value)) → Option (List (List S_impl_Value))
  | 0, _, _, _, _, _ => none
  | n2 + 1, t5, t6o, t6n, t7, o1000 =>
    bif decide (t7 < ((t6n : Nat) : Int)) then ((atc? o1000 t6o t6n t7).bind fun x33 =>
    (at? o1000 ((t6o + (t7).toNat : Nat) : Int)).bind fun x34 =>
    (ckI (t7 - (1 : Int))).bind fun x35 =>
    (atc? o1000 t6o t6n x35).bind fun x36 =>
    (at? o1000 ((t6o + (x35).toNat : Nat) : Int)).bind fun x37 =>
    (p1 x34 x37).bind fun x38 =>
    bif (!x38) then ((atc? o1000 t6o t6n t7).bind fun x41 =>
      (at? o1000 ((t6o + (t7).toNat : Nat) : Int)).bind fun x42 =>
      (at? o1000 t5).bind fun x43 =>
      (at? o1000 t5).bind fun x44 =>
      lt (x42) fun y45 =>
      (ckI (t5 + (1 : Int))).bind fun x46 =>
      m_slices_CompactFunc_LLimpl_Value_Limpl_Value_j1 p1 k1 (m_slices_CompactFunc_LLimpl_Value_Limpl_Value_l2 p1 k1 n2) x46 t6o t6n t7 (o1000.set (t5).toNat y45))
    else (m_slices_CompactFunc_LLimpl_Value_Limpl_Value_j1 p1 k1 (m_slices_CompactFunc_LLimpl_Value_Limpl_Value_l2 p1 k1 n2) t5 t6o t6n t7 o1000))
    else (m_slices_CompactFunc_LLimpl_Value_Limpl_Value_j2 p1 k1 t5 o1000)
def m_slices_CompactFunc_LLimpl_Value_Limpl_Value_l1 (p1 : (List S_impl_Value) → (List S_impl_Value) → Option Bool) : Nat → Int → (List (List S_impl_Value)) → Option (List (List S_impl_Value))
  | 0, _, _ => none
  | n1 + 1, t5, o1000 =>
    bif decide (t5 < (o1000.length : Int)) then ((at? o1000 t5).bind fun x15 =>
    (at? o1000 t5).bind fun x16 =>
    (ckI (t5 - (1 : Int))).bind fun x17 =>
    (at? o1000 x17).bind fun x18 =>
    (at? o1000 x17).bind fun x19 =>
    (p1 x16 x19).bind fun x20 =>
    bif x20 then ((rng? t5 ((o1000).length : Int) ((o1000).length)).bind fun u23 =>
      m_slices_CompactFunc_LLimpl_Value_Limpl_Value_l2 p1 (m_slices_CompactFunc_LLimpl_Value_Limpl_Value_l1 p1 n1) ((((((o1000).length - (t5).toNat) : Nat) : Int) - (1 : Int)).toNat + 1) t5 (0 + (t5).toNat) ((o1000).length - (t5).toNat) (1 : Int) o1000)
    else (m_slices_CompactFunc_LLimpl_Value_Limpl_Value_j3 p1 (m_slices_CompactFunc_LLimpl_Value_Limpl_Value_l1 p1 n1) t5 o1000))
    else (m_slices_CompactFunc_LLimpl_Value_Limpl_Value_j4 p1 o1000)
def m_slices_CompactFunc_LLimpl_Value_Limpl_Value (o0 : (List (List S_impl_Value))) (p1 : (List S_impl_Value) → (List S_impl_Value) → Option Bool) : Option (List (List S_impl_Value)) :=
  bif decide ((o0.length : Int) < (2 : Int)) then (some o0)
  else (m_slices_CompactFunc_LLimpl_Value_Limpl_Value_l1 p1 (((o0.length : Int) - (1 : Int)).toNat + 1) (1 : Int) o0)
theorem c_slices_CompactFunc_LLimpl_Value_Limpl_Value (o0 : (List (List S_impl_Value))) (p1 : (List S_impl_Value) → (List S_impl_Value) → Option Bool) (f1 : FuncId) (q1 : List LV) (hq1 : ∀ k, LV.at?.atL k q1 = false) (hf1 : ∀ a0 a1 v, p1 a0 a1 = some v → Ret Try.prog f1 (e_Limpl_Value a0 :: e_Limpl_Value a1 :: q1) (e_bool v)) (r : (List (List S_impl_Value))) (h : m_slices_CompactFunc_LLimpl_Value_Limpl_Value o0 p1 = some r) : Does Try.prog f_slices_CompactFunc_LLimpl_Value_Limpl_Value [.own 0 0 o0.length, .clo f1 q1] [(0, (lob 1 e_Limpl_Value o0))] (fun x hh => x = .nw 1 (r.map e_Limpl_Value) false ∧ hh = []) := by
  refine Does.goG [0] F_slices_CompactFunc_LLimpl_Value_Limpl_Value rfl e_slices_CompactFunc_LLimpl_Value_Limpl_Value n_slices_CompactFunc_LLimpl_Value_Limpl_Value rfl (rvs := [.tmp 4]) rfl rfl ?_
  intro w0 ok0 lent ρ0
  refine LWP.rekey 0 0 1000 rfl rfl rfl rfl rfl rfl ?_
  refine LWP.tell [(0, (.own 1000 0 (o0).length)), (1, (.clo f1 q1))] [(1000, (lob 1 e_Limpl_Value o0))] ⟨rfl, get_kill_of (get_kill_of rfl (hq1 1000)) (hq1 0), trivial⟩ ⟨rfl, trivial⟩ (by simp [hkeys]) ?_
  refine LWP.seq_k fun N1 hN1 => ?_
  refine LWP.region (l := [_]) ?_
  refine LWo.assign _ rfl (hn := ?_)
  refine LWo.ownNil 4 1004 1 rfl rfl rfl ?_
  refine LWo.known 1 (.clo f1 q1) (get_kill_of rfl (hq1 1004)) ?_
  refine LWo.known 4 (.own 1004 0 ([] : (List (List S_impl_Value))).length) rfl ?_
  refine LWo.nil (hN1 _ ?_)
  refine LWP.seq_k fun N2 hN2 => ?_
  refine LWP.seq_k fun N3 hN3 => ?_
  refine LWP.region (l := [_,_,_]) ?_
  refine LWo.move (.own 1000 0 (o0).length) rfl (hn := ?_)
  refine LWo.lenO u_LLimpl_Value rfl (hn := ?_)
  refine LWo.int _ rfl rfl rfl (hn := ?_)
  refine LWo.nil (hN3 _ ?_)
  refine LWP.cond_split rfl (fun h4 => ?_) (fun h4 => ?_)
  · have h := bT h4 h
    refine LWP.seq_k fun N5 hN5 => ?_
    refine LWP.region (l := [_,_]) ?_
    refine LWo.move (.own 1000 0 (o0).length) rfl (hn := ?_)
    refine LWo.assign (.own 1000 0 (o0).length) rfl (hn := ?_)
    refine LWo.nil (hN5 _ ?_)
    obtain rfl := Option.some.inj h
    refine LWP.ret (QG.mk (.inr rfl) (.cons (.tmp (x := (.own 1000 0 (o0).length)) rfl) (.nil)) (RetOK.one0 (.nwM rfl rfl) (by decide)) rfl rfl)
  · have h := bF h4 h
    refine LWP.skip (hN2 _ ?_)
    refine LWP.join (α := (List (List S_impl_Value))) (fun z : (List (List S_impl_Value)) => [(0, (.own 1000 0 (z).length))]) (fun z : (List (List S_impl_Value)) => [(1000, (lob 1 e_Limpl_Value z))]) (fun z : (List (List S_impl_Value)) => m_slices_CompactFunc_LLimpl_Value_Limpl_Value_j4 p1 z) r (fun _ => by simp [hkeys]) ?_ ?_
    · rintro o1000 h
      replace h : m_slices_CompactFunc_LLimpl_Value_Limpl_Value_j4 p1 o1000 = some _ := h
      refine LWP.seq_k fun N54 hN54 => ?_
      refine LWP.region (l := [_,_]) ?_
      refine LWo.move (.own 1000 0 (o1000).length) rfl (hn := ?_)
      refine LWo.assign (.own 1000 0 (o1000).length) rfl (hn := ?_)
      refine LWo.nil (hN54 _ ?_)
      obtain rfl := Option.some.inj h
      refine LWP.ret (QG.mk (.inr rfl) (.cons (.tmp (x := (.own 1000 0 (o1000).length)) rfl) (.nil)) (RetOK.one0 (.nwM rfl rfl) (by decide)) rfl rfl)
    · intro N6 hN6
      refine LWP.seq_k fun N7 hN7 => ?_
      refine LWP.region (l := [_]) ?_
      refine LWo.assign (e_int (1 : Int)) rfl (hn := ?_)
      refine LWo.nil (hN7 _ ?_)
      refine LWP.block ?_
      refine LWP.loopM (α := Int × (List (List S_impl_Value))) (fun z : Int × (List (List S_impl_Value)) => [(0, (.own 1000 0 (z.2).length)), (1, (.clo f1 q1)), (5, (e_int z.1))]) (fun z : Int × (List (List S_impl_Value)) => [(1000, (lob 1 e_Limpl_Value z.2))]) (fun n1 (z : Int × (List (List S_impl_Value))) => m_slices_CompactFunc_LLimpl_Value_Limpl_Value_l1 p1 n1 z.1 z.2) r _ ((1 : Int), o0) h (fun _ => rfl) (fun _ => by simp [hkeys]) ⟨rfl, rfl, rfl, trivial⟩ ⟨rfl, trivial⟩ ?_
      rintro n1 ⟨t5, o1000⟩ h N8 hN8
      replace h : m_slices_CompactFunc_LLimpl_Value_Limpl_Value_l1 p1 (n1 + 1) t5 o1000 = some _ := h
      refine LWP.seq_k fun N10 hN10 => ?_
      refine LWP.seq_k fun N11 hN11 => ?_
      refine LWP.region (l := [_,_,_,_]) ?_
      refine LWo.move (e_int t5) rfl (hn := ?_)
      refine LWo.move (.own 1000 0 (o1000).length) rfl (hn := ?_)
      refine LWo.lenO u_LLimpl_Value rfl (hn := ?_)
      refine LWo.int _ rfl rfl rfl (hn := ?_)
      refine LWo.nil (hN11 _ ?_)
      refine LWP.cond_split rfl (fun h12 => ?_) (fun h12 => ?_)
      · have h := bT h12 h
        refine LWP.skip (hN10 _ ?_)
        refine LWP.join (α := Int × (List (List S_impl_Value))) (fun z : Int × (List (List S_impl_Value)) => [(0, (.own 1000 0 (z.2).length)), (1, (.clo f1 q1)), (5, (e_int z.1))]) (fun z : Int × (List (List S_impl_Value)) => [(1000, (lob 1 e_Limpl_Value z.2))]) (fun z : Int × (List (List S_impl_Value)) => m_slices_CompactFunc_LLimpl_Value_Limpl_Value_j3 p1 (m_slices_CompactFunc_LLimpl_Value_Limpl_Value_l1 p1 n1) z.1 z.2) r (fun _ => by simp [hkeys]) ?_ ?_
        · rintro ⟨t5, o1000⟩ h
          replace h : m_slices_CompactFunc_LLimpl_Value_Limpl_Value_j3 p1 (m_slices_CompactFunc_LLimpl_Value_Limpl_Value_l1 p1 n1) t5 o1000 = some _ := h
          refine LWP.region (l := [_,_,_]) ?_
          refine LWo.move (e_int t5) rfl (hn := ?_)
          refine bk h fun x53 e53 h => ?_
          refine LWo.int _ rfl rfl (add_ck e53) (hn := ?_)
          refine LWo.assign (e_int x53) rfl (hn := ?_)
          refine LWo.nil (hN8 (x53, o1000) _ ⟨rfl, rfl, rfl, trivial⟩ ⟨rfl, trivial⟩ h)
        · intro N13 hN13
          refine LWP.block ?_
          refine LWP.seq_k fun N14 hN14 => ?_
          refine bk h fun x15 e15 h => ?_
          refine bk h fun x16 e16 h => ?_
          refine bk h fun x17 e17 h => ?_
          refine bk h fun x18 e18 h => ?_
          refine bk h fun x19 e19 h => ?_
          refine bk h fun x20 e20 h => ?_
          refine LWP.drawE (l := [_,_,_,_,_,_,_,_,_,_,_]) [] [0, 1, 5] [([1], []), ([0], []), ([5], []), ([19, 20], [1000]), ([21], [1000]), ([0], []), ([5], []), ([24], []), ([23, 25], [1000]), ([26], [1000]), ([18, 22, 27], [])] [0, 1, 5, 28] [1000] mixed (by kernel_rfl) rfl (by decide) ?_
          refine ⟨rfl, .put 18 _, trivial, fun u hg hu hh => LWo.move (.clo f1 q1) hu.1 (hn := LWo.nil ⟨rfl, .inl rfl, hg⟩), ?_⟩
          refine ⟨rfl, .put 19 _, trivial, fun u hg hu hh => LWo.move (.own 1000 0 (o1000).length) hu.1 (hn := LWo.nil ⟨rfl, .inl rfl, hg⟩), ?_⟩
          refine ⟨rfl, .put 20 _, trivial, fun u hg hu hh => LWo.move (e_int t5) hu.1 (hn := LWo.nil ⟨rfl, .inl rfl, hg⟩), ?_⟩
          refine ⟨rfl, .put 21 _, trivial, fun u hg hu hh => LWo.indexO e15 rfl u_LLimpl_Value s_Limpl_Value hu.1 hu.2.1 hh.1 (hn := LWo.nil ⟨rfl, .inl rfl, hg⟩), ?_⟩
          refine ⟨rfl, .put 22 _, trivial, fun u hg hu hh => LWo.loadO1 (e_Limpl_Value x16) e16 g_Limpl_Value hu.1 hh.1 rfl (hn := LWo.nil ⟨rfl, .inl rfl, hg⟩), ?_⟩
          refine ⟨rfl, .put 23 _, trivial, fun u hg hu hh => LWo.move (.own 1000 0 (o1000).length) hu.1 (hn := LWo.nil ⟨rfl, .inl rfl, hg⟩), ?_⟩
          refine ⟨rfl, .put 24 _, trivial, fun u hg hu hh => LWo.move (e_int t5) hu.1 (hn := LWo.nil ⟨rfl, .inl rfl, hg⟩), ?_⟩
          refine ⟨rfl, .put 25 _, trivial, fun u hg hu hh => LWo.int _ hu.1 rfl (sub_ck e17) (hn := LWo.nil ⟨rfl, .inl rfl, hg⟩), ?_⟩
          refine ⟨rfl, .put 26 _, trivial, fun u hg hu hh => LWo.indexO e18 rfl u_LLimpl_Value s_Limpl_Value hu.1 hu.2.1 hh.1 (hn := LWo.nil ⟨rfl, .inl rfl, hg⟩), ?_⟩
          refine ⟨rfl, .put 27 _, trivial, fun u hg hu hh => LWo.loadO1 (e_Limpl_Value x19) e19 g_Limpl_Value hu.1 hh.1 rfl (hn := LWo.nil ⟨rfl, .inl rfl, hg⟩), ?_⟩
          refine ⟨rfl, .put 28 _, trivial, fun u hg hu hh => LWo.vcall hu.1 (avq2 hu.2.1 hu.2.2.1) (hf1 _ _ _ e20) .refl (hn := LWo.nil ⟨rfl, .inl rfl, hg⟩), ?_⟩
          refine ⟨rfl, by kernel_rfl, hN14 _ ?_⟩
          refine LWP.cond_split rfl (fun h21 => ?_) (fun h21 => ?_)
          · have h := bT h21 h
            refine LWP.seq_k fun N22 hN22 => ?_
            refine LWP.region (l := [_,_,_,_]) ?_
            refine LWo.move (.own 1000 0 (o1000).length) rfl (hn := ?_)
            refine LWo.move (e_int t5) rfl (hn := ?_)
            refine bk h fun u23 e23 h => ?_
            refine LWo.cutOM e23 u_LLimpl_Value s_Limpl_Value rfl rfl ⟨_, rfl⟩ rfl (hn := ?_)
            refine LWo.assign (.own 1000 (0 + (t5).toNat) ((o1000).length - (t5).toNat)) rfl (hn := ?_)
            refine LWo.nil (hN22 _ ?_)
            refine LWP.join (α := Int × (List (List S_impl_Value))) (fun z : Int × (List (List S_impl_Value)) => [(0, (.own 1000 0 (z.2).length)), (5, (e_int z.1))]) (fun z : Int × (List (List S_impl_Value)) => [(1000, (lob 1 e_Limpl_Value z.2))]) (fun z : Int × (List (List S_impl_Value)) => m_slices_CompactFunc_LLimpl_Value_Limpl_Value_j2 p1 (m_slices_CompactFunc_LLimpl_Value_Limpl_Value_l1 p1 n1) z.1 z.2) r (fun _ => by simp [hkeys]) ?_ ?_
            · rintro ⟨t5, o1000⟩ h
              replace h : m_slices_CompactFunc_LLimpl_Value_Limpl_Value_j2 p1 (m_slices_CompactFunc_LLimpl_Value_Limpl_Value_l1 p1 n1) t5 o1000 = some _ := h
              refine LWP.seq_k fun N48 hN48 => ?_
              refine LWP.region (l := [_,_,_,_]) ?_
              refine LWo.move (.own 1000 0 (o1000).length) rfl (hn := ?_)
              refine LWo.move (e_int t5) rfl (hn := ?_)
              refine bk h fun u49 e49 h => ?_
              refine LWo.cutOM e49 u_LLimpl_Value s_Limpl_Value rfl rfl ⟨_, rfl⟩ rfl (hn := ?_)
              refine LWo.clearO (f := e_Limpl_Value) (l := o1000) none u_LLimpl_Value z_Limpl_Value rfl rfl rfl rfl rfl (hn := ?_)
              refine LWo.nil (hN48 _ ?_)
              refine LWP.seq_k fun N50 hN50 => ?_
              refine LWP.region (l := [_,_,_,_]) ?_
              refine LWo.move (.own 1000 0 ((o1000).length)) rfl (hn := ?_)
              refine LWo.move (e_int t5) rfl (hn := ?_)
              refine bk h fun u51 e51 h => ?_
              refine LWo.cutOM e51 u_LLimpl_Value s_Limpl_Value rfl rfl rfl ⟨_, rfl⟩ (hn := ?_)
              refine LWo.assign (.own 1000 0 ((t5).toNat)) rfl (hn := ?_)
              refine LWo.nil (hN50 _ ?_)
              refine bk h fun u52 e52 h => ?_
              obtain rfl := Option.some.inj h
              refine LWP.ret (QG.mk (.inr rfl) (.cons (.tmp (x := (.own 1000 0 ((t5).toNat))) rfl) (.nil)) (RetOK.one0 (.nwT (leN_b e52) rfl) (by decide)) rfl rfl)
            · intro N24 hN24
              refine LWP.seq_k fun N25 hN25 => ?_
              refine LWP.region (l := [_]) ?_
              refine LWo.assign (e_int (1 : Int)) rfl (hn := ?_)
              refine LWo.nil (hN25 _ ?_)
              refine LWP.block ?_
              refine LWP.loopM (α := Int × Nat × Nat × Int × (List (List S_impl_Value))) (fun z : Int × Nat × Nat × Int × (List (List S_impl_Value)) => [(0, (.own 1000 0 (z.2.2.2.2).length)), (1, (.clo f1 q1)), (5, (e_int z.1)), (6, (.own 1000 z.2.1 z.2.2.1)), (7, (e_int z.2.2.2.1))]) (fun z : Int × Nat × Nat × Int × (List (List S_impl_Value)) => [(1000, (lob 1 e_Limpl_Value z.2.2.2.2))]) (fun n2 (z : Int × Nat × Nat × Int × (List (List S_impl_Value))) => m_slices_CompactFunc_LLimpl_Value_Limpl_Value_l2 p1 (m_slices_CompactFunc_LLimpl_Value_Limpl_Value_l1 p1 n1) n2 z.1 z.2.1 z.2.2.1 z.2.2.2.1 z.2.2.2.2) r _ (t5, (0 + (t5).toNat), ((o1000).length - (t5).toNat), (1 : Int), o1000) h (fun _ => rfl) (fun _ => by simp [hkeys]) ⟨rfl, rfl, rfl, rfl, rfl, trivial⟩ ⟨rfl, trivial⟩ ?_
              rintro n2 ⟨t5, t6o, t6n, t7, o1000⟩ h N26 hN26
              replace h : m_slices_CompactFunc_LLimpl_Value_Limpl_Value_l2 p1 (m_slices_CompactFunc_LLimpl_Value_Limpl_Value_l1 p1 n1) (n2 + 1) t5 t6o t6n t7 o1000 = some _ := h
              refine LWP.seq_k fun N28 hN28 => ?_
              refine LWP.seq_k fun N29 hN29 => ?_
              refine LWP.region (l := [_,_,_,_]) ?_
              refine LWo.move (e_int t7) rfl (hn := ?_)
              refine LWo.move (.own 1000 t6o t6n) rfl (hn := ?_)
              refine LWo.lenO u_LLimpl_Value rfl (hn := ?_)
              refine LWo.int _ rfl rfl rfl (hn := ?_)
              refine LWo.nil (hN29 _ ?_)
              refine LWP.cond_split rfl (fun h30 => ?_) (fun h30 => ?_)
              · have h := bT h30 h
                refine LWP.skip (hN28 _ ?_)
                refine LWP.join (α := Int × Nat × Nat × Int × (List (List S_impl_Value))) (fun z : Int × Nat × Nat × Int × (List (List S_impl_Value)) => [(0, (.own 1000 0 (z.2.2.2.2).length)), (1, (.clo f1 q1)), (5, (e_int z.1)), (6, (.own 1000 z.2.1 z.2.2.1)), (7, (e_int z.2.2.2.1))]) (fun z : Int × Nat × Nat × Int × (List (List S_impl_Value)) => [(1000, (lob 1 e_Limpl_Value z.2.2.2.2))]) (fun z : Int × Nat × Nat × Int × (List (List S_impl_Value)) => m_slices_CompactFunc_LLimpl_Value_Limpl_Value_j1 p1 (m_slices_CompactFunc_LLimpl_Value_Limpl_Value_l1 p1 n1) (m_slices_CompactFunc_LLimpl_Value_Limpl_Value_l2 p1 (m_slices_CompactFunc_LLimpl_Value_Limpl_Value_l1 p1 n1) n2) z.1 z.2.1 z.2.2.1 z.2.2.2.1 z.2.2.2.2) r (fun _ => by simp [hkeys]) ?_ ?_
                · rintro ⟨t5, t6o, t6n, t7, o1000⟩ h
                  replace h : m_slices_CompactFunc_LLimpl_Value_Limpl_Value_j1 p1 (m_slices_CompactFunc_LLimpl_Value_Limpl_Value_l1 p1 n1) (m_slices_CompactFunc_LLimpl_Value_Limpl_Value_l2 p1 (m_slices_CompactFunc_LLimpl_Value_Limpl_Value_l1 p1 n1) n2) t5 t6o t6n t7 o1000 = some _ := h
                  refine LWP.region (l := [_,_,_]) ?_
                  refine LWo.move (e_int t7) rfl (hn := ?_)
                  refine bk h fun x47 e47 h => ?_
                  refine LWo.int _ rfl rfl (add_ck e47) (hn := ?_)
                  refine LWo.assign (e_int x47) rfl (hn := ?_)
                  refine LWo.nil (hN26 (t5, t6o, t6n, x47, o1000) _ ⟨rfl, rfl, rfl, rfl, rfl, trivial⟩ ⟨rfl, trivial⟩ h)
                · intro N31 hN31
                  refine LWP.block ?_
                  refine LWP.seq_k fun N32 hN32 => ?_
                  refine bk h fun x33 e33 h => ?_
                  refine bk h fun x34 e34 h => ?_
                  refine bk h fun x35 e35 h => ?_
                  refine bk h fun x36 e36 h => ?_
                  refine bk h fun x37 e37 h => ?_
                  refine bk h fun x38 e38 h => ?_
                  refine LWP.drawE (l := [_,_,_,_,_,_,_,_,_,_,_,_]) [] [0, 1, 5, 6, 7] [([1], []), ([6], []), ([7], []), ([39, 40], [1000]), ([41], [1000]), ([6], []), ([7], []), ([44], []), ([43, 45], [1000]), ([46], [1000]), ([38, 42, 47], []), ([48], [])] [0, 1, 5, 6, 7, 49] [1000] mixed (by kernel_rfl) rfl (by decide) ?_
                  refine ⟨rfl, .put 38 _, trivial, fun u hg hu hh => LWo.move (.clo f1 q1) hu.1 (hn := LWo.nil ⟨rfl, .inl rfl, hg⟩), ?_⟩
                  refine ⟨rfl, .put 39 _, trivial, fun u hg hu hh => LWo.move (.own 1000 t6o t6n) hu.1 (hn := LWo.nil ⟨rfl, .inl rfl, hg⟩), ?_⟩
                  refine ⟨rfl, .put 40 _, trivial, fun u hg hu hh => LWo.move (e_int t7) hu.1 (hn := LWo.nil ⟨rfl, .inl rfl, hg⟩), ?_⟩
                  refine ⟨rfl, .put 41 _, trivial, fun u hg hu hh => LWo.indexOC e33 u_LLimpl_Value s_Limpl_Value hu.1 hu.2.1 hh.1 (hn := LWo.nil ⟨rfl, .inl rfl, hg⟩), ?_⟩
                  refine ⟨rfl, .put 42 _, trivial, fun u hg hu hh => LWo.loadO1 (e_Limpl_Value x34) e34 g_Limpl_Value hu.1 hh.1 rfl (hn := LWo.nil ⟨rfl, .inl rfl, hg⟩), ?_⟩
                  refine ⟨rfl, .put 43 _, trivial, fun u hg hu hh => LWo.move (.own 1000 t6o t6n) hu.1 (hn := LWo.nil ⟨rfl, .inl rfl, hg⟩), ?_⟩
                  refine ⟨rfl, .put 44 _, trivial, fun u hg hu hh => LWo.move (e_int t7) hu.1 (hn := LWo.nil ⟨rfl, .inl rfl, hg⟩), ?_⟩
                  refine ⟨rfl, .put 45 _, trivial, fun u hg hu hh => LWo.int _ hu.1 rfl (sub_ck e35) (hn := LWo.nil ⟨rfl, .inl rfl, hg⟩), ?_⟩
                  refine ⟨rfl, .put 46 _, trivial, fun u hg hu hh => LWo.indexOC e36 u_LLimpl_Value s_Limpl_Value hu.1 hu.2.1 hh.1 (hn := LWo.nil ⟨rfl, .inl rfl, hg⟩), ?_⟩
                  refine ⟨rfl, .put 47 _, trivial, fun u hg hu hh => LWo.loadO1 (e_Limpl_Value x37) e37 g_Limpl_Value hu.1 hh.1 rfl (hn := LWo.nil ⟨rfl, .inl rfl, hg⟩), ?_⟩
                  refine ⟨rfl, .put 48 _, trivial, fun u hg hu hh => LWo.vcall hu.1 (avq2 hu.2.1 hu.2.2.1) (hf1 _ _ _ e38) .refl (hn := LWo.nil ⟨rfl, .inl rfl, hg⟩), ?_⟩
                  refine ⟨rfl, .put 49 _, trivial, fun u hg hu hh => LWo.not hu.1 (hn := LWo.nil ⟨rfl, .inl rfl, hg⟩), ?_⟩
                  refine ⟨rfl, by kernel_rfl, hN32 _ ?_⟩
                  refine LWP.cond_split rfl (fun h39 => ?_) (fun h39 => ?_)
                  · have h := bT h39 h
                    refine LWP.seq_k fun N40 hN40 => ?_
                    refine LWP.region (l := [_,_,_,_,_,_,_,_]) ?_
                    refine LWo.move (.own 1000 0 (o1000).length) rfl (hn := ?_)
                    refine LWo.move (e_int t5) rfl (hn := ?_)
                    refine LWo.move (.own 1000 t6o t6n) rfl (hn := ?_)
                    refine LWo.move (e_int t7) rfl (hn := ?_)
                    refine bk h fun x41 e41 h => ?_
                    refine LWo.indexOC e41 u_LLimpl_Value s_Limpl_Value rfl rfl rfl (hn := ?_)
                    refine bk h fun x42 e42 h => ?_
                    refine LWo.loadO1 (e_Limpl_Value x42) e42 g_Limpl_Value rfl rfl rfl (hn := ?_)
                    refine bk h fun x43 e43 h => ?_
                    refine LWo.indexO e43 rfl u_LLimpl_Value s_Limpl_Value rfl rfl rfl (hn := ?_)
                    refine bk h fun x44 e44 h => ?_
                    refine lk h fun y45 e45 h => ?_
                    refine LWo.storeO y45 e44 s_Limpl_Value rfl rfl rfl rfl rfl rfl rfl (by rw [e45]; rfl) (hn := ?_)
                    refine LWo.nil (hN40 _ ?_)
                    refine LWP.region (l := [_,_,_]) ?_
                    refine LWo.move (e_int t5) rfl (hn := ?_)
                    refine bk h fun x46 e46 h => ?_
                    refine LWo.int _ rfl rfl (add_ck e46) (hn := ?_)
                    refine LWo.assign (e_int x46) rfl (hn := ?_)
                    refine LWo.nil (hN31 (x46, t6o, t6n, t7, (o1000.set (t5).toNat y45)) _ ⟨(congrArg (LV.own 1000 0) List.length_set.symm), rfl, rfl, rfl, rfl, trivial⟩ ⟨rfl, trivial⟩ h)
                  · have h := bF h39 h
                    refine LWP.skip (hN31 (t5, t6o, t6n, t7, o1000) _ ⟨rfl, rfl, rfl, rfl, rfl, trivial⟩ ⟨rfl, trivial⟩ h)
              · have h := bF h30 h
                refine LWP.exit (hN24 (t5, o1000) _ ⟨rfl, rfl, trivial⟩ ⟨rfl, trivial⟩ h)
          · have h := bF h21 h
            refine LWP.skip (hN13 (t5, o1000) _ ⟨rfl, rfl, rfl, trivial⟩ ⟨rfl, trivial⟩ h)
      · have h := bF h12 h
        refine LWP.exit (hN6 o1000 _ ⟨rfl, trivial⟩ ⟨rfl, trivial⟩ h)

def m_slices_Equal_Limpl_Value_impl_Value_j1  : Option Bool :=
  some true
def m_slices_Equal_Limpl_Value_impl_Value_l1 : Nat → (List S_impl_Value) → (List S_impl_Value) → Int → Int → Option Bool
  | 0, _, _, _, _ => none
  | n1 + 1, t0, t1, t12, t13 =>
    bif decide (t13 < t12) then ((at? t0 t13).bind fun x16 =>
    (at? t1 t13).bind fun x17 =>
    bif (!(decide (x16 = x17))) then (some false)
    else ((ckI (t13 + (1 : Int))).bind fun x20 =>
    (m_slices_Equal_Limpl_Value_impl_Value_l1  n1) t0 t1 t12 x20))
    else (m_slices_Equal_Limpl_Value_impl_Value_j1  )
def m_slices_Equal_Limpl_Value_impl_Value (a0 : (List S_impl_Value)) (a1 : (List S_impl_Value)) : Option Bool :=
  bif ((a0.length : Int) != (a1.length : Int)) then (some false)
  else (m_slices_Equal_Limpl_Value_impl_Value_l1  (((a0.length : Int) - (0 : Int)).toNat + 1) a0 a1 (a0.length : Int) (0 : Int))
theorem c_slices_Equal_Limpl_Value_impl_Value (a0 : (List S_impl_Value)) (a1 : (List S_impl_Value)) (r : Bool) (h : m_slices_Equal_Limpl_Value_impl_Value a0 a1 = some r) : Ret Try.prog f_slices_Equal_Limpl_Value_impl_Value [e_Limpl_Value a0, e_Limpl_Value a1] (e_bool r) := by
  refine Does.goG [] F_slices_Equal_Limpl_Value_impl_Value rfl e_slices_Equal_Limpl_Value_impl_Value n_slices_Equal_Limpl_Value_impl_Value rfl (rvs := [.tmp 4]) rfl rfl ?_
  intro w0 ok0 lent ρ0
  refine LWP.seq_k fun N1 hN1 => ?_
  refine LWP.region (l := [_]) ?_
  refine LWo.assign (e_bool false) rfl (hn := ?_)
  refine LWo.nil (hN1 _ ?_)
  refine LWP.seq_k fun N2 hN2 => ?_
  refine LWP.seq_k fun N3 hN3 => ?_
  refine LWP.region (l := [_,_,_,_,_]) ?_
  refine LWo.move (e_Limpl_Value a0) rfl (hn := ?_)
  refine LWo.lenM (f := e_impl_Value) (l := a0) u_Limpl_Value rfl (hn := ?_)
  refine LWo.move (e_Limpl_Value a1) rfl (hn := ?_)
  refine LWo.lenM (f := e_impl_Value) (l := a1) u_Limpl_Value rfl (hn := ?_)
  refine LWo.int _ rfl rfl rfl (hn := ?_)
  refine LWo.nil (hN3 _ ?_)
  refine LWP.cond_split rfl (fun h4 => ?_) (fun h4 => ?_)
  · have h := bT h4 h
    refine LWP.seq_k fun N5 hN5 => ?_
    refine LWP.region (l := [_]) ?_
    refine LWo.assign (e_bool false) rfl (hn := ?_)
    refine LWo.nil (hN5 _ ?_)
    obtain rfl := Option.some.inj h
    refine LWP.ret (QG.mk (.inr rfl) (.cons (.tmp (x := (e_bool false)) rfl) (.nil)) (RetOK.one0 (.pure rfl) (by decide)) rfl rfl)
  · have h := bF h4 h
    refine LWP.skip (hN2 _ ?_)
    refine LWP.join (α := Unit) (fun z : Unit => []) (fun z : Unit => []) (fun z : Unit => m_slices_Equal_Limpl_Value_impl_Value_j1  ) r (fun _ => by simp [hkeys]) ?_ ?_
    · rintro _ h
      replace h : m_slices_Equal_Limpl_Value_impl_Value_j1   = some _ := h
      refine LWP.seq_k fun N21 hN21 => ?_
      refine LWP.region (l := [_]) ?_
      refine LWo.assign (e_bool true) rfl (hn := ?_)
      refine LWo.nil (hN21 _ ?_)
      obtain rfl := Option.some.inj h
      refine LWP.ret (QG.mk (.inr rfl) (.cons (.tmp (x := (e_bool true)) rfl) (.nil)) (RetOK.one0 (.pure rfl) (by decide)) rfl rfl)
    · intro N6 hN6
      refine LWP.seq_k fun N7 hN7 => ?_
      refine LWP.region (l := [_,_,_]) ?_
      refine LWo.move (e_Limpl_Value a0) rfl (hn := ?_)
      refine LWo.lenM (f := e_impl_Value) (l := a0) u_Limpl_Value rfl (hn := ?_)
      refine LWo.move (e_int (0 : Int)) rfl (hn := ?_)
      refine LWo.nil (hN7 _ ?_)
      refine LWP.block ?_
      refine LWP.loopM (α := (List S_impl_Value) × (List S_impl_Value) × Int × Int) (fun z : (List S_impl_Value) × (List S_impl_Value) × Int × Int => [(0, (e_Limpl_Value z.1)), (1, (e_Limpl_Value z.2.1)), (12, (e_int z.2.2.1)), (13, (e_int z.2.2.2))]) (fun z : (List S_impl_Value) × (List S_impl_Value) × Int × Int => []) (fun n1 (z : (List S_impl_Value) × (List S_impl_Value) × Int × Int) => m_slices_Equal_Limpl_Value_impl_Value_l1  n1 z.1 z.2.1 z.2.2.1 z.2.2.2) r _ (a0, a1, (a0.length : Int), (0 : Int)) h (fun _ => rfl) (fun _ => by simp [hkeys]) ⟨rfl, rfl, rfl, rfl, trivial⟩ trivial ?_
      rintro n1 ⟨t0, t1, t12, t13⟩ h N8 hN8
      replace h : m_slices_Equal_Limpl_Value_impl_Value_l1  (n1 + 1) t0 t1 t12 t13 = some _ := h
      refine LWP.seq_k fun N10 hN10 => ?_
      refine LWP.region (l := [_]) ?_
      refine LWo.int _ rfl rfl rfl (hn := ?_)
      refine LWo.nil (hN10 _ ?_)
      refine LWP.seq_k fun N11 hN11 => ?_
      refine LWP.cond_split rfl (fun h12 => ?_) (fun h12 => ?_)
      · have h := bT h12 h
        refine LWP.skip (hN11 _ ?_)
        refine LWP.seq_k fun N13 hN13 => ?_
        refine LWP.block ?_
        refine LWP.seq_k fun N14 hN14 => ?_
        refine LWP.region (l := [_,_]) ?_
        refine LWo.move (e_int t13) rfl (hn := ?_)
        refine LWo.assign (e_int t13) rfl (hn := ?_)
        refine LWo.nil (hN14 _ ?_)
        refine LWP.seq_k fun N15 hN15 => ?_
        refine bk h fun x16 e16 h => ?_
        refine bk h fun x17 e17 h => ?_
        refine LWP.drawE (l := [_,_,_,_,_,_,_,_,_]) [] [0, 1, 5, 12, 13] [([0], []), ([5], []), ([16, 17], []), ([18], []), ([1], []), ([5], []), ([20, 21], []), ([22], []), ([19, 23], [])] [0, 1, 12, 13, 24] [] mixed (by kernel_rfl) rfl (by decide) ?_
        refine ⟨rfl, .put 16 _, trivial, fun u hg hu hh => LWo.move (e_Limpl_Value t0) hu.1 (hn := LWo.nil ⟨rfl, .inl rfl, hg⟩), ?_⟩
        refine ⟨rfl, .put 17 _, trivial, fun u hg hu hh => LWo.move (e_int t13) hu.1 (hn := LWo.nil ⟨rfl, .inl rfl, hg⟩), ?_⟩
        refine ⟨rfl, .put 18 _, trivial, fun u hg hu hh => LWo.indexM (f := e_impl_Value) e16 u_Limpl_Value s_impl_Value hu.1 hu.2.1 (hn := LWo.nil ⟨rfl, .inl rfl, hg⟩), ?_⟩
        refine ⟨rfl, .put 19 _, trivial, fun u hg hu hh => LWo.loadN ((e_impl_Value x16)).cells g_impl_Value s_impl_Value hu.1 (Nat.le_of_ble_eq_true rfl) rfl (hn := LWo.nil ⟨rfl, .inl rfl, hg⟩), ?_⟩
        refine ⟨rfl, .put 20 _, trivial, fun u hg hu hh => LWo.move (e_Limpl_Value t1) hu.1 (hn := LWo.nil ⟨rfl, .inl rfl, hg⟩), ?_⟩
        refine ⟨rfl, .put 21 _, trivial, fun u hg hu hh => LWo.move (e_int t13) hu.1 (hn := LWo.nil ⟨rfl, .inl rfl, hg⟩), ?_⟩
        refine ⟨rfl, .put 22 _, trivial, fun u hg hu hh => LWo.indexM (f := e_impl_Value) e17 u_Limpl_Value s_impl_Value hu.1 hu.2.1 (hn := LWo.nil ⟨rfl, .inl rfl, hg⟩), ?_⟩
        refine ⟨rfl, .put 23 _, trivial, fun u hg hu hh => LWo.loadN ((e_impl_Value x17)).cells g_impl_Value s_impl_Value hu.1 (Nat.le_of_ble_eq_true rfl) rfl (hn := LWo.nil ⟨rfl, .inl rfl, hg⟩), ?_⟩
        refine ⟨rfl, .put 24 _, trivial, fun u hg hu hh => LWo.ne_impl_Value _ _ hu.1 hu.2.1 (hn := LWo.nil ⟨rfl, .inl rfl, hg⟩), ?_⟩
        refine ⟨rfl, by kernel_rfl, hN15 _ ?_⟩
        refine LWP.cond_split rfl (fun h18 => ?_) (fun h18 => ?_)
        · have h := bT h18 h
          refine LWP.seq_k fun N19 hN19 => ?_
          refine LWP.region (l := [_]) ?_
          refine LWo.assign (e_bool false) rfl (hn := ?_)
          refine LWo.nil (hN19 _ ?_)
          obtain rfl := Option.some.inj h
          refine LWP.ret (QG.mk (.inr rfl) (.cons (.tmp (x := (e_bool false)) rfl) (.nil)) (RetOK.one0 (.pure rfl) (by decide)) rfl rfl)
        · have h := bF h18 h
          refine LWP.skip (hN13 _ ?_)
          refine LWP.region (l := [_,_]) ?_
          refine bk h fun x20 e20 h => ?_
          refine LWo.int _ rfl rfl (add_ck e20) (hn := ?_)
          refine LWo.move (e_int x20) rfl (hn := ?_)
          refine LWo.nil (hN8 (t0, t1, t12, x20) _ ⟨rfl, rfl, rfl, rfl, trivial⟩ trivial h)
      · have h := bF h12 h
        refine LWP.exit (hN6 () _ trivial trivial h)

theorem cc_slices_Clip_Limpl_Value_impl_Value (xs : List LV) : Does Try.prog f_slices_Clip_Limpl_Value_impl_Value [.own 0 0 xs.length] [(0, { kind := .fro, sz := 3, elems := xs })] (fun r h => r = .nw 3 xs false ∧ h = []) := by
  refine Does.go [0] F_slices_Clip_Limpl_Value_impl_Value rfl e_slices_Clip_Limpl_Value_impl_Value n_slices_Clip_Limpl_Value_impl_Value rfl (ts := [2]) rfl rfl rfl ?_
  intro w0 ok0 lent ρ0
  refine LWP.seq_k fun N1 hN1 => ?_
  refine LWP.region (l := [_]) ?_
  refine LWo.assign _ rfl (hn := ?_)
  refine LWo.nil (hN1 _ ?_)
  refine LWP.seq_k fun N2 hN2 => ?_
  refine LWP.region (l := [_,_,_,_,_,_,_]) ?_
  refine LWo.move _ rfl (hn := ?_)
  refine LWo.move _ rfl (hn := ?_)
  refine LWo.len u_Limpl_Value rfl (hn := ?_)
  refine LWo.move _ rfl (hn := ?_)
  refine LWo.len u_Limpl_Value rfl (hn := ?_)
  refine LWo.cutOwn (l := 0) (h := xs.length) u_Limpl_Value s_impl_Value rfl rfl rfl rfl ⟨_, rfl⟩ ⟨_, _, rfl, Nat.le_refl _, Nat.le_refl _⟩ (.inr (by simp)) (Nat.zero_le _) (Nat.le_refl _) rfl rfl (hn := ?_)
  refine LWo.assign _ rfl (hn := ?_)
  refine LWo.nil (hN2 _ ?_)
  refine LWP.ret (QRet.own1 (.inr rfl) rfl rfl rfl rfl (by simp) ⟨?_, rfl⟩)
  clear hN1 hN2
  exact congrArg (fun l => LV.nw 3 l false) (by simp)
def m_slices_Clip_Limpl_Value_impl_Value_o (o0 : List S_impl_Value) : Option (List S_impl_Value) := some o0
theorem c_slices_Clip_Limpl_Value_impl_Value_o (o0 : List S_impl_Value) (r : List S_impl_Value) (h : m_slices_Clip_Limpl_Value_impl_Value_o o0 = some r) : Does Try.prog f_slices_Clip_Limpl_Value_impl_Value [.own 0 0 o0.length] [(0, lob 3 e_impl_Value o0)] (fun x hh => x = .nw 3 (r.map e_impl_Value) false ∧ hh = []) := by
  cases h
  have := cc_slices_Clip_Limpl_Value_impl_Value (o0.map e_impl_Value)
  rw [List.length_map] at this
  exact this



def m_slices_Clip_Limpl_Value_impl_Value (a0 : (List S_impl_Value)) : Option (List S_impl_Value) :=
  (cut3? a0 (0 : Int) (a0.length : Int) (a0.length : Int)).bind fun x3 =>
  some x3
theorem c_slices_Clip_Limpl_Value_impl_Value (a0 : (List S_impl_Value)) (r : (List S_impl_Value)) (h : m_slices_Clip_Limpl_Value_impl_Value a0 = some r) : Ret Try.prog f_slices_Clip_Limpl_Value_impl_Value [e_Limpl_Value a0] (e_Limpl_Value r) := by
  refine Does.goG [] F_slices_Clip_Limpl_Value_impl_Value rfl e_slices_Clip_Limpl_Value_impl_Value n_slices_Clip_Limpl_Value_impl_Value rfl (rvs := [.tmp 2]) rfl rfl ?_
  intro w0 ok0 lent ρ0
  refine LWP.seq_k fun N1 hN1 => ?_
  refine LWP.region (l := [_]) ?_
  refine LWo.assign _ rfl (hn := ?_)
  refine LWo.weakT 2 (e_Limpl_Value ([] : (List S_impl_Value))) rfl .nil ?_
  refine LWo.nil (hN1 _ ?_)
  refine LWP.seq_k fun N2 hN2 => ?_
  refine LWP.region (l := [_,_,_,_,_,_,_]) ?_
  refine LWo.move (e_Limpl_Value a0) rfl (hn := ?_)
  refine LWo.move (e_Limpl_Value a0) rfl (hn := ?_)
  refine LWo.lenM (f := e_impl_Value) (l := a0) u_Limpl_Value rfl (hn := ?_)
  refine LWo.move (e_Limpl_Value a0) rfl (hn := ?_)
  refine LWo.lenM (f := e_impl_Value) (l := a0) u_Limpl_Value rfl (hn := ?_)
  refine bk h fun x3 e3 h => ?_
  refine LWo.cutM3 (f := e_impl_Value) e3 u_Limpl_Value s_impl_Value rfl rfl ⟨_, rfl⟩ ⟨_, rfl⟩ (hn := ?_)
  refine LWo.assign (e_Limpl_Value x3) rfl (hn := ?_)
  refine LWo.nil (hN2 _ ?_)
  obtain rfl := Option.some.inj h
  refine LWP.ret (QG.mk (.inr rfl) (.cons (.tmp (x := (e_Limpl_Value x3)) rfl) (.nil)) (RetOK.one0 (.pure rfl) (by decide)) rfl rfl)

def m_impl_clone_impl_Value (a0 : (List S_impl_Value)) : Option (List S_impl_Value) :=
  bif ((a0.length : Int) == (0 : Int)) then (some ([] : (List S_impl_Value)))
  else ((appN? a0).bind fun x7 =>
  (m_slices_Clip_Limpl_Value_impl_Value_o x7).bind fun x8 =>
  some x8)
theorem c_impl_clone_impl_Value (a0 : (List S_impl_Value)) (r : (List S_impl_Value)) (h : m_impl_clone_impl_Value a0 = some r) : Ret Try.prog f_impl_clone_impl_Value [e_Limpl_Value a0] (.nw 3 (r.map e_impl_Value) false) := by
  refine Does.goG [] F_impl_clone_impl_Value rfl e_impl_clone_impl_Value n_impl_clone_impl_Value rfl (rvs := [.tmp 2]) rfl rfl ?_
  intro w0 ok0 lent ρ0
  refine LWP.seq_k fun N1 hN1 => ?_
  refine LWP.region (l := [_]) ?_
  refine LWo.assign _ rfl (hn := ?_)
  refine LWo.ownNil 2 1002 3 rfl rfl rfl ?_
  refine LWo.known 2 (.own 1002 0 ([] : (List S_impl_Value)).length) rfl ?_
  refine LWo.nil (hN1 _ ?_)
  refine LWP.seq_k fun N2 hN2 => ?_
  refine LWP.seq_k fun N3 hN3 => ?_
  refine LWP.region (l := [_,_,_]) ?_
  refine LWo.move (e_Limpl_Value a0) rfl (hn := ?_)
  refine LWo.lenM (f := e_impl_Value) (l := a0) u_Limpl_Value rfl (hn := ?_)
  refine LWo.int _ rfl rfl rfl (hn := ?_)
  refine LWo.nil (hN3 _ ?_)
  refine LWP.cond_split rfl (fun h4 => ?_) (fun h4 => ?_)
  · have h := bT h4 h
    refine LWP.seq_k fun N5 hN5 => ?_
    refine LWP.region (l := [_]) ?_
    refine LWo.assign _ rfl (hn := ?_)
    refine LWo.ownNil 2 1002 3 rfl rfl rfl ?_
    refine LWo.known 2 (.own 1002 0 ([] : (List S_impl_Value)).length) rfl ?_
    refine LWo.nil (hN5 _ ?_)
    obtain rfl := Option.some.inj h
    refine LWP.ret (QG.mk (.inr rfl) (.cons (.tmp (x := (.own 1002 0 (([] : (List S_impl_Value))).length)) rfl) (.nil)) (RetOK.one0 (.nwM rfl rfl) (by decide)) rfl rfl)
  · have h := bF h4 h
    refine LWP.skip (hN2 _ ?_)
    refine LWP.seq_k fun N6 hN6 => ?_
    refine LWP.region (l := [_,_,_,_]) ?_
    refine LWo.move (e_Limpl_Value a0) rfl (hn := ?_)
    refine bk h fun x7 e7 h => ?_
    refine LWo.appendC (f := e_impl_Value) 1007 e7 u_Limpl_Value u_Limpl_Value (fun _ h => by cases h) i_impl_Value rfl rfl (.sl rfl) (fun _ => rfl) rfl rfl (hn := ?_)
    refine bk h fun x8 e8 h => ?_
    refine LWo.tcallN (e := e_impl_Value) (e' := e_impl_Value) 1008 rfl rfl (c_slices_Clip_Limpl_Value_impl_Value_o _ _ e8) (fun _ => rfl) rfl rfl rfl rfl (hn := ?_)
    refine LWo.assign (.own 1008 0 (x8).length) rfl (hn := ?_)
    refine LWo.nil (hN6 _ ?_)
    obtain rfl := Option.some.inj h
    refine LWP.ret (QG.mk (.inr rfl) (.cons (.tmp (x := (.own 1008 0 (x8).length)) rfl) (.nil)) (RetOK.one0 (.nwM rfl rfl) (by decide)) rfl rfl)

theorem cc_slices_Clip_LLimpl_Value_Limpl_Value (xs : List LV) : Does Try.prog f_slices_Clip_LLimpl_Value_Limpl_Value [.own 0 0 xs.length] [(0, { kind := .fro, sz := 1, elems := xs })] (fun r h => r = .nw 1 xs false ∧ h = []) := by
  refine Does.go [0] F_slices_Clip_LLimpl_Value_Limpl_Value rfl e_slices_Clip_LLimpl_Value_Limpl_Value n_slices_Clip_LLimpl_Value_Limpl_Value rfl (ts := [2]) rfl rfl rfl ?_
  intro w0 ok0 lent ρ0
  refine LWP.seq_k fun N1 hN1 => ?_
  refine LWP.region (l := [_]) ?_
  refine LWo.assign _ rfl (hn := ?_)
  refine LWo.nil (hN1 _ ?_)
  refine LWP.seq_k fun N2 hN2 => ?_
  refine LWP.region (l := [_,_,_,_,_,_,_]) ?_
  refine LWo.move _ rfl (hn := ?_)
  refine LWo.move _ rfl (hn := ?_)
  refine LWo.len u_LLimpl_Value rfl (hn := ?_)
  refine LWo.move _ rfl (hn := ?_)
  refine LWo.len u_LLimpl_Value rfl (hn := ?_)
  refine LWo.cutOwn (l := 0) (h := xs.length) u_LLimpl_Value s_Limpl_Value rfl rfl rfl rfl ⟨_, rfl⟩ ⟨_, _, rfl, Nat.le_refl _, Nat.le_refl _⟩ (.inr (by simp)) (Nat.zero_le _) (Nat.le_refl _) rfl rfl (hn := ?_)
  refine LWo.assign _ rfl (hn := ?_)
  refine LWo.nil (hN2 _ ?_)
  refine LWP.ret (QRet.own1 (.inr rfl) rfl rfl rfl rfl (by simp) ⟨?_, rfl⟩)
  clear hN1 hN2
  exact congrArg (fun l => LV.nw 1 l false) (by simp)
def m_slices_Clip_LLimpl_Value_Limpl_Value_o (o0 : List (List S_impl_Value)) : Option (List (List S_impl_Value)) := some o0
theorem c_slices_Clip_LLimpl_Value_Limpl_Value_o (o0 : List (List S_impl_Value)) (r : List (List S_impl_Value)) (h : m_slices_Clip_LLimpl_Value_Limpl_Value_o o0 = some r) : Does Try.prog f_slices_Clip_LLimpl_Value_Limpl_Value [.own 0 0 o0.length] [(0, lob 1 e_Limpl_Value o0)] (fun x hh => x = .nw 1 (r.map e_Limpl_Value) false ∧ hh = []) := by
  cases h
  have := cc_slices_Clip_LLimpl_Value_Limpl_Value (o0.map e_Limpl_Value)
  rw [List.length_map] at this
  exact this



def m_slices_Clip_LLimpl_Value_Limpl_Value (a0 : (List (List S_impl_Value))) : Option (List (List S_impl_Value)) :=
  (cut3? a0 (0 : Int) (a0.length : Int) (a0.length : Int)).bind fun x3 =>
  some x3
theorem c_slices_Clip_LLimpl_Value_Limpl_Value (a0 : (List (List S_impl_Value))) (r : (List (List S_impl_Value))) (h : m_slices_Clip_LLimpl_Value_Limpl_Value a0 = some r) : Ret Try.prog f_slices_Clip_LLimpl_Value_Limpl_Value [e_LLimpl_Value a0] (e_LLimpl_Value r) := by
  refine Does.goG [] F_slices_Clip_LLimpl_Value_Limpl_Value rfl e_slices_Clip_LLimpl_Value_Limpl_Value n_slices_Clip_LLimpl_Value_Limpl_Value rfl (rvs := [.tmp 2]) rfl rfl ?_
  intro w0 ok0 lent ρ0
  refine LWP.seq_k fun N1 hN1 => ?_
  refine LWP.region (l := [_]) ?_
  refine LWo.assign _ rfl (hn := ?_)
  refine LWo.weakT 2 (e_LLimpl_Value ([] : (List (List S_impl_Value)))) rfl .nil ?_
  refine LWo.nil (hN1 _ ?_)
  refine LWP.seq_k fun N2 hN2 => ?_
  refine LWP.region (l := [_,_,_,_,_,_,_]) ?_
  refine LWo.move (e_LLimpl_Value a0) rfl (hn := ?_)
  refine LWo.move (e_LLimpl_Value a0) rfl (hn := ?_)
  refine LWo.lenM (f := e_Limpl_Value) (l := a0) u_LLimpl_Value rfl (hn := ?_)
  refine LWo.move (e_LLimpl_Value a0) rfl (hn := ?_)
  refine LWo.lenM (f := e_Limpl_Value) (l := a0) u_LLimpl_Value rfl (hn := ?_)
  refine bk h fun x3 e3 h => ?_
  refine LWo.cutM3 (f := e_Limpl_Value) e3 u_LLimpl_Value s_Limpl_Value rfl rfl ⟨_, rfl⟩ ⟨_, rfl⟩ (hn := ?_)
  refine LWo.assign (e_LLimpl_Value x3) rfl (hn := ?_)
  refine LWo.nil (hN2 _ ?_)
  obtain rfl := Option.some.inj h
  refine LWP.ret (QG.mk (.inr rfl) (.cons (.tmp (x := (e_LLimpl_Value x3)) rfl) (.nil)) (RetOK.one0 (.pure rfl) (by decide)) rfl rfl)

def m_impl_rowsCopy_j1 (o1003 : (List (List S_impl_Value))) : Option (List (List S_impl_Value)) :=
  (m_slices_Clip_LLimpl_Value_Limpl_Value_o o1003).bind fun x17 =>
  some x17
def m_impl_rowsCopy_l1 : Nat → (List (List S_impl_Value)) → Int → Int → (List (List S_impl_Value)) → Option (List (List S_impl_Value))
  | 0, _, _, _, _ => none
  | n1 + 1, t6, t7, t8, o1003 =>
    bif decide (t8 < t7) then ((at? t6 t8).bind fun x12 =>
    (m_impl_clone_impl_Value x12).bind fun x13 =>
    (app? o1003 ([x13] : (List (List S_impl_Value)))).bind fun x14 =>
    (ckI (t8 + (1 : Int))).bind fun x15 =>
    (m_impl_rowsCopy_l1  n1) t6 t7 x15 x14)
    else (m_impl_rowsCopy_j1  o1003)
def m_impl_rowsCopy (a0 : (List (List S_impl_Value))) : Option (List (List S_impl_Value)) :=
  m_impl_rowsCopy_l1  (((a0.length : Int) - (0 : Int)).toNat + 1) a0 (a0.length : Int) (0 : Int) ([] : (List (List S_impl_Value)))
theorem c_impl_rowsCopy (a0 : (List (List S_impl_Value))) (r : (List (List S_impl_Value))) (h : m_impl_rowsCopy a0 = some r) : Ret Try.prog f_impl_rowsCopy [e_LLimpl_Value a0] (.nw 1 (r.map e_Limpl_Value) false) := by
  refine Does.goG [] F_impl_rowsCopy rfl e_impl_rowsCopy n_impl_rowsCopy rfl (rvs := [.tmp 2]) rfl rfl ?_
  intro w0 ok0 lent ρ0
  refine LWP.seq_k fun N1 hN1 => ?_
  refine LWP.region (l := [_]) ?_
  refine LWo.assign _ rfl (hn := ?_)
  refine LWo.ownNil 2 1002 1 rfl rfl rfl ?_
  refine LWo.known 2 (.own 1002 0 ([] : (List (List S_impl_Value))).length) rfl ?_
  refine LWo.nil (hN1 _ ?_)
  refine LWP.seq_k fun N2 hN2 => ?_
  refine LWP.region (l := [_]) ?_
  refine LWo.assign _ rfl (hn := ?_)
  refine LWo.ownNil 3 1003 1 rfl rfl rfl ?_
  refine LWo.known 3 (.own 1003 0 ([] : (List (List S_impl_Value))).length) rfl ?_
  refine LWo.nil (hN2 _ ?_)
  refine LWP.join (α := (List (List S_impl_Value))) (fun z : (List (List S_impl_Value)) => [(3, (.own 1003 0 (z).length))]) (fun z : (List (List S_impl_Value)) => [(1003, (lob 1 e_Limpl_Value z))]) (fun z : (List (List S_impl_Value)) => m_impl_rowsCopy_j1  z) r (fun _ => by simp [hkeys]) ?_ ?_
  · rintro o1003 h
    replace h : m_impl_rowsCopy_j1  o1003 = some _ := h
    refine LWP.seq_k fun N16 hN16 => ?_
    refine LWP.region (l := [_,_,_]) ?_
    refine LWo.move (.own 1003 0 (o1003).length) rfl (hn := ?_)
    refine bk h fun x17 e17 h => ?_
    refine LWo.tcallN (e := e_Limpl_Value) (e' := e_Limpl_Value) 1019 rfl rfl (c_slices_Clip_LLimpl_Value_Limpl_Value_o _ _ e17) (fun _ => rfl) rfl rfl rfl rfl (hn := ?_)
    refine LWo.assign (.own 1019 0 (x17).length) rfl (hn := ?_)
    refine LWo.nil (hN16 _ ?_)
    obtain rfl := Option.some.inj h
    refine LWP.ret (QG.mk (.inr rfl) (.cons (.tmp (x := (.own 1019 0 (x17).length)) rfl) (.nil)) (RetOK.one0 (.nwM rfl rfl) (by decide)) rfl rfl)
  · intro N3 hN3
    refine LWP.seq_k fun N4 hN4 => ?_
    refine LWP.region (l := [_,_,_]) ?_
    refine LWo.move (e_LLimpl_Value a0) rfl (hn := ?_)
    refine LWo.lenM (f := e_Limpl_Value) (l := a0) u_LLimpl_Value rfl (hn := ?_)
    refine LWo.move (e_int (0 : Int)) rfl (hn := ?_)
    refine LWo.nil (hN4 _ ?_)
    refine LWP.block ?_
    refine LWP.loopM (α := (List (List S_impl_Value)) × Int × Int × (List (List S_impl_Value))) (fun z : (List (List S_impl_Value)) × Int × Int × (List (List S_impl_Value)) => [(3, (.own 1003 0 (z.2.2.2).length)), (6, (e_LLimpl_Value z.1)), (7, (e_int z.2.1)), (8, (e_int z.2.2.1))]) (fun z : (List (List S_impl_Value)) × Int × Int × (List (List S_impl_Value)) => [(1003, (lob 1 e_Limpl_Value z.2.2.2))]) (fun n1 (z : (List (List S_impl_Value)) × Int × Int × (List (List S_impl_Value))) => m_impl_rowsCopy_l1  n1 z.1 z.2.1 z.2.2.1 z.2.2.2) r _ (a0, (a0.length : Int), (0 : Int), ([] : (List (List S_impl_Value)))) h (fun _ => rfl) (fun _ => by simp [hkeys]) ⟨rfl, rfl, rfl, rfl, trivial⟩ ⟨rfl, trivial⟩ ?_
    rintro n1 ⟨t6, t7, t8, o1003⟩ h N5 hN5
    replace h : m_impl_rowsCopy_l1  (n1 + 1) t6 t7 t8 o1003 = some _ := h
    refine LWP.seq_k fun N7 hN7 => ?_
    refine LWP.region (l := [_]) ?_
    refine LWo.int _ rfl rfl rfl (hn := ?_)
    refine LWo.nil (hN7 _ ?_)
    refine LWP.seq_k fun N8 hN8 => ?_
    refine LWP.cond_split rfl (fun h9 => ?_) (fun h9 => ?_)
    · have h := bT h9 h
      refine LWP.skip (hN8 _ ?_)
      refine LWP.seq_k fun N10 hN10 => ?_
      refine LWP.block ?_
      refine LWP.seq_k fun N11 hN11 => ?_
      refine LWP.region (l := [_,_,_]) ?_
      refine bk h fun x12 e12 h => ?_
      refine LWo.indexM (f := e_Limpl_Value) e12 u_LLimpl_Value s_Limpl_Value rfl rfl (hn := ?_)
      refine LWo.load1 (c := (e_Limpl_Value x12)) g_Limpl_Value rfl (hn := ?_)
      refine LWo.assign (e_Limpl_Value x12) rfl (hn := ?_)
      refine LWo.nil (hN11 _ ?_)
      refine LWP.region (l := [_,_,_,_,_,_]) ?_
      refine LWo.move (.own 1003 0 (o1003).length) rfl (hn := ?_)
      refine LWo.move (e_Limpl_Value x12) rfl (hn := ?_)
      refine bk h fun x13 e13 h => ?_
      refine LWo.vcall rfl rfl (c_impl_clone_impl_Value _ _ e13) (.same (.nil)) (hn := ?_)
      refine LWo.lit (ops := [_]) [(e_Limpl_Value x13)] u_LLimpl_Value s_Limpl_Value z_Limpl_Value rfl rfl rfl rfl rfl rfl (hn := ?_)
      refine bk h fun x14 e14 h => ?_
      refine LWo.appendM (f := e_Limpl_Value) e14 rfl u_LLimpl_Value u_LLimpl_Value (fun _ h => by cases h) s_Limpl_Value i_Limpl_Value rfl rfl rfl (.sl rfl) rfl rfl (hn := ?_)
      refine LWo.assign (.own 1003 0 (x14).length) rfl (hn := ?_)
      refine LWo.nil (hN10 _ ?_)
      refine LWP.region (l := [_,_]) ?_
      refine bk h fun x15 e15 h => ?_
      refine LWo.int _ rfl rfl (add_ck e15) (hn := ?_)
      refine LWo.move (e_int x15) rfl (hn := ?_)
      refine LWo.nil (hN5 (t6, t7, x15, x14) _ ⟨rfl, rfl, rfl, rfl, trivial⟩ ⟨rfl, trivial⟩ h)
    · have h := bF h9 h
      refine LWP.exit (hN3 o1003 _ ⟨rfl, trivial⟩ ⟨rfl, trivial⟩ h)

def m_impl_NeighboursOnce (a0 : (List (List S_impl_Value))) : Option (List (List S_impl_Value)) :=
  (m_impl_inOrder a0).bind fun x4 =>
  bif (!x4) then (some ([] : (List (List S_impl_Value))))
  else ((m_slices_Clone_LLimpl_Value_Limpl_Value a0).bind fun x8 =>
  (m_slices_CompactFunc_LLimpl_Value_Limpl_Value x8 (fun b0_ b1_ => m_slices_Equal_Limpl_Value_impl_Value b0_ b1_ )).bind fun x9 =>
  (m_impl_rowsCopy x9).bind fun x10 =>
  some x10)
theorem c_impl_NeighboursOnce (a0 : (List (List S_impl_Value))) (r : (List (List S_impl_Value))) (h : m_impl_NeighboursOnce a0 = some r) : Ret Try.prog f_impl_NeighboursOnce [e_LLimpl_Value a0] (e_LLimpl_Value r) := by
  refine Does.goG [] F_impl_NeighboursOnce rfl e_impl_NeighboursOnce n_impl_NeighboursOnce rfl (rvs := [.tmp 2]) rfl rfl ?_
  intro w0 ok0 lent ρ0
  refine LWP.seq_k fun N1 hN1 => ?_
  refine LWP.region (l := [_]) ?_
  refine LWo.assign _ rfl (hn := ?_)
  refine LWo.weakT 2 (e_LLimpl_Value ([] : (List (List S_impl_Value)))) rfl .nil ?_
  refine LWo.nil (hN1 _ ?_)
  refine LWP.seq_k fun N2 hN2 => ?_
  refine LWP.seq_k fun N3 hN3 => ?_
  refine LWP.region (l := [_,_,_]) ?_
  refine LWo.move (e_LLimpl_Value a0) rfl (hn := ?_)
  refine bk h fun x4 e4 h => ?_
  refine LWo.vcall rfl rfl (c_impl_inOrder _ _ e4) (.same (.nil)) (hn := ?_)
  refine LWo.not rfl (hn := ?_)
  refine LWo.nil (hN3 _ ?_)
  refine LWP.cond_split rfl (fun h5 => ?_) (fun h5 => ?_)
  · have h := bT h5 h
    refine LWP.seq_k fun N6 hN6 => ?_
    refine LWP.region (l := [_]) ?_
    refine LWo.assign _ rfl (hn := ?_)
    refine LWo.weakT 2 (e_LLimpl_Value ([] : (List (List S_impl_Value)))) rfl .nil ?_
    refine LWo.nil (hN6 _ ?_)
    obtain rfl := Option.some.inj h
    refine LWP.ret (QG.mk (.inr rfl) (.cons (.tmp (x := (e_LLimpl_Value ([] : (List (List S_impl_Value))))) rfl) (.nil)) (RetOK.one0 (.pure rfl) (by decide)) rfl rfl)
  · have h := bF h5 h
    refine LWP.skip (hN2 _ ?_)
    refine LWP.seq_k fun N7 hN7 => ?_
    refine LWP.region (l := [_,_,_,_,_]) ?_
    refine LWo.move (e_LLimpl_Value a0) rfl (hn := ?_)
    refine bk h fun x8 e8 h => ?_
    refine LWo.ncall (e := e_Limpl_Value) 1007 rfl rfl (c_slices_Clone_LLimpl_Value_Limpl_Value _ _ e8) (.same (.nil)) rfl (hn := ?_)
    refine bk h fun x9 e9 h => ?_
    refine LWo.tcallN (e := e_Limpl_Value) (e' := e_Limpl_Value) 1008 rfl rfl (c_slices_CompactFunc_LLimpl_Value_Limpl_Value _ _ f_slices_Equal_Limpl_Value_impl_Value [] (fun _ => rfl) (fun b0_ b1_ v hv => c_slices_Equal_Limpl_Value_impl_Value b0_ b1_  v hv) _ e9) (fun _ => rfl) rfl rfl rfl rfl (hn := ?_)
    refine bk h fun x10 e10 h => ?_
    refine LWo.frzL (f := e_Limpl_Value) (l := x9) [8] 1008 rfl rfl ⟨rfl, trivial⟩ ?_
    refine LWo.vcall rfl rfl (c_impl_rowsCopy _ _ e10) (.same (.nil)) (hn := ?_)
    refine LWo.assign (e_LLimpl_Value x10) rfl (hn := ?_)
    refine LWo.nil (hN7 _ ?_)
    obtain rfl := Option.some.inj h
    refine LWP.ret (QG.mk (.inr rfl) (.cons (.tmp (x := (e_LLimpl_Value x10)) rfl) (.nil)) (RetOK.one0 (.pure rfl) (by decide)) rfl rfl)

def m_spec_l3Same_j1  : Option Bool :=
  some true
def m_spec_l3Same_l1 : Nat → (List S_impl_Value) → (List S_impl_Value) → Int → Option Bool
  | 0, _, _, _ => none
  | n1 + 1, t0, t1, t5 =>
    bif decide (t5 < (t0.length : Int)) then ((at? t0 t5).bind fun x15 =>
    (at? t1 t5).bind fun x16 =>
    bif (!(decide (x15 = x16))) then (some false)
    else ((ckI (t5 + (1 : Int))).bind fun x19 =>
    (m_spec_l3Same_l1  n1) t0 t1 x19))
    else (m_spec_l3Same_j1  )
def m_spec_l3Same (a0 : (List S_impl_Value)) (a1 : (List S_impl_Value)) : Option Bool :=
  bif ((a0.length : Int) != (a1.length : Int)) then (some false)
  else (m_spec_l3Same_l1  (((a0.length : Int) - (0 : Int)).toNat + 1) a0 a1 (0 : Int))
theorem c_spec_l3Same (a0 : (List S_impl_Value)) (a1 : (List S_impl_Value)) (r : Bool) (h : m_spec_l3Same a0 a1 = some r) : Ret Try.prog f_spec_l3Same [e_Limpl_Value a0, e_Limpl_Value a1] (e_bool r) := by
  refine Does.goG [] F_spec_l3Same rfl e_spec_l3Same n_spec_l3Same rfl (rvs := [.tmp 4]) rfl rfl ?_
  intro w0 ok0 lent ρ0
  refine LWP.seq_k fun N1 hN1 => ?_
  refine LWP.region (l := [_]) ?_
  refine LWo.assign (e_bool false) rfl (hn := ?_)
  refine LWo.nil (hN1 _ ?_)
  refine LWP.seq_k fun N2 hN2 => ?_
  refine LWP.seq_k fun N3 hN3 => ?_
  refine LWP.region (l := [_,_,_,_,_]) ?_
  refine LWo.move (e_Limpl_Value a0) rfl (hn := ?_)
  refine LWo.lenM (f := e_impl_Value) (l := a0) u_Limpl_Value rfl (hn := ?_)
  refine LWo.move (e_Limpl_Value a1) rfl (hn := ?_)
  refine LWo.lenM (f := e_impl_Value) (l := a1) u_Limpl_Value rfl (hn := ?_)
  refine LWo.int _ rfl rfl rfl (hn := ?_)
  refine LWo.nil (hN3 _ ?_)
  refine LWP.cond_split rfl (fun h4 => ?_) (fun h4 => ?_)
  · have h := bT h4 h
    refine LWP.seq_k fun N5 hN5 => ?_
    refine LWP.region (l := [_]) ?_
    refine LWo.assign (e_bool false) rfl (hn := ?_)
    refine LWo.nil (hN5 _ ?_)
    obtain rfl := Option.some.inj h
    refine LWP.ret (QG.mk (.inr rfl) (.cons (.tmp (x := (e_bool false)) rfl) (.nil)) (RetOK.one0 (.pure rfl) (by decide)) rfl rfl)
  · have h := bF h4 h
    refine LWP.skip (hN2 _ ?_)
    refine LWP.join (α := Unit) (fun z : Unit => []) (fun z : Unit => []) (fun z : Unit => m_spec_l3Same_j1  ) r (fun _ => by simp [hkeys]) ?_ ?_
    · rintro _ h
      replace h : m_spec_l3Same_j1   = some _ := h
      refine LWP.seq_k fun N20 hN20 => ?_
      refine LWP.region (l := [_]) ?_
      refine LWo.assign (e_bool true) rfl (hn := ?_)
      refine LWo.nil (hN20 _ ?_)
      obtain rfl := Option.some.inj h
      refine LWP.ret (QG.mk (.inr rfl) (.cons (.tmp (x := (e_bool true)) rfl) (.nil)) (RetOK.one0 (.pure rfl) (by decide)) rfl rfl)
    · intro N6 hN6
      refine LWP.seq_k fun N7 hN7 => ?_
      refine LWP.region (l := [_]) ?_
      refine LWo.assign (e_int (0 : Int)) rfl (hn := ?_)
      refine LWo.nil (hN7 _ ?_)
      refine LWP.block ?_
      refine LWP.loopM (α := (List S_impl_Value) × (List S_impl_Value) × Int) (fun z : (List S_impl_Value) × (List S_impl_Value) × Int => [(0, (e_Limpl_Value z.1)), (1, (e_Limpl_Value z.2.1)), (5, (e_int z.2.2))]) (fun z : (List S_impl_Value) × (List S_impl_Value) × Int => []) (fun n1 (z : (List S_impl_Value) × (List S_impl_Value) × Int) => m_spec_l3Same_l1  n1 z.1 z.2.1 z.2.2) r _ (a0, a1, (0 : Int)) h (fun _ => rfl) (fun _ => by simp [hkeys]) ⟨rfl, rfl, rfl, trivial⟩ trivial ?_
      rintro n1 ⟨t0, t1, t5⟩ h N8 hN8
      replace h : m_spec_l3Same_l1  (n1 + 1) t0 t1 t5 = some _ := h
      refine LWP.seq_k fun N10 hN10 => ?_
      refine LWP.seq_k fun N11 hN11 => ?_
      refine LWP.region (l := [_,_,_,_]) ?_
      refine LWo.move (e_int t5) rfl (hn := ?_)
      refine LWo.move (e_Limpl_Value t0) rfl (hn := ?_)
      refine LWo.lenM (f := e_impl_Value) (l := t0) u_Limpl_Value rfl (hn := ?_)
      refine LWo.int _ rfl rfl rfl (hn := ?_)
      refine LWo.nil (hN11 _ ?_)
      refine LWP.cond_split rfl (fun h12 => ?_) (fun h12 => ?_)
      · have h := bT h12 h
        refine LWP.skip (hN10 _ ?_)
        refine LWP.seq_k fun N13 hN13 => ?_
        refine LWP.block ?_
        refine LWP.seq_k fun N14 hN14 => ?_
        refine bk h fun x15 e15 h => ?_
        refine bk h fun x16 e16 h => ?_
        refine LWP.drawE (l := [_,_,_,_,_,_,_,_,_]) [] [0, 1, 5] [([0], []), ([5], []), ([17, 18], []), ([19], []), ([1], []), ([5], []), ([21, 22], []), ([23], []), ([20, 24], [])] [0, 1, 5, 25] [] mixed (by kernel_rfl) rfl (by decide) ?_
        refine ⟨rfl, .put 17 _, trivial, fun u hg hu hh => LWo.move (e_Limpl_Value t0) hu.1 (hn := LWo.nil ⟨rfl, .inl rfl, hg⟩), ?_⟩
        refine ⟨rfl, .put 18 _, trivial, fun u hg hu hh => LWo.move (e_int t5) hu.1 (hn := LWo.nil ⟨rfl, .inl rfl, hg⟩), ?_⟩
        refine ⟨rfl, .put 19 _, trivial, fun u hg hu hh => LWo.indexM (f := e_impl_Value) e15 u_Limpl_Value s_impl_Value hu.1 hu.2.1 (hn := LWo.nil ⟨rfl, .inl rfl, hg⟩), ?_⟩
        refine ⟨rfl, .put 20 _, trivial, fun u hg hu hh => LWo.loadN ((e_impl_Value x15)).cells g_impl_Value s_impl_Value hu.1 (Nat.le_of_ble_eq_true rfl) rfl (hn := LWo.nil ⟨rfl, .inl rfl, hg⟩), ?_⟩
        refine ⟨rfl, .put 21 _, trivial, fun u hg hu hh => LWo.move (e_Limpl_Value t1) hu.1 (hn := LWo.nil ⟨rfl, .inl rfl, hg⟩), ?_⟩
        refine ⟨rfl, .put 22 _, trivial, fun u hg hu hh => LWo.move (e_int t5) hu.1 (hn := LWo.nil ⟨rfl, .inl rfl, hg⟩), ?_⟩
        refine ⟨rfl, .put 23 _, trivial, fun u hg hu hh => LWo.indexM (f := e_impl_Value) e16 u_Limpl_Value s_impl_Value hu.1 hu.2.1 (hn := LWo.nil ⟨rfl, .inl rfl, hg⟩), ?_⟩
        refine ⟨rfl, .put 24 _, trivial, fun u hg hu hh => LWo.loadN ((e_impl_Value x16)).cells g_impl_Value s_impl_Value hu.1 (Nat.le_of_ble_eq_true rfl) rfl (hn := LWo.nil ⟨rfl, .inl rfl, hg⟩), ?_⟩
        refine ⟨rfl, .put 25 _, trivial, fun u hg hu hh => LWo.ne_impl_Value _ _ hu.1 hu.2.1 (hn := LWo.nil ⟨rfl, .inl rfl, hg⟩), ?_⟩
        refine ⟨rfl, by kernel_rfl, hN14 _ ?_⟩
        refine LWP.cond_split rfl (fun h17 => ?_) (fun h17 => ?_)
        · have h := bT h17 h
          refine LWP.seq_k fun N18 hN18 => ?_
          refine LWP.region (l := [_]) ?_
          refine LWo.assign (e_bool false) rfl (hn := ?_)
          refine LWo.nil (hN18 _ ?_)
          obtain rfl := Option.some.inj h
          refine LWP.ret (QG.mk (.inr rfl) (.cons (.tmp (x := (e_bool false)) rfl) (.nil)) (RetOK.one0 (.pure rfl) (by decide)) rfl rfl)
        · have h := bF h17 h
          refine LWP.skip (hN13 _ ?_)
          refine LWP.region (l := [_,_,_]) ?_
          refine LWo.move (e_int t5) rfl (hn := ?_)
          refine bk h fun x19 e19 h => ?_
          refine LWo.int _ rfl rfl (add_ck e19) (hn := ?_)
          refine LWo.assign (e_int x19) rfl (hn := ?_)
          refine LWo.nil (hN8 (t0, t1, x19) _ ⟨rfl, rfl, rfl, trivial⟩ trivial h)
      · have h := bF h12 h
        refine LWP.exit (hN6 () _ trivial trivial h)

def m_spec_NeighboursOnce_j4 (o1005 : (List (List S_impl_Value))) : Option (List (List S_impl_Value)) :=
  some o1005
def m_spec_NeighboursOnce_j3 (k1 : (List (List S_impl_Value)) → Int → (List (List S_impl_Value)) → Option (List (List S_impl_Value))) (t0 : (List (List S_impl_Value))) (t4 : Int) (o1005 : (List (List S_impl_Value))) : Option (List (List S_impl_Value)) :=
  (ckI (t4 + (1 : Int))).bind fun x33 =>
  k1 t0 x33 o1005
def m_spec_NeighboursOnce_j2 (k1 : (List (List S_impl_Value)) → Int → (List (List S_impl_Value)) → Option (List (List S_impl_Value))) (t0 : (List (List S_impl_Value))) (t4 : Int) (t50 : Bool) (o1005 : (List (List S_impl_Value))) : Option (List (List S_impl_Value)) :=
  bif t50 then ((at? t0 t4).bind fun x30 =>
    (m_spec_l3Own x30).bind fun x31 =>
    (app? o1005 ([x31] : (List (List S_impl_Value)))).bind fun x32 =>
    m_spec_NeighboursOnce_j3  k1 t0 t4 x32)
  else (m_spec_NeighboursOnce_j3  k1 t0 t4 o1005)
def m_spec_NeighboursOnce_j1 (k1 : (List (List S_impl_Value)) → Int → (List (List S_impl_Value)) → Option (List (List S_impl_Value))) (t0 : (List (List S_impl_Value))) (t4 : Int) (t34 : Bool) (o1005 : (List (List S_impl_Value))) : Option (List (List S_impl_Value)) :=
  bif t34 then (some ([] : (List (List S_impl_Value))))
  else (bif (t4 == (0 : Int)) then (m_spec_NeighboursOnce_j2  k1 t0 t4 true o1005)
  else ((ckI (t4 - (1 : Int))).bind fun x25 =>
  (at? t0 x25).bind fun x26 =>
  (at? t0 t4).bind fun x27 =>
  (m_spec_l3Same x26 x27).bind fun x28 =>
  m_spec_NeighboursOnce_j2  k1 t0 t4 (!x28) o1005))
def m_spec_NeighboursOnce_l1 : Nat → (List (List S_impl_Value)) → Int → (List (List S_impl_Value)) → Option (List (List S_impl_Value))
  | 0, _, _, _ => none
  | n1 + 1, t0, t4, o1005 =>
    bif decide (t4 < (t0.length : Int)) then ((at? t0 t4).bind fun x13 =>
    (m_spec_RowOk x13).bind fun x14 =>
    bif (!x14) then (m_spec_NeighboursOnce_j1  (m_spec_NeighboursOnce_l1  n1) t0 t4 true o1005)
    else (bif decide (t4 > (0 : Int)) then ((ckI (t4 - (1 : Int))).bind fun x17 =>
        (at? t0 x17).bind fun x18 =>
        (at? t0 t4).bind fun x19 =>
        (m_spec_RowOrder x18 x19).bind fun x20 =>
        m_spec_NeighboursOnce_j1  (m_spec_NeighboursOnce_l1  n1) t0 t4 (decide (x20 > (0 : Int))) o1005)
      else (m_spec_NeighboursOnce_j1  (m_spec_NeighboursOnce_l1  n1) t0 t4 false o1005)))
    else (m_spec_NeighboursOnce_j4  o1005)
def m_spec_NeighboursOnce (a0 : (List (List S_impl_Value))) : Option (List (List S_impl_Value)) :=
  m_spec_NeighboursOnce_l1  (((a0.length : Int) - (0 : Int)).toNat + 1) a0 (0 : Int) ([] : (List (List S_impl_Value)))
theorem c_spec_NeighboursOnce (a0 : (List (List S_impl_Value))) (r : (List (List S_impl_Value))) (h : m_spec_NeighboursOnce a0 = some r) : Ret Try.prog f_spec_NeighboursOnce [e_LLimpl_Value a0] (.nw 1 (r.map e_Limpl_Value) false) := by
  refine Does.goG [] F_spec_NeighboursOnce rfl e_spec_NeighboursOnce n_spec_NeighboursOnce rfl (rvs := [.tmp 2]) rfl rfl ?_
  intro w0 ok0 lent ρ0
  refine LWP.seq_k fun N1 hN1 => ?_
  refine LWP.region (l := [_]) ?_
  refine LWo.assign _ rfl (hn := ?_)
  refine LWo.ownNil 2 1002 1 rfl rfl rfl ?_
  refine LWo.known 2 (.own 1002 0 ([] : (List (List S_impl_Value))).length) rfl ?_
  refine LWo.nil (hN1 _ ?_)
  refine LWP.seq_k fun N2 hN2 => ?_
  refine LWP.region (l := [_,_]) ?_
  refine LWo.lit0 1005 u_LLimpl_Value s_Limpl_Value z_Limpl_Value (hn := ?_)
  refine LWo.known 5 (.own 1005 0 ([] : (List (List S_impl_Value))).length) rfl ?_
  refine LWo.assign (.own 1005 0 (([] : (List (List S_impl_Value)))).length) rfl (hn := ?_)
  refine LWo.nil (hN2 _ ?_)
  refine LWP.join (α := (List (List S_impl_Value))) (fun z : (List (List S_impl_Value)) => [(3, (.own 1005 0 (z).length))]) (fun z : (List (List S_impl_Value)) => [(1005, (lob 1 e_Limpl_Value z))]) (fun z : (List (List S_impl_Value)) => m_spec_NeighboursOnce_j4  z) r (fun _ => by simp [hkeys]) ?_ ?_
  · rintro o1005 h
    replace h : m_spec_NeighboursOnce_j4  o1005 = some _ := h
    refine LWP.seq_k fun N34 hN34 => ?_
    refine LWP.region (l := [_,_]) ?_
    refine LWo.move (.own 1005 0 (o1005).length) rfl (hn := ?_)
    refine LWo.assign (.own 1005 0 (o1005).length) rfl (hn := ?_)
    refine LWo.nil (hN34 _ ?_)
    obtain rfl := Option.some.inj h
    refine LWP.ret (QG.mk (.inr rfl) (.cons (.tmp (x := (.own 1005 0 (o1005).length)) rfl) (.nil)) (RetOK.one0 (.nwM rfl rfl) (by decide)) rfl rfl)
  · intro N3 hN3
    refine LWP.seq_k fun N4 hN4 => ?_
    refine LWP.region (l := [_]) ?_
    refine LWo.assign (e_int (0 : Int)) rfl (hn := ?_)
    refine LWo.nil (hN4 _ ?_)
    refine LWP.block ?_
    refine LWP.loopM (α := (List (List S_impl_Value)) × Int × (List (List S_impl_Value))) (fun z : (List (List S_impl_Value)) × Int × (List (List S_impl_Value)) => [(0, (e_LLimpl_Value z.1)), (3, (.own 1005 0 (z.2.2).length)), (4, (e_int z.2.1))]) (fun z : (List (List S_impl_Value)) × Int × (List (List S_impl_Value)) => [(1005, (lob 1 e_Limpl_Value z.2.2))]) (fun n1 (z : (List (List S_impl_Value)) × Int × (List (List S_impl_Value))) => m_spec_NeighboursOnce_l1  n1 z.1 z.2.1 z.2.2) r _ (a0, (0 : Int), ([] : (List (List S_impl_Value)))) h (fun _ => rfl) (fun _ => by simp [hkeys]) ⟨rfl, rfl, rfl, trivial⟩ ⟨rfl, trivial⟩ ?_
    rintro n1 ⟨t0, t4, o1005⟩ h N5 hN5
    replace h : m_spec_NeighboursOnce_l1  (n1 + 1) t0 t4 o1005 = some _ := h
    refine LWP.seq_k fun N7 hN7 => ?_
    refine LWP.seq_k fun N8 hN8 => ?_
    refine LWP.region (l := [_,_,_,_]) ?_
    refine LWo.move (e_int t4) rfl (hn := ?_)
    refine LWo.move (e_LLimpl_Value t0) rfl (hn := ?_)
    refine LWo.lenM (f := e_Limpl_Value) (l := t0) u_LLimpl_Value rfl (hn := ?_)
    refine LWo.int _ rfl rfl rfl (hn := ?_)
    refine LWo.nil (hN8 _ ?_)
    refine LWP.cond_split rfl (fun h9 => ?_) (fun h9 => ?_)
    · have h := bT h9 h
      refine LWP.skip (hN7 _ ?_)
      refine LWP.join (α := (List (List S_impl_Value)) × Int × (List (List S_impl_Value))) (fun z : (List (List S_impl_Value)) × Int × (List (List S_impl_Value)) => [(0, (e_LLimpl_Value z.1)), (3, (.own 1005 0 (z.2.2).length)), (4, (e_int z.2.1))]) (fun z : (List (List S_impl_Value)) × Int × (List (List S_impl_Value)) => [(1005, (lob 1 e_Limpl_Value z.2.2))]) (fun z : (List (List S_impl_Value)) × Int × (List (List S_impl_Value)) => m_spec_NeighboursOnce_j3  (m_spec_NeighboursOnce_l1  n1) z.1 z.2.1 z.2.2) r (fun _ => by simp [hkeys]) ?_ ?_
      · rintro ⟨t0, t4, o1005⟩ h
        replace h : m_spec_NeighboursOnce_j3  (m_spec_NeighboursOnce_l1  n1) t0 t4 o1005 = some _ := h
        refine LWP.region (l := [_,_,_]) ?_
        refine LWo.move (e_int t4) rfl (hn := ?_)
        refine bk h fun x33 e33 h => ?_
        refine LWo.int _ rfl rfl (add_ck e33) (hn := ?_)
        refine LWo.assign (e_int x33) rfl (hn := ?_)
        refine LWo.nil (hN5 (t0, x33, o1005) _ ⟨rfl, rfl, rfl, trivial⟩ ⟨rfl, trivial⟩ h)
      · intro N10 hN10
        refine LWP.block ?_
        refine LWP.seq_k fun N11 hN11 => ?_
        refine LWP.join (α := (List (List S_impl_Value)) × Int × Bool × (List (List S_impl_Value))) (fun z : (List (List S_impl_Value)) × Int × Bool × (List (List S_impl_Value)) => [(0, (e_LLimpl_Value z.1)), (3, (.own 1005 0 (z.2.2.2).length)), (4, (e_int z.2.1)), (34, (e_bool z.2.2.1))]) (fun z : (List (List S_impl_Value)) × Int × Bool × (List (List S_impl_Value)) => [(1005, (lob 1 e_Limpl_Value z.2.2.2))]) (fun z : (List (List S_impl_Value)) × Int × Bool × (List (List S_impl_Value)) => m_spec_NeighboursOnce_j1  (m_spec_NeighboursOnce_l1  n1) z.1 z.2.1 z.2.2.1 z.2.2.2) r (fun _ => by simp [hkeys]) ?_ ?_
        · rintro ⟨t0, t4, t34, o1005⟩ h
          replace h : m_spec_NeighboursOnce_j1  (m_spec_NeighboursOnce_l1  n1) t0 t4 t34 o1005 = some _ := h
          refine LWP.cond_split rfl (fun h21 => ?_) (fun h21 => ?_)
          · have h := bT h21 h
            refine LWP.seq_k fun N22 hN22 => ?_
            refine LWP.region (l := [_,_]) ?_
            refine LWo.lit0 1035 u_LLimpl_Value s_Limpl_Value z_Limpl_Value (hn := ?_)
            refine LWo.known 35 (.own 1035 0 ([] : (List (List S_impl_Value))).length) rfl ?_
            refine LWo.assign (.own 1035 0 (([] : (List (List S_impl_Value)))).length) rfl (hn := ?_)
            refine LWo.nil (hN22 _ ?_)
            obtain rfl := Option.some.inj h
            refine LWP.ret (QG.mk (.inr rfl) (.cons (.tmp (x := (.own 1035 0 (([] : (List (List S_impl_Value)))).length)) rfl) (.nil)) (RetOK.one0 (.nwM rfl rfl) (by decide)) rfl rfl)
          · have h := bF h21 h
            refine LWP.skip (hN11 _ ?_)
            refine LWP.join (α := (List (List S_impl_Value)) × Int × Bool × (List (List S_impl_Value))) (fun z : (List (List S_impl_Value)) × Int × Bool × (List (List S_impl_Value)) => [(0, (e_LLimpl_Value z.1)), (3, (.own 1005 0 (z.2.2.2).length)), (4, (e_int z.2.1)), (50, (e_bool z.2.2.1))]) (fun z : (List (List S_impl_Value)) × Int × Bool × (List (List S_impl_Value)) => [(1005, (lob 1 e_Limpl_Value z.2.2.2))]) (fun z : (List (List S_impl_Value)) × Int × Bool × (List (List S_impl_Value)) => m_spec_NeighboursOnce_j2  (m_spec_NeighboursOnce_l1  n1) z.1 z.2.1 z.2.2.1 z.2.2.2) r (fun _ => by simp [hkeys]) ?_ ?_
            · rintro ⟨t0, t4, t50, o1005⟩ h
              replace h : m_spec_NeighboursOnce_j2  (m_spec_NeighboursOnce_l1  n1) t0 t4 t50 o1005 = some _ := h
              refine LWP.cond_split rfl (fun h29 => ?_) (fun h29 => ?_)
              · have h := bT h29 h
                refine LWP.region (l := [_,_,_,_,_,_,_,_,_]) ?_
                refine LWo.move (.own 1005 0 (o1005).length) rfl (hn := ?_)
                refine LWo.move (e_LLimpl_Value t0) rfl (hn := ?_)
                refine LWo.move (e_int t4) rfl (hn := ?_)
                refine bk h fun x30 e30 h => ?_
                refine LWo.indexM (f := e_Limpl_Value) e30 u_LLimpl_Value s_Limpl_Value rfl rfl (hn := ?_)
                refine LWo.load1 (c := (e_Limpl_Value x30)) g_Limpl_Value rfl (hn := ?_)
                refine bk h fun x31 e31 h => ?_
                refine LWo.vcall rfl rfl (c_spec_l3Own _ _ e31) (.same (.nil)) (hn := ?_)
                refine LWo.lit (ops := [_]) [(e_Limpl_Value x31)] u_LLimpl_Value s_Limpl_Value z_Limpl_Value rfl rfl rfl rfl rfl rfl (hn := ?_)
                refine bk h fun x32 e32 h => ?_
                refine LWo.appendM (f := e_Limpl_Value) e32 rfl u_LLimpl_Value u_LLimpl_Value (fun _ h => by cases h) s_Limpl_Value i_Limpl_Value rfl rfl rfl (.sl rfl) rfl rfl (hn := ?_)
                refine LWo.assign (.own 1005 0 (x32).length) rfl (hn := ?_)
                refine LWo.nil (hN10 (t0, t4, x32) _ ⟨rfl, rfl, rfl, trivial⟩ ⟨rfl, trivial⟩ h)
              · have h := bF h29 h
                refine LWP.skip (hN10 (t0, t4, o1005) _ ⟨rfl, rfl, rfl, trivial⟩ ⟨rfl, trivial⟩ h)
            · intro N23 hN23
              refine bS ((t4 == (0 : Int))) (fun h24 => ?_) (fun h24 => ?_)
              · have h := bT h24 h
                refine LWP.drawE (l := [_,_,_,_,_,_,_,_,_,_,_,_,_,_,_]) [] [0, 3, 4] [([4], []), ([36], []), ([37], []), ([0, 38], []), ([4, 38], []), ([38, 40], []), ([38, 39, 41], []), ([38, 42], []), ([0, 38], []), ([4, 38], []), ([38, 44, 45], []), ([38, 46], []), ([38, 43, 47], []), ([38, 48], []), ([38, 49], [])] [0, 3, 4, 50] [1005] mixed (by kernel_rfl) rfl (by decide) ?_
                refine ⟨rfl, .put 36 _, trivial, fun u hg hu hh => LWo.move (e_int t4) hu.1 (hn := LWo.nil ⟨rfl, .inl rfl, hg⟩), ?_⟩
                refine ⟨rfl, .put 37 _, trivial, fun u hg hu hh => LWo.int _ hu.1 rfl rfl (hn := LWo.nil ⟨rfl, .inl rfl, hg⟩), ?_⟩
                refine ⟨rfl, .put 38 _, trivial, fun u hg hu hh => LWo.move (e_bool (t4 == (0 : Int))) hu.1 (hn := LWo.nil ⟨rfl, .inl rfl, hg⟩), ?_⟩
                refine ⟨rfl, .put 39 _, trivial, fun u hg hu hh => LWo.guardNU (t := 38) hu.2.1 h24 rfl rfl rfl rfl rfl (LWo.nil ⟨rfl, .inl rfl, hg⟩), ?_⟩
                refine ⟨rfl, .put 40 _, trivial, fun u hg hu hh => LWo.guardNU (t := 38) hu.2.1 h24 rfl rfl rfl rfl rfl (LWo.nil ⟨rfl, .inl rfl, hg⟩), ?_⟩
                refine ⟨rfl, .put 41 _, trivial, fun u hg hu hh => LWo.guardNU (t := 38) hu.1 h24 rfl rfl rfl rfl rfl (LWo.nil ⟨rfl, .inl rfl, hg⟩), ?_⟩
                refine ⟨rfl, .put 42 _, trivial, fun u hg hu hh => LWo.guardNU (t := 38) hu.1 h24 rfl rfl rfl rfl rfl (LWo.nil ⟨rfl, .inl rfl, hg⟩), ?_⟩
                refine ⟨rfl, .put 43 _, trivial, fun u hg hu hh => LWo.guardNU (t := 38) hu.1 h24 rfl rfl rfl rfl rfl (LWo.nil ⟨rfl, .inl rfl, hg⟩), ?_⟩
                refine ⟨rfl, .put 44 _, trivial, fun u hg hu hh => LWo.guardNU (t := 38) hu.2.1 h24 rfl rfl rfl rfl rfl (LWo.nil ⟨rfl, .inl rfl, hg⟩), ?_⟩
                refine ⟨rfl, .put 45 _, trivial, fun u hg hu hh => LWo.guardNU (t := 38) hu.2.1 h24 rfl rfl rfl rfl rfl (LWo.nil ⟨rfl, .inl rfl, hg⟩), ?_⟩
                refine ⟨rfl, .put 46 _, trivial, fun u hg hu hh => LWo.guardNU (t := 38) hu.1 h24 rfl rfl rfl rfl rfl (LWo.nil ⟨rfl, .inl rfl, hg⟩), ?_⟩
                refine ⟨rfl, .put 47 _, trivial, fun u hg hu hh => LWo.guardNU (t := 38) hu.1 h24 rfl rfl rfl rfl rfl (LWo.nil ⟨rfl, .inl rfl, hg⟩), ?_⟩
                refine ⟨rfl, .put 48 _, trivial, fun u hg hu hh => LWo.guardNU (t := 38) hu.1 h24 rfl rfl rfl rfl rfl (LWo.nil ⟨rfl, .inl rfl, hg⟩), ?_⟩
                refine ⟨rfl, .put 49 _, trivial, fun u hg hu hh => LWo.guardNU (t := 38) hu.1 h24 rfl rfl rfl rfl rfl (LWo.nil ⟨rfl, .inl rfl, hg⟩), ?_⟩
                refine ⟨rfl, .put 50 _, trivial, fun u hg hu hh => LWo.pickTM (e_bool true) hu.1 h24 rfl (hn := LWo.nil ⟨rfl, .inl rfl, hg⟩), ?_⟩
                refine ⟨rfl, by kernel_rfl, hN23 (t0, t4, true, o1005) _ ⟨rfl, rfl, rfl, rfl, trivial⟩ ⟨rfl, trivial⟩ h⟩
              · have h := bF h24 h
                refine bk h fun x25 e25 h => ?_
                refine bk h fun x26 e26 h => ?_
                refine bk h fun x27 e27 h => ?_
                refine bk h fun x28 e28 h => ?_
                refine LWP.drawE (l := [_,_,_,_,_,_,_,_,_,_,_,_,_,_,_]) [] [0, 3, 4] [([4], []), ([36], []), ([37], []), ([0, 38], []), ([4, 38], []), ([38, 40], []), ([38, 39, 41], []), ([38, 42], []), ([0, 38], []), ([4, 38], []), ([38, 44, 45], []), ([38, 46], []), ([38, 43, 47], []), ([38, 48], []), ([38, 49], [])] [0, 3, 4, 50] [1005] mixed (by kernel_rfl) rfl (by decide) ?_
                refine ⟨rfl, .put 36 _, trivial, fun u hg hu hh => LWo.move (e_int t4) hu.1 (hn := LWo.nil ⟨rfl, .inl rfl, hg⟩), ?_⟩
                refine ⟨rfl, .put 37 _, trivial, fun u hg hu hh => LWo.int _ hu.1 rfl rfl (hn := LWo.nil ⟨rfl, .inl rfl, hg⟩), ?_⟩
                refine ⟨rfl, .put 38 _, trivial, fun u hg hu hh => LWo.move (e_bool (t4 == (0 : Int))) hu.1 (hn := LWo.nil ⟨rfl, .inl rfl, hg⟩), ?_⟩
                refine ⟨rfl, .put 39 _, trivial, fun u hg hu hh => LWo.guardY (t := 38) hu.2.1 h24 rfl rfl (LWo.move (e_LLimpl_Value t0) hu.1 (hn := LWo.nil ⟨rfl, .inl rfl, hg⟩)), ?_⟩
                refine ⟨rfl, .put 40 _, trivial, fun u hg hu hh => LWo.guardY (t := 38) hu.2.1 h24 rfl rfl (LWo.move (e_int t4) hu.1 (hn := LWo.nil ⟨rfl, .inl rfl, hg⟩)), ?_⟩
                refine ⟨rfl, .put 41 _, trivial, fun u hg hu hh => LWo.guardY (t := 38) hu.1 h24 rfl rfl (LWo.int _ hu.2.1 rfl (sub_ck e25) (hn := LWo.nil ⟨rfl, .inl rfl, hg⟩)), ?_⟩
                refine ⟨rfl, .put 42 _, trivial, fun u hg hu hh => LWo.guardY (t := 38) hu.1 h24 rfl rfl (LWo.indexM (f := e_Limpl_Value) e26 u_LLimpl_Value s_Limpl_Value hu.2.1 hu.2.2.1 (hn := LWo.nil ⟨rfl, .inl rfl, hg⟩)), ?_⟩
                refine ⟨rfl, .put 43 _, trivial, fun u hg hu hh => LWo.guardY (t := 38) hu.1 h24 rfl rfl (LWo.load1 (c := (e_Limpl_Value x26)) g_Limpl_Value hu.2.1 (hn := LWo.nil ⟨rfl, .inl rfl, hg⟩)), ?_⟩
                refine ⟨rfl, .put 44 _, trivial, fun u hg hu hh => LWo.guardY (t := 38) hu.2.1 h24 rfl rfl (LWo.move (e_LLimpl_Value t0) hu.1 (hn := LWo.nil ⟨rfl, .inl rfl, hg⟩)), ?_⟩
                refine ⟨rfl, .put 45 _, trivial, fun u hg hu hh => LWo.guardY (t := 38) hu.2.1 h24 rfl rfl (LWo.move (e_int t4) hu.1 (hn := LWo.nil ⟨rfl, .inl rfl, hg⟩)), ?_⟩
                refine ⟨rfl, .put 46 _, trivial, fun u hg hu hh => LWo.guardY (t := 38) hu.1 h24 rfl rfl (LWo.indexM (f := e_Limpl_Value) e27 u_LLimpl_Value s_Limpl_Value hu.2.1 hu.2.2.1 (hn := LWo.nil ⟨rfl, .inl rfl, hg⟩)), ?_⟩
                refine ⟨rfl, .put 47 _, trivial, fun u hg hu hh => LWo.guardY (t := 38) hu.1 h24 rfl rfl (LWo.load1 (c := (e_Limpl_Value x27)) g_Limpl_Value hu.2.1 (hn := LWo.nil ⟨rfl, .inl rfl, hg⟩)), ?_⟩
                refine ⟨rfl, .put 48 _, trivial, fun u hg hu hh => LWo.guardY (t := 38) hu.1 h24 rfl rfl (LWo.vcall rfl (av2 hu.2.1 hu.2.2.1) (c_spec_l3Same _ _ _ e28) (.same (.same (.nil))) (hn := LWo.nil ⟨rfl, .inl rfl, hg⟩)), ?_⟩
                refine ⟨rfl, .put 49 _, trivial, fun u hg hu hh => LWo.guardY (t := 38) hu.1 h24 rfl rfl (LWo.not hu.2.1 (hn := LWo.nil ⟨rfl, .inl rfl, hg⟩)), ?_⟩
                refine ⟨rfl, .put 50 _, trivial, fun u hg hu hh => LWo.pickFM (e_bool (!x28)) hu.1 h24 hu.2.1 (hn := LWo.nil ⟨rfl, .inl rfl, hg⟩), ?_⟩
                refine ⟨rfl, by kernel_rfl, hN23 (t0, t4, (!x28), o1005) _ ⟨rfl, rfl, rfl, rfl, trivial⟩ ⟨rfl, trivial⟩ h⟩
        · intro N12 hN12
          refine bk h fun x13 e13 h => ?_
          refine bk h fun x14 e14 h => ?_
          refine bS ((!x14)) (fun h15 => ?_) (fun h15 => ?_)
          · have h := bT h15 h
            refine LWP.drawE (l := [_,_,_,_,_,_,_,_,_,_,_,_,_,_,_,_,_,_,_,_,_,_,_]) [] [0, 3, 4] [([0], []), ([4], []), ([12, 13], []), ([14], []), ([15], []), ([16], []), ([17], []), ([4, 18], []), ([18, 19], []), ([18, 20], []), ([0, 21], []), ([4, 21], []), ([21, 23], []), ([21, 22, 24], []), ([21, 25], []), ([0, 21], []), ([4, 21], []), ([21, 27, 28], []), ([21, 29], []), ([21, 26, 30], []), ([21, 31], []), ([18, 21, 32], []), ([18, 33], [])] [0, 3, 4, 34] [1005] mixed (by kernel_rfl) rfl (by decide) ?_
            refine ⟨rfl, .put 12 _, trivial, fun u hg hu hh => LWo.move (e_LLimpl_Value t0) hu.1 (hn := LWo.nil ⟨rfl, .inl rfl, hg⟩), ?_⟩
            refine ⟨rfl, .put 13 _, trivial, fun u hg hu hh => LWo.move (e_int t4) hu.1 (hn := LWo.nil ⟨rfl, .inl rfl, hg⟩), ?_⟩
            refine ⟨rfl, .put 14 _, trivial, fun u hg hu hh => LWo.indexM (f := e_Limpl_Value) e13 u_LLimpl_Value s_Limpl_Value hu.1 hu.2.1 (hn := LWo.nil ⟨rfl, .inl rfl, hg⟩), ?_⟩
            refine ⟨rfl, .put 15 _, trivial, fun u hg hu hh => LWo.load1 (c := (e_Limpl_Value x13)) g_Limpl_Value hu.1 (hn := LWo.nil ⟨rfl, .inl rfl, hg⟩), ?_⟩
            refine ⟨rfl, .put 16 _, trivial, fun u hg hu hh => LWo.vcall rfl (av1 hu.1) (c_spec_RowOk _ _ e14) (.same (.nil)) (hn := LWo.nil ⟨rfl, .inl rfl, hg⟩), ?_⟩
            refine ⟨rfl, .put 17 _, trivial, fun u hg hu hh => LWo.not hu.1 (hn := LWo.nil ⟨rfl, .inl rfl, hg⟩), ?_⟩
            refine ⟨rfl, .put 18 _, trivial, fun u hg hu hh => LWo.move (e_bool (!x14)) hu.1 (hn := LWo.nil ⟨rfl, .inl rfl, hg⟩), ?_⟩
            refine ⟨rfl, .put 19 _, trivial, fun u hg hu hh => LWo.guardNU (t := 18) hu.2.1 h15 rfl rfl rfl rfl rfl (LWo.nil ⟨rfl, .inl rfl, hg⟩), ?_⟩
            refine ⟨rfl, .put 20 _, trivial, fun u hg hu hh => LWo.guardNU (t := 18) hu.1 h15 rfl rfl rfl rfl rfl (LWo.nil ⟨rfl, .inl rfl, hg⟩), ?_⟩
            refine ⟨rfl, .put 21 _, trivial, fun u hg hu hh => LWo.guardNU (t := 18) hu.1 h15 rfl rfl rfl rfl rfl (LWo.nil ⟨rfl, .inl rfl, hg⟩), ?_⟩
            refine ⟨rfl, .put 22 _, trivial, fun u hg hu hh => LWo.guardU (t := 21) hu.2.1 rfl rfl rfl rfl (LWo.nil ⟨rfl, .inl rfl, hg⟩), ?_⟩
            refine ⟨rfl, .put 23 _, trivial, fun u hg hu hh => LWo.guardU (t := 21) hu.2.1 rfl rfl rfl rfl (LWo.nil ⟨rfl, .inl rfl, hg⟩), ?_⟩
            refine ⟨rfl, .put 24 _, trivial, fun u hg hu hh => LWo.guardU (t := 21) hu.1 rfl rfl rfl rfl (LWo.nil ⟨rfl, .inl rfl, hg⟩), ?_⟩
            refine ⟨rfl, .put 25 _, trivial, fun u hg hu hh => LWo.guardU (t := 21) hu.1 rfl rfl rfl rfl (LWo.nil ⟨rfl, .inl rfl, hg⟩), ?_⟩
            refine ⟨rfl, .put 26 _, trivial, fun u hg hu hh => LWo.guardU (t := 21) hu.1 rfl rfl rfl rfl (LWo.nil ⟨rfl, .inl rfl, hg⟩), ?_⟩
            refine ⟨rfl, .put 27 _, trivial, fun u hg hu hh => LWo.guardU (t := 21) hu.2.1 rfl rfl rfl rfl (LWo.nil ⟨rfl, .inl rfl, hg⟩), ?_⟩
            refine ⟨rfl, .put 28 _, trivial, fun u hg hu hh => LWo.guardU (t := 21) hu.2.1 rfl rfl rfl rfl (LWo.nil ⟨rfl, .inl rfl, hg⟩), ?_⟩
            refine ⟨rfl, .put 29 _, trivial, fun u hg hu hh => LWo.guardU (t := 21) hu.1 rfl rfl rfl rfl (LWo.nil ⟨rfl, .inl rfl, hg⟩), ?_⟩
            refine ⟨rfl, .put 30 _, trivial, fun u hg hu hh => LWo.guardU (t := 21) hu.1 rfl rfl rfl rfl (LWo.nil ⟨rfl, .inl rfl, hg⟩), ?_⟩
            refine ⟨rfl, .put 31 _, trivial, fun u hg hu hh => LWo.guardU (t := 21) hu.1 rfl rfl rfl rfl (LWo.nil ⟨rfl, .inl rfl, hg⟩), ?_⟩
            refine ⟨rfl, .put 32 _, trivial, fun u hg hu hh => LWo.guardU (t := 21) hu.1 rfl rfl rfl rfl (LWo.nil ⟨rfl, .inl rfl, hg⟩), ?_⟩
            refine ⟨rfl, .put 33 _, trivial, fun u hg hu hh => LWo.guardNU (t := 18) hu.1 h15 rfl rfl rfl rfl rfl (LWo.nil ⟨rfl, .inl rfl, hg⟩), ?_⟩
            refine ⟨rfl, .put 34 _, trivial, fun u hg hu hh => LWo.pickTM (e_bool true) hu.1 h15 rfl (hn := LWo.nil ⟨rfl, .inl rfl, hg⟩), ?_⟩
            refine ⟨rfl, by kernel_rfl, hN12 (t0, t4, true, o1005) _ ⟨rfl, rfl, rfl, rfl, trivial⟩ ⟨rfl, trivial⟩ h⟩
          · have h := bF h15 h
            refine bS (decide (t4 > (0 : Int))) (fun h16 => ?_) (fun h16 => ?_)
            · have h := bT h16 h
              refine bk h fun x17 e17 h => ?_
              refine bk h fun x18 e18 h => ?_
              refine bk h fun x19 e19 h => ?_
              refine bk h fun x20 e20 h => ?_
              refine LWP.drawE (l := [_,_,_,_,_,_,_,_,_,_,_,_,_,_,_,_,_,_,_,_,_,_,_]) [] [0, 3, 4] [([0], []), ([4], []), ([12, 13], []), ([14], []), ([15], []), ([16], []), ([17], []), ([4, 18], []), ([18, 19], []), ([18, 20], []), ([0, 21], []), ([4, 21], []), ([21, 23], []), ([21, 22, 24], []), ([21, 25], []), ([0, 21], []), ([4, 21], []), ([21, 27, 28], []), ([21, 29], []), ([21, 26, 30], []), ([21, 31], []), ([18, 21, 32], []), ([18, 33], [])] [0, 3, 4, 34] [1005] mixed (by kernel_rfl) rfl (by decide) ?_
              refine ⟨rfl, .put 12 _, trivial, fun u hg hu hh => LWo.move (e_LLimpl_Value t0) hu.1 (hn := LWo.nil ⟨rfl, .inl rfl, hg⟩), ?_⟩
              refine ⟨rfl, .put 13 _, trivial, fun u hg hu hh => LWo.move (e_int t4) hu.1 (hn := LWo.nil ⟨rfl, .inl rfl, hg⟩), ?_⟩
              refine ⟨rfl, .put 14 _, trivial, fun u hg hu hh => LWo.indexM (f := e_Limpl_Value) e13 u_LLimpl_Value s_Limpl_Value hu.1 hu.2.1 (hn := LWo.nil ⟨rfl, .inl rfl, hg⟩), ?_⟩
              refine ⟨rfl, .put 15 _, trivial, fun u hg hu hh => LWo.load1 (c := (e_Limpl_Value x13)) g_Limpl_Value hu.1 (hn := LWo.nil ⟨rfl, .inl rfl, hg⟩), ?_⟩
              refine ⟨rfl, .put 16 _, trivial, fun u hg hu hh => LWo.vcall rfl (av1 hu.1) (c_spec_RowOk _ _ e14) (.same (.nil)) (hn := LWo.nil ⟨rfl, .inl rfl, hg⟩), ?_⟩
              refine ⟨rfl, .put 17 _, trivial, fun u hg hu hh => LWo.not hu.1 (hn := LWo.nil ⟨rfl, .inl rfl, hg⟩), ?_⟩
              refine ⟨rfl, .put 18 _, trivial, fun u hg hu hh => LWo.move (e_bool (!x14)) hu.1 (hn := LWo.nil ⟨rfl, .inl rfl, hg⟩), ?_⟩
              refine ⟨rfl, .put 19 _, trivial, fun u hg hu hh => LWo.guardY (t := 18) hu.2.1 h15 rfl rfl (LWo.move (e_int t4) hu.1 (hn := LWo.nil ⟨rfl, .inl rfl, hg⟩)), ?_⟩
              refine ⟨rfl, .put 20 _, trivial, fun u hg hu hh => LWo.guardY (t := 18) hu.1 h15 rfl rfl (LWo.int _ hu.2.1 rfl rfl (hn := LWo.nil ⟨rfl, .inl rfl, hg⟩)), ?_⟩
              refine ⟨rfl, .put 21 _, trivial, fun u hg hu hh => LWo.guardY (t := 18) hu.1 h15 rfl rfl (LWo.move (e_bool (decide (t4 > (0 : Int)))) hu.2.1 (hn := LWo.nil ⟨rfl, .inl rfl, hg⟩)), ?_⟩
              refine ⟨rfl, .put 22 _, trivial, fun u hg hu hh => LWo.guardY (t := 21) hu.2.1 h16 rfl rfl (LWo.move (e_LLimpl_Value t0) hu.1 (hn := LWo.nil ⟨rfl, .inl rfl, hg⟩)), ?_⟩
              refine ⟨rfl, .put 23 _, trivial, fun u hg hu hh => LWo.guardY (t := 21) hu.2.1 h16 rfl rfl (LWo.move (e_int t4) hu.1 (hn := LWo.nil ⟨rfl, .inl rfl, hg⟩)), ?_⟩
              refine ⟨rfl, .put 24 _, trivial, fun u hg hu hh => LWo.guardY (t := 21) hu.1 h16 rfl rfl (LWo.int _ hu.2.1 rfl (sub_ck e17) (hn := LWo.nil ⟨rfl, .inl rfl, hg⟩)), ?_⟩
              refine ⟨rfl, .put 25 _, trivial, fun u hg hu hh => LWo.guardY (t := 21) hu.1 h16 rfl rfl (LWo.indexM (f := e_Limpl_Value) e18 u_LLimpl_Value s_Limpl_Value hu.2.1 hu.2.2.1 (hn := LWo.nil ⟨rfl, .inl rfl, hg⟩)), ?_⟩
              refine ⟨rfl, .put 26 _, trivial, fun u hg hu hh => LWo.guardY (t := 21) hu.1 h16 rfl rfl (LWo.load1 (c := (e_Limpl_Value x18)) g_Limpl_Value hu.2.1 (hn := LWo.nil ⟨rfl, .inl rfl, hg⟩)), ?_⟩
              refine ⟨rfl, .put 27 _, trivial, fun u hg hu hh => LWo.guardY (t := 21) hu.2.1 h16 rfl rfl (LWo.move (e_LLimpl_Value t0) hu.1 (hn := LWo.nil ⟨rfl, .inl rfl, hg⟩)), ?_⟩
              refine ⟨rfl, .put 28 _, trivial, fun u hg hu hh => LWo.guardY (t := 21) hu.2.1 h16 rfl rfl (LWo.move (e_int t4) hu.1 (hn := LWo.nil ⟨rfl, .inl rfl, hg⟩)), ?_⟩
              refine ⟨rfl, .put 29 _, trivial, fun u hg hu hh => LWo.guardY (t := 21) hu.1 h16 rfl rfl (LWo.indexM (f := e_Limpl_Value) e19 u_LLimpl_Value s_Limpl_Value hu.2.1 hu.2.2.1 (hn := LWo.nil ⟨rfl, .inl rfl, hg⟩)), ?_⟩
              refine ⟨rfl, .put 30 _, trivial, fun u hg hu hh => LWo.guardY (t := 21) hu.1 h16 rfl rfl (LWo.load1 (c := (e_Limpl_Value x19)) g_Limpl_Value hu.2.1 (hn := LWo.nil ⟨rfl, .inl rfl, hg⟩)), ?_⟩
              refine ⟨rfl, .put 31 _, trivial, fun u hg hu hh => LWo.guardY (t := 21) hu.1 h16 rfl rfl (LWo.vcall rfl (av2 hu.2.1 hu.2.2.1) (c_spec_RowOrder _ _ _ e20) (.same (.same (.nil))) (hn := LWo.nil ⟨rfl, .inl rfl, hg⟩)), ?_⟩
              refine ⟨rfl, .put 32 _, trivial, fun u hg hu hh => LWo.guardY (t := 21) hu.1 h16 rfl rfl (LWo.int _ hu.2.1 rfl rfl (hn := LWo.nil ⟨rfl, .inl rfl, hg⟩)), ?_⟩
              refine ⟨rfl, .put 33 _, trivial, fun u hg hu hh => LWo.guardY (t := 18) hu.1 h15 rfl rfl (LWo.pickTM (e_bool (decide (x20 > (0 : Int)))) hu.2.1 h16 hu.2.2.1 (hn := LWo.nil ⟨rfl, .inl rfl, hg⟩)), ?_⟩
              refine ⟨rfl, .put 34 _, trivial, fun u hg hu hh => LWo.pickFM (e_bool (decide (x20 > (0 : Int)))) hu.1 h15 hu.2.1 (hn := LWo.nil ⟨rfl, .inl rfl, hg⟩), ?_⟩
              refine ⟨rfl, by kernel_rfl, hN12 (t0, t4, decide (x20 > (0 : Int)), o1005) _ ⟨rfl, rfl, rfl, rfl, trivial⟩ ⟨rfl, trivial⟩ h⟩
            · have h := bF h16 h
              refine LWP.drawE (l := [_,_,_,_,_,_,_,_,_,_,_,_,_,_,_,_,_,_,_,_,_,_,_]) [] [0, 3, 4] [([0], []), ([4], []), ([12, 13], []), ([14], []), ([15], []), ([16], []), ([17], []), ([4, 18], []), ([18, 19], []), ([18, 20], []), ([0, 21], []), ([4, 21], []), ([21, 23], []), ([21, 22, 24], []), ([21, 25], []), ([0, 21], []), ([4, 21], []), ([21, 27, 28], []), ([21, 29], []), ([21, 26, 30], []), ([21, 31], []), ([18, 21, 32], []), ([18, 33], [])] [0, 3, 4, 34] [1005] mixed (by kernel_rfl) rfl (by decide) ?_
              refine ⟨rfl, .put 12 _, trivial, fun u hg hu hh => LWo.move (e_LLimpl_Value t0) hu.1 (hn := LWo.nil ⟨rfl, .inl rfl, hg⟩), ?_⟩
              refine ⟨rfl, .put 13 _, trivial, fun u hg hu hh => LWo.move (e_int t4) hu.1 (hn := LWo.nil ⟨rfl, .inl rfl, hg⟩), ?_⟩
              refine ⟨rfl, .put 14 _, trivial, fun u hg hu hh => LWo.indexM (f := e_Limpl_Value) e13 u_LLimpl_Value s_Limpl_Value hu.1 hu.2.1 (hn := LWo.nil ⟨rfl, .inl rfl, hg⟩), ?_⟩
              refine ⟨rfl, .put 15 _, trivial, fun u hg hu hh => LWo.load1 (c := (e_Limpl_Value x13)) g_Limpl_Value hu.1 (hn := LWo.nil ⟨rfl, .inl rfl, hg⟩), ?_⟩
              refine ⟨rfl, .put 16 _, trivial, fun u hg hu hh => LWo.vcall rfl (av1 hu.1) (c_spec_RowOk _ _ e14) (.same (.nil)) (hn := LWo.nil ⟨rfl, .inl rfl, hg⟩), ?_⟩
              refine ⟨rfl, .put 17 _, trivial, fun u hg hu hh => LWo.not hu.1 (hn := LWo.nil ⟨rfl, .inl rfl, hg⟩), ?_⟩
              refine ⟨rfl, .put 18 _, trivial, fun u hg hu hh => LWo.move (e_bool (!x14)) hu.1 (hn := LWo.nil ⟨rfl, .inl rfl, hg⟩), ?_⟩
              refine ⟨rfl, .put 19 _, trivial, fun u hg hu hh => LWo.guardY (t := 18) hu.2.1 h15 rfl rfl (LWo.move (e_int t4) hu.1 (hn := LWo.nil ⟨rfl, .inl rfl, hg⟩)), ?_⟩
              refine ⟨rfl, .put 20 _, trivial, fun u hg hu hh => LWo.guardY (t := 18) hu.1 h15 rfl rfl (LWo.int _ hu.2.1 rfl rfl (hn := LWo.nil ⟨rfl, .inl rfl, hg⟩)), ?_⟩
              refine ⟨rfl, .put 21 _, trivial, fun u hg hu hh => LWo.guardY (t := 18) hu.1 h15 rfl rfl (LWo.move (e_bool (decide (t4 > (0 : Int)))) hu.2.1 (hn := LWo.nil ⟨rfl, .inl rfl, hg⟩)), ?_⟩
              refine ⟨rfl, .put 22 _, trivial, fun u hg hu hh => LWo.guardNU (t := 21) hu.2.1 h16 rfl rfl rfl rfl rfl (LWo.nil ⟨rfl, .inl rfl, hg⟩), ?_⟩
              refine ⟨rfl, .put 23 _, trivial, fun u hg hu hh => LWo.guardNU (t := 21) hu.2.1 h16 rfl rfl rfl rfl rfl (LWo.nil ⟨rfl, .inl rfl, hg⟩), ?_⟩
              refine ⟨rfl, .put 24 _, trivial, fun u hg hu hh => LWo.guardNU (t := 21) hu.1 h16 rfl rfl rfl rfl rfl (LWo.nil ⟨rfl, .inl rfl, hg⟩), ?_⟩
              refine ⟨rfl, .put 25 _, trivial, fun u hg hu hh => LWo.guardNU (t := 21) hu.1 h16 rfl rfl rfl rfl rfl (LWo.nil ⟨rfl, .inl rfl, hg⟩), ?_⟩
              refine ⟨rfl, .put 26 _, trivial, fun u hg hu hh => LWo.guardNU (t := 21) hu.1 h16 rfl rfl rfl rfl rfl (LWo.nil ⟨rfl, .inl rfl, hg⟩), ?_⟩
              refine ⟨rfl, .put 27 _, trivial, fun u hg hu hh => LWo.guardNU (t := 21) hu.2.1 h16 rfl rfl rfl rfl rfl (LWo.nil ⟨rfl, .inl rfl, hg⟩), ?_⟩
              refine ⟨rfl, .put 28 _, trivial, fun u hg hu hh => LWo.guardNU (t := 21) hu.2.1 h16 rfl rfl rfl rfl rfl (LWo.nil ⟨rfl, .inl rfl, hg⟩), ?_⟩
              refine ⟨rfl, .put 29 _, trivial, fun u hg hu hh => LWo.guardNU (t := 21) hu.1 h16 rfl rfl rfl rfl rfl (LWo.nil ⟨rfl, .inl rfl, hg⟩), ?_⟩
              refine ⟨rfl, .put 30 _, trivial, fun u hg hu hh => LWo.guardNU (t := 21) hu.1 h16 rfl rfl rfl rfl rfl (LWo.nil ⟨rfl, .inl rfl, hg⟩), ?_⟩
              refine ⟨rfl, .put 31 _, trivial, fun u hg hu hh => LWo.guardNU (t := 21) hu.1 h16 rfl rfl rfl rfl rfl (LWo.nil ⟨rfl, .inl rfl, hg⟩), ?_⟩
              refine ⟨rfl, .put 32 _, trivial, fun u hg hu hh => LWo.guardNU (t := 21) hu.1 h16 rfl rfl rfl rfl rfl (LWo.nil ⟨rfl, .inl rfl, hg⟩), ?_⟩
              refine ⟨rfl, .put 33 _, trivial, fun u hg hu hh => LWo.guardY (t := 18) hu.1 h15 rfl rfl (LWo.pickFM (e_bool false) hu.2.1 h16 rfl (hn := LWo.nil ⟨rfl, .inl rfl, hg⟩)), ?_⟩
              refine ⟨rfl, .put 34 _, trivial, fun u hg hu hh => LWo.pickFM (e_bool false) hu.1 h15 hu.2.1 (hn := LWo.nil ⟨rfl, .inl rfl, hg⟩), ?_⟩
              refine ⟨rfl, by kernel_rfl, hN12 (t0, t4, false, o1005) _ ⟨rfl, rfl, rfl, rfl, trivial⟩ ⟨rfl, trivial⟩ h⟩
    · have h := bF h9 h
      refine LWP.exit (hN3 o1005 _ ⟨rfl, trivial⟩ ⟨rfl, trivial⟩ h)

def m_laws_sameRow_j1  : Option Bool :=
  some true
def m_laws_sameRow_l1 : Nat → (List S_impl_Value) → (List S_impl_Value) → Int → Option Bool
  | 0, _, _, _ => none
  | n1 + 1, t0, t1, t5 =>
    bif decide (t5 < (t0.length : Int)) then ((at? t0 t5).bind fun x15 =>
    (at? t1 t5).bind fun x16 =>
    bif (!(decide (x15 = x16))) then (some false)
    else ((ckI (t5 + (1 : Int))).bind fun x19 =>
    (m_laws_sameRow_l1  n1) t0 t1 x19))
    else (m_laws_sameRow_j1  )
def m_laws_sameRow (a0 : (List S_impl_Value)) (a1 : (List S_impl_Value)) : Option Bool :=
  bif ((a0.length : Int) != (a1.length : Int)) then (some false)
  else (m_laws_sameRow_l1  (((a0.length : Int) - (0 : Int)).toNat + 1) a0 a1 (0 : Int))
theorem c_laws_sameRow (a0 : (List S_impl_Value)) (a1 : (List S_impl_Value)) (r : Bool) (h : m_laws_sameRow a0 a1 = some r) : Ret Try.prog f_laws_sameRow [e_Limpl_Value a0, e_Limpl_Value a1] (e_bool r) := by
  refine Does.goG [] F_laws_sameRow rfl e_laws_sameRow n_laws_sameRow rfl (rvs := [.tmp 4]) rfl rfl ?_
  intro w0 ok0 lent ρ0
  refine LWP.seq_k fun N1 hN1 => ?_
  refine LWP.region (l := [_]) ?_
  refine LWo.assign (e_bool false) rfl (hn := ?_)
  refine LWo.nil (hN1 _ ?_)
  refine LWP.seq_k fun N2 hN2 => ?_
  refine LWP.seq_k fun N3 hN3 => ?_
  refine LWP.region (l := [_,_,_,_,_]) ?_
  refine LWo.move (e_Limpl_Value a0) rfl (hn := ?_)
  refine LWo.lenM (f := e_impl_Value) (l := a0) u_Limpl_Value rfl (hn := ?_)
  refine LWo.move (e_Limpl_Value a1) rfl (hn := ?_)
  refine LWo.lenM (f := e_impl_Value) (l := a1) u_Limpl_Value rfl (hn := ?_)
  refine LWo.int _ rfl rfl rfl (hn := ?_)
  refine LWo.nil (hN3 _ ?_)
  refine LWP.cond_split rfl (fun h4 => ?_) (fun h4 => ?_)
  · have h := bT h4 h
    refine LWP.seq_k fun N5 hN5 => ?_
    refine LWP.region (l := [_]) ?_
    refine LWo.assign (e_bool false) rfl (hn := ?_)
    refine LWo.nil (hN5 _ ?_)
    obtain rfl := Option.some.inj h
    refine LWP.ret (QG.mk (.inr rfl) (.cons (.tmp (x := (e_bool false)) rfl) (.nil)) (RetOK.one0 (.pure rfl) (by decide)) rfl rfl)
  · have h := bF h4 h
    refine LWP.skip (hN2 _ ?_)
    refine LWP.join (α := Unit) (fun z : Unit => []) (fun z : Unit => []) (fun z : Unit => m_laws_sameRow_j1  ) r (fun _ => by simp [hkeys]) ?_ ?_
    · rintro _ h
      replace h : m_laws_sameRow_j1   = some _ := h
      refine LWP.seq_k fun N20 hN20 => ?_
      refine LWP.region (l := [_]) ?_
      refine LWo.assign (e_bool true) rfl (hn := ?_)
      refine LWo.nil (hN20 _ ?_)
      obtain rfl := Option.some.inj h
      refine LWP.ret (QG.mk (.inr rfl) (.cons (.tmp (x := (e_bool true)) rfl) (.nil)) (RetOK.one0 (.pure rfl) (by decide)) rfl rfl)
    · intro N6 hN6
      refine LWP.seq_k fun N7 hN7 => ?_
      refine LWP.region (l := [_]) ?_
      refine LWo.assign (e_int (0 : Int)) rfl (hn := ?_)
      refine LWo.nil (hN7 _ ?_)
      refine LWP.block ?_
      refine LWP.loopM (α := (List S_impl_Value) × (List S_impl_Value) × Int) (fun z : (List S_impl_Value) × (List S_impl_Value) × Int => [(0, (e_Limpl_Value z.1)), (1, (e_Limpl_Value z.2.1)), (5, (e_int z.2.2))]) (fun z : (List S_impl_Value) × (List S_impl_Value) × Int => []) (fun n1 (z : (List S_impl_Value) × (List S_impl_Value) × Int) => m_laws_sameRow_l1  n1 z.1 z.2.1 z.2.2) r _ (a0, a1, (0 : Int)) h (fun _ => rfl) (fun _ => by simp [hkeys]) ⟨rfl, rfl, rfl, trivial⟩ trivial ?_
      rintro n1 ⟨t0, t1, t5⟩ h N8 hN8
      replace h : m_laws_sameRow_l1  (n1 + 1) t0 t1 t5 = some _ := h
      refine LWP.seq_k fun N10 hN10 => ?_
      refine LWP.seq_k fun N11 hN11 => ?_
      refine LWP.region (l := [_,_,_,_]) ?_
      refine LWo.move (e_int t5) rfl (hn := ?_)
      refine LWo.move (e_Limpl_Value t0) rfl (hn := ?_)
      refine LWo.lenM (f := e_impl_Value) (l := t0) u_Limpl_Value rfl (hn := ?_)
      refine LWo.int _ rfl rfl rfl (hn := ?_)
      refine LWo.nil (hN11 _ ?_)
      refine LWP.cond_split rfl (fun h12 => ?_) (fun h12 => ?_)
      · have h := bT h12 h
        refine LWP.skip (hN10 _ ?_)
        refine LWP.seq_k fun N13 hN13 => ?_
        refine LWP.block ?_
        refine LWP.seq_k fun N14 hN14 => ?_
        refine bk h fun x15 e15 h => ?_
        refine bk h fun x16 e16 h => ?_
        refine LWP.drawE (l := [_,_,_,_,_,_,_,_,_]) [] [0, 1, 5] [([0], []), ([5], []), ([17, 18], []), ([19], []), ([1], []), ([5], []), ([21, 22], []), ([23], []), ([20, 24], [])] [0, 1, 5, 25] [] mixed (by kernel_rfl) rfl (by decide) ?_
        refine ⟨rfl, .put 17 _, trivial, fun u hg hu hh => LWo.move (e_Limpl_Value t0) hu.1 (hn := LWo.nil ⟨rfl, .inl rfl, hg⟩), ?_⟩
        refine ⟨rfl, .put 18 _, trivial, fun u hg hu hh => LWo.move (e_int t5) hu.1 (hn := LWo.nil ⟨rfl, .inl rfl, hg⟩), ?_⟩
        refine ⟨rfl, .put 19 _, trivial, fun u hg hu hh => LWo.indexM (f := e_impl_Value) e15 u_Limpl_Value s_impl_Value hu.1 hu.2.1 (hn := LWo.nil ⟨rfl, .inl rfl, hg⟩), ?_⟩
        refine ⟨rfl, .put 20 _, trivial, fun u hg hu hh => LWo.loadN ((e_impl_Value x15)).cells g_impl_Value s_impl_Value hu.1 (Nat.le_of_ble_eq_true rfl) rfl (hn := LWo.nil ⟨rfl, .inl rfl, hg⟩), ?_⟩
        refine ⟨rfl, .put 21 _, trivial, fun u hg hu hh => LWo.move (e_Limpl_Value t1) hu.1 (hn := LWo.nil ⟨rfl, .inl rfl, hg⟩), ?_⟩
        refine ⟨rfl, .put 22 _, trivial, fun u hg hu hh => LWo.move (e_int t5) hu.1 (hn := LWo.nil ⟨rfl, .inl rfl, hg⟩), ?_⟩
        refine ⟨rfl, .put 23 _, trivial, fun u hg hu hh => LWo.indexM (f := e_impl_Value) e16 u_Limpl_Value s_impl_Value hu.1 hu.2.1 (hn := LWo.nil ⟨rfl, .inl rfl, hg⟩), ?_⟩
        refine ⟨rfl, .put 24 _, trivial, fun u hg hu hh => LWo.loadN ((e_impl_Value x16)).cells g_impl_Value s_impl_Value hu.1 (Nat.le_of_ble_eq_true rfl) rfl (hn := LWo.nil ⟨rfl, .inl rfl, hg⟩), ?_⟩
        refine ⟨rfl, .put 25 _, trivial, fun u hg hu hh => LWo.ne_impl_Value _ _ hu.1 hu.2.1 (hn := LWo.nil ⟨rfl, .inl rfl, hg⟩), ?_⟩
        refine ⟨rfl, by kernel_rfl, hN14 _ ?_⟩
        refine LWP.cond_split rfl (fun h17 => ?_) (fun h17 => ?_)
        · have h := bT h17 h
          refine LWP.seq_k fun N18 hN18 => ?_
          refine LWP.region (l := [_]) ?_
          refine LWo.assign (e_bool false) rfl (hn := ?_)
          refine LWo.nil (hN18 _ ?_)
          obtain rfl := Option.some.inj h
          refine LWP.ret (QG.mk (.inr rfl) (.cons (.tmp (x := (e_bool false)) rfl) (.nil)) (RetOK.one0 (.pure rfl) (by decide)) rfl rfl)
        · have h := bF h17 h
          refine LWP.skip (hN13 _ ?_)
          refine LWP.region (l := [_,_,_]) ?_
          refine LWo.move (e_int t5) rfl (hn := ?_)
          refine bk h fun x19 e19 h => ?_
          refine LWo.int _ rfl rfl (add_ck e19) (hn := ?_)
          refine LWo.assign (e_int x19) rfl (hn := ?_)
          refine LWo.nil (hN8 (t0, t1, x19) _ ⟨rfl, rfl, rfl, trivial⟩ trivial h)
      · have h := bF h12 h
        refine LWP.exit (hN6 () _ trivial trivial h)

def m_laws_sameRows_j1  : Option Bool :=
  some true
def m_laws_sameRows_l1 : Nat → (List (List S_impl_Value)) → (List (List S_impl_Value)) → Int → Option Bool
  | 0, _, _, _ => none
  | n1 + 1, t0, t1, t5 =>
    bif decide (t5 < (t0.length : Int)) then ((at? t0 t5).bind fun x15 =>
    (at? t1 t5).bind fun x16 =>
    (m_laws_sameRow x15 x16).bind fun x17 =>
    bif (!x17) then (some false)
    else ((ckI (t5 + (1 : Int))).bind fun x20 =>
    (m_laws_sameRows_l1  n1) t0 t1 x20))
    else (m_laws_sameRows_j1  )
def m_laws_sameRows (a0 : (List (List S_impl_Value))) (a1 : (List (List S_impl_Value))) : Option Bool :=
  bif ((a0.length : Int) != (a1.length : Int)) then (some false)
  else (m_laws_sameRows_l1  (((a0.length : Int) - (0 : Int)).toNat + 1) a0 a1 (0 : Int))
theorem c_laws_sameRows (a0 : (List (List S_impl_Value))) (a1 : (List (List S_impl_Value))) (r : Bool) (h : m_laws_sameRows a0 a1 = some r) : Ret Try.prog f_laws_sameRows [e_LLimpl_Value a0, e_LLimpl_Value a1] (e_bool r) := by
  refine Does.goG [] F_laws_sameRows rfl e_laws_sameRows n_laws_sameRows rfl (rvs := [.tmp 4]) rfl rfl ?_
  intro w0 ok0 lent ρ0
  refine LWP.seq_k fun N1 hN1 => ?_
  refine LWP.region (l := [_]) ?_
  refine LWo.assign (e_bool false) rfl (hn := ?_)
  refine LWo.nil (hN1 _ ?_)
  refine LWP.seq_k fun N2 hN2 => ?_
  refine LWP.seq_k fun N3 hN3 => ?_
  refine LWP.region (l := [_,_,_,_,_]) ?_
  refine LWo.move (e_LLimpl_Value a0) rfl (hn := ?_)
  refine LWo.lenM (f := e_Limpl_Value) (l := a0) u_LLimpl_Value rfl (hn := ?_)
  refine LWo.move (e_LLimpl_Value a1) rfl (hn := ?_)
  refine LWo.lenM (f := e_Limpl_Value) (l := a1) u_LLimpl_Value rfl (hn := ?_)
  refine LWo.int _ rfl rfl rfl (hn := ?_)
  refine LWo.nil (hN3 _ ?_)
  refine LWP.cond_split rfl (fun h4 => ?_) (fun h4 => ?_)
  · have h := bT h4 h
    refine LWP.seq_k fun N5 hN5 => ?_
    refine LWP.region (l := [_]) ?_
    refine LWo.assign (e_bool false) rfl (hn := ?_)
    refine LWo.nil (hN5 _ ?_)
    obtain rfl := Option.some.inj h
    refine LWP.ret (QG.mk (.inr rfl) (.cons (.tmp (x := (e_bool false)) rfl) (.nil)) (RetOK.one0 (.pure rfl) (by decide)) rfl rfl)
  · have h := bF h4 h
    refine LWP.skip (hN2 _ ?_)
    refine LWP.join (α := Unit) (fun z : Unit => []) (fun z : Unit => []) (fun z : Unit => m_laws_sameRows_j1  ) r (fun _ => by simp [hkeys]) ?_ ?_
    · rintro _ h
      replace h : m_laws_sameRows_j1   = some _ := h
      refine LWP.seq_k fun N21 hN21 => ?_
      refine LWP.region (l := [_]) ?_
      refine LWo.assign (e_bool true) rfl (hn := ?_)
      refine LWo.nil (hN21 _ ?_)
      obtain rfl := Option.some.inj h
      refine LWP.ret (QG.mk (.inr rfl) (.cons (.tmp (x := (e_bool true)) rfl) (.nil)) (RetOK.one0 (.pure rfl) (by decide)) rfl rfl)
    · intro N6 hN6
      refine LWP.seq_k fun N7 hN7 => ?_
      refine LWP.region (l := [_]) ?_
      refine LWo.assign (e_int (0 : Int)) rfl (hn := ?_)
      refine LWo.nil (hN7 _ ?_)
      refine LWP.block ?_
      refine LWP.loopM (α := (List (List S_impl_Value)) × (List (List S_impl_Value)) × Int) (fun z : (List (List S_impl_Value)) × (List (List S_impl_Value)) × Int => [(0, (e_LLimpl_Value z.1)), (1, (e_LLimpl_Value z.2.1)), (5, (e_int z.2.2))]) (fun z : (List (List S_impl_Value)) × (List (List S_impl_Value)) × Int => []) (fun n1 (z : (List (List S_impl_Value)) × (List (List S_impl_Value)) × Int) => m_laws_sameRows_l1  n1 z.1 z.2.1 z.2.2) r _ (a0, a1, (0 : Int)) h (fun _ => rfl) (fun _ => by simp [hkeys]) ⟨rfl, rfl, rfl, trivial⟩ trivial ?_
      rintro n1 ⟨t0, t1, t5⟩ h N8 hN8
      replace h : m_laws_sameRows_l1  (n1 + 1) t0 t1 t5 = some _ := h
      refine LWP.seq_k fun N10 hN10 => ?_
      refine LWP.seq_k fun N11 hN11 => ?_
      refine LWP.region (l := [_,_,_,_]) ?_
      refine LWo.move (e_int t5) rfl (hn := ?_)
      refine LWo.move (e_LLimpl_Value t0) rfl (hn := ?_)
      refine LWo.lenM (f := e_Limpl_Value) (l := t0) u_LLimpl_Value rfl (hn := ?_)
      refine LWo.int _ rfl rfl rfl (hn := ?_)
      refine LWo.nil (hN11 _ ?_)
      refine LWP.cond_split rfl (fun h12 => ?_) (fun h12 => ?_)
      · have h := bT h12 h
        refine LWP.skip (hN10 _ ?_)
        refine LWP.seq_k fun N13 hN13 => ?_
        refine LWP.block ?_
        refine LWP.seq_k fun N14 hN14 => ?_
        refine bk h fun x15 e15 h => ?_
        refine bk h fun x16 e16 h => ?_
        refine bk h fun x17 e17 h => ?_
        refine LWP.drawE (l := [_,_,_,_,_,_,_,_,_,_]) [] [0, 1, 5] [([0], []), ([5], []), ([17, 18], []), ([19], []), ([1], []), ([5], []), ([21, 22], []), ([23], []), ([20, 24], []), ([25], [])] [0, 1, 5, 26] [] mixed (by kernel_rfl) rfl (by decide) ?_
        refine ⟨rfl, .put 17 _, trivial, fun u hg hu hh => LWo.move (e_LLimpl_Value t0) hu.1 (hn := LWo.nil ⟨rfl, .inl rfl, hg⟩), ?_⟩
        refine ⟨rfl, .put 18 _, trivial, fun u hg hu hh => LWo.move (e_int t5) hu.1 (hn := LWo.nil ⟨rfl, .inl rfl, hg⟩), ?_⟩
        refine ⟨rfl, .put 19 _, trivial, fun u hg hu hh => LWo.indexM (f := e_Limpl_Value) e15 u_LLimpl_Value s_Limpl_Value hu.1 hu.2.1 (hn := LWo.nil ⟨rfl, .inl rfl, hg⟩), ?_⟩
        refine ⟨rfl, .put 20 _, trivial, fun u hg hu hh => LWo.load1 (c := (e_Limpl_Value x15)) g_Limpl_Value hu.1 (hn := LWo.nil ⟨rfl, .inl rfl, hg⟩), ?_⟩
        refine ⟨rfl, .put 21 _, trivial, fun u hg hu hh => LWo.move (e_LLimpl_Value t1) hu.1 (hn := LWo.nil ⟨rfl, .inl rfl, hg⟩), ?_⟩
        refine ⟨rfl, .put 22 _, trivial, fun u hg hu hh => LWo.move (e_int t5) hu.1 (hn := LWo.nil ⟨rfl, .inl rfl, hg⟩), ?_⟩
        refine ⟨rfl, .put 23 _, trivial, fun u hg hu hh => LWo.indexM (f := e_Limpl_Value) e16 u_LLimpl_Value s_Limpl_Value hu.1 hu.2.1 (hn := LWo.nil ⟨rfl, .inl rfl, hg⟩), ?_⟩
        refine ⟨rfl, .put 24 _, trivial, fun u hg hu hh => LWo.load1 (c := (e_Limpl_Value x16)) g_Limpl_Value hu.1 (hn := LWo.nil ⟨rfl, .inl rfl, hg⟩), ?_⟩
        refine ⟨rfl, .put 25 _, trivial, fun u hg hu hh => LWo.vcall rfl (av2 hu.1 hu.2.1) (c_laws_sameRow _ _ _ e17) (.same (.same (.nil))) (hn := LWo.nil ⟨rfl, .inl rfl, hg⟩), ?_⟩
        refine ⟨rfl, .put 26 _, trivial, fun u hg hu hh => LWo.not hu.1 (hn := LWo.nil ⟨rfl, .inl rfl, hg⟩), ?_⟩
        refine ⟨rfl, by kernel_rfl, hN14 _ ?_⟩
        refine LWP.cond_split rfl (fun h18 => ?_) (fun h18 => ?_)
        · have h := bT h18 h
          refine LWP.seq_k fun N19 hN19 => ?_
          refine LWP.region (l := [_]) ?_
          refine LWo.assign (e_bool false) rfl (hn := ?_)
          refine LWo.nil (hN19 _ ?_)
          obtain rfl := Option.some.inj h
          refine LWP.ret (QG.mk (.inr rfl) (.cons (.tmp (x := (e_bool false)) rfl) (.nil)) (RetOK.one0 (.pure rfl) (by decide)) rfl rfl)
        · have h := bF h18 h
          refine LWP.skip (hN13 _ ?_)
          refine LWP.region (l := [_,_,_]) ?_
          refine LWo.move (e_int t5) rfl (hn := ?_)
          refine bk h fun x20 e20 h => ?_
          refine LWo.int _ rfl rfl (add_ck e20) (hn := ?_)
          refine LWo.assign (e_int x20) rfl (hn := ?_)
          refine LWo.nil (hN8 (t0, t1, x20) _ ⟨rfl, rfl, rfl, trivial⟩ trivial h)
      · have h := bF h12 h
        refine LWP.exit (hN6 () _ trivial trivial h)

def m_laws_allRows_j1  : Option Bool :=
  some true
def m_laws_allRows_l1 : Nat → (List (List S_impl_Value)) → Int → Option Bool
  | 0, _, _ => none
  | n1 + 1, t0, t3 =>
    bif decide (t3 < (t0.length : Int)) then ((at? t0 t3).bind fun x11 =>
    (m_impl_RowOk x11).bind fun x12 =>
    bif (!x12) then (some false)
    else ((ckI (t3 + (1 : Int))).bind fun x15 =>
    (m_laws_allRows_l1  n1) t0 x15))
    else (m_laws_allRows_j1  )
def m_laws_allRows (a0 : (List (List S_impl_Value))) : Option Bool :=
  m_laws_allRows_l1  (((a0.length : Int) - (0 : Int)).toNat + 1) a0 (0 : Int)
theorem c_laws_allRows (a0 : (List (List S_impl_Value))) (r : Bool) (h : m_laws_allRows a0 = some r) : Ret Try.prog f_laws_allRows [e_LLimpl_Value a0] (e_bool r) := by
  refine Does.goG [] F_laws_allRows rfl e_laws_allRows n_laws_allRows rfl (rvs := [.tmp 2]) rfl rfl ?_
  intro w0 ok0 lent ρ0
  refine LWP.seq_k fun N1 hN1 => ?_
  refine LWP.region (l := [_]) ?_
  refine LWo.assign (e_bool false) rfl (hn := ?_)
  refine LWo.nil (hN1 _ ?_)
  refine LWP.join (α := Unit) (fun z : Unit => []) (fun z : Unit => []) (fun z : Unit => m_laws_allRows_j1  ) r (fun _ => by simp [hkeys]) ?_ ?_
  · rintro _ h
    replace h : m_laws_allRows_j1   = some _ := h
    refine LWP.seq_k fun N16 hN16 => ?_
    refine LWP.region (l := [_]) ?_
    refine LWo.assign (e_bool true) rfl (hn := ?_)
    refine LWo.nil (hN16 _ ?_)
    obtain rfl := Option.some.inj h
    refine LWP.ret (QG.mk (.inr rfl) (.cons (.tmp (x := (e_bool true)) rfl) (.nil)) (RetOK.one0 (.pure rfl) (by decide)) rfl rfl)
  · intro N2 hN2
    refine LWP.seq_k fun N3 hN3 => ?_
    refine LWP.region (l := [_]) ?_
    refine LWo.assign (e_int (0 : Int)) rfl (hn := ?_)
    refine LWo.nil (hN3 _ ?_)
    refine LWP.block ?_
    refine LWP.loopM (α := (List (List S_impl_Value)) × Int) (fun z : (List (List S_impl_Value)) × Int => [(0, (e_LLimpl_Value z.1)), (3, (e_int z.2))]) (fun z : (List (List S_impl_Value)) × Int => []) (fun n1 (z : (List (List S_impl_Value)) × Int) => m_laws_allRows_l1  n1 z.1 z.2) r _ (a0, (0 : Int)) h (fun _ => rfl) (fun _ => by simp [hkeys]) ⟨rfl, rfl, trivial⟩ trivial ?_
    rintro n1 ⟨t0, t3⟩ h N4 hN4
    replace h : m_laws_allRows_l1  (n1 + 1) t0 t3 = some _ := h
    refine LWP.seq_k fun N6 hN6 => ?_
    refine LWP.seq_k fun N7 hN7 => ?_
    refine LWP.region (l := [_,_,_,_]) ?_
    refine LWo.move (e_int t3) rfl (hn := ?_)
    refine LWo.move (e_LLimpl_Value t0) rfl (hn := ?_)
    refine LWo.lenM (f := e_Limpl_Value) (l := t0) u_LLimpl_Value rfl (hn := ?_)
    refine LWo.int _ rfl rfl rfl (hn := ?_)
    refine LWo.nil (hN7 _ ?_)
    refine LWP.cond_split rfl (fun h8 => ?_) (fun h8 => ?_)
    · have h := bT h8 h
      refine LWP.skip (hN6 _ ?_)
      refine LWP.seq_k fun N9 hN9 => ?_
      refine LWP.block ?_
      refine LWP.seq_k fun N10 hN10 => ?_
      refine LWP.region (l := [_,_,_,_,_,_]) ?_
      refine LWo.move (e_LLimpl_Value t0) rfl (hn := ?_)
      refine LWo.move (e_int t3) rfl (hn := ?_)
      refine bk h fun x11 e11 h => ?_
      refine LWo.indexM (f := e_Limpl_Value) e11 u_LLimpl_Value s_Limpl_Value rfl rfl (hn := ?_)
      refine LWo.load1 (c := (e_Limpl_Value x11)) g_Limpl_Value rfl (hn := ?_)
      refine bk h fun x12 e12 h => ?_
      refine LWo.vcall rfl rfl (c_impl_RowOk _ _ e12) (.same (.nil)) (hn := ?_)
      refine LWo.not rfl (hn := ?_)
      refine LWo.nil (hN10 _ ?_)
      refine LWP.cond_split rfl (fun h13 => ?_) (fun h13 => ?_)
      · have h := bT h13 h
        refine LWP.seq_k fun N14 hN14 => ?_
        refine LWP.region (l := [_]) ?_
        refine LWo.assign (e_bool false) rfl (hn := ?_)
        refine LWo.nil (hN14 _ ?_)
        obtain rfl := Option.some.inj h
        refine LWP.ret (QG.mk (.inr rfl) (.cons (.tmp (x := (e_bool false)) rfl) (.nil)) (RetOK.one0 (.pure rfl) (by decide)) rfl rfl)
      · have h := bF h13 h
        refine LWP.skip (hN9 _ ?_)
        refine LWP.region (l := [_,_,_]) ?_
        refine LWo.move (e_int t3) rfl (hn := ?_)
        refine bk h fun x15 e15 h => ?_
        refine LWo.int _ rfl rfl (add_ck e15) (hn := ?_)
        refine LWo.assign (e_int x15) rfl (hn := ?_)
        refine LWo.nil (hN4 (t0, x15) _ ⟨rfl, rfl, trivial⟩ trivial h)
    · have h := bF h8 h
      refine LWP.exit (hN2 () _ trivial trivial h)
end Go.Proofs.Ytemfdnnhknepbaa
