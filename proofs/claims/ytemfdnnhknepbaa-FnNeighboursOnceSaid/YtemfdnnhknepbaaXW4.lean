/- Mirrors of functions, and that the functions return what the mirrors say. -/
import Derived.Test.YtemfdnnhknepbaaXW3
set_option linter.unusedVariables false
set_option linter.unusedSimpArgs false
set_option linter.unnecessarySimpa false
namespace Go.Proofs.Ytemfdnnhknepbaa
open Go.Proofs Go.Lift Go.RowKit
def m_impl_RowOrder_j1 (t0 : (List S_impl_Value)) (t1 : (List S_impl_Value)) (t12 : Bool) : Option Int :=
  bif t12 then (some (0 : Int))
  else ((m_impl_rowOrder t0 t1).bind fun x10 =>
  some x10)
def m_impl_RowOrder (a0 : (List S_impl_Value)) (a1 : (List S_impl_Value)) : Option Int :=
  (m_impl_RowOk a0).bind fun x4 =>
  bif (!x4) then (m_impl_RowOrder_j1  a0 a1 true)
  else ((m_impl_RowOk a1).bind fun x6 =>
    m_impl_RowOrder_j1  a0 a1 (!x6))
theorem c_impl_RowOrder (a0 : (List S_impl_Value)) (a1 : (List S_impl_Value)) (r : Int) (h : m_impl_RowOrder a0 a1 = some r) : Ret Try.prog f_impl_RowOrder [e_Limpl_Value a0, e_Limpl_Value a1] (e_int r) := by
  refine Does.goG [] F_impl_RowOrder rfl e_impl_RowOrder n_impl_RowOrder rfl (rvs := [.tmp 4]) rfl rfl ?_
  intro w0 ok0 lent ρ0
  refine LWP.seq_k fun N1 hN1 => ?_
  refine LWP.region (l := [_]) ?_
  refine LWo.assign (e_int (0 : Int)) rfl (hn := ?_)
  refine LWo.nil (hN1 _ ?_)
  refine LWP.seq_k fun N2 hN2 => ?_
  refine LWP.join (α := (List S_impl_Value) × (List S_impl_Value) × Bool) (fun z : (List S_impl_Value) × (List S_impl_Value) × Bool => [(0, (e_Limpl_Value z.1)), (1, (e_Limpl_Value z.2.1)), (12, (e_bool z.2.2))]) (fun z : (List S_impl_Value) × (List S_impl_Value) × Bool => []) (fun z : (List S_impl_Value) × (List S_impl_Value) × Bool => m_impl_RowOrder_j1  z.1 z.2.1 z.2.2) r (fun _ => by simp [hkeys]) ?_ ?_
  · rintro ⟨t0, t1, t12⟩ h
    replace h : m_impl_RowOrder_j1  t0 t1 t12 = some _ := h
    refine LWP.cond_split rfl (fun h7 => ?_) (fun h7 => ?_)
    · have h := bT h7 h
      refine LWP.seq_k fun N8 hN8 => ?_
      refine LWP.region (l := [_]) ?_
      refine LWo.assign (e_int (0 : Int)) rfl (hn := ?_)
      refine LWo.nil (hN8 _ ?_)
      obtain rfl := Option.some.inj h
      refine LWP.ret (QG.mk (.inr rfl) (.cons (.tmp (x := (e_int (0 : Int))) rfl) (.nil)) (RetOK.one0 (.pure rfl) (by decide)) rfl rfl)
    · have h := bF h7 h
      refine LWP.skip (hN2 _ ?_)
      refine LWP.seq_k fun N9 hN9 => ?_
      refine LWP.region (l := [_,_,_,_]) ?_
      refine LWo.move (e_Limpl_Value t0) rfl (hn := ?_)
      refine LWo.move (e_Limpl_Value t1) rfl (hn := ?_)
      refine bk h fun x10 e10 h => ?_
      refine LWo.vcall rfl rfl (c_impl_rowOrder _ _ _ e10) (.same (.same (.nil))) (hn := ?_)
      refine LWo.assign (e_int x10) rfl (hn := ?_)
      refine LWo.nil (hN9 _ ?_)
      obtain rfl := Option.some.inj h
      refine LWP.ret (QG.mk (.inr rfl) (.cons (.tmp (x := (e_int x10)) rfl) (.nil)) (RetOK.one0 (.pure rfl) (by decide)) rfl rfl)
  · intro N3 hN3
    refine LWP.region (l := [_,_,_,_,_,_,_,_]) ?_
    refine LWo.move (e_Limpl_Value a0) rfl (hn := ?_)
    refine bk h fun x4 e4 h => ?_
    refine LWo.vcall rfl rfl (c_impl_RowOk _ _ e4) (.same (.nil)) (hn := ?_)
    refine LWo.not rfl (hn := ?_)
    refine LWo.move (e_bool (!x4)) rfl (hn := ?_)
    refine LWo.byCases (t := 8) _ rfl (fun h5 => ?_) (fun h5 => ?_)
    · have h := bT h5 h
      refine LWo.guardNU (t := 8) rfl h5 rfl rfl rfl rfl rfl ?_
      refine LWo.guardNU (t := 8) rfl h5 rfl rfl rfl rfl rfl ?_
      refine LWo.guardNU (t := 8) rfl h5 rfl rfl rfl rfl rfl ?_
      refine LWo.pickTM (e_bool true) rfl h5 rfl (hn := ?_)
      refine LWo.nil (hN3 (a0, a1, true) _ ⟨rfl, rfl, rfl, trivial⟩ trivial h)
    · have h := bF h5 h
      refine LWo.guardY (t := 8) rfl h5 rfl rfl ?_
      refine LWo.move (e_Limpl_Value a1) rfl (hn := ?_)
      refine bk h fun x6 e6 h => ?_
      refine LWo.guardY (t := 8) rfl h5 rfl rfl ?_
      refine LWo.vcall rfl rfl (c_impl_RowOk _ _ e6) (.same (.nil)) (hn := ?_)
      refine LWo.guardY (t := 8) rfl h5 rfl rfl ?_
      refine LWo.not rfl (hn := ?_)
      refine LWo.pickFM (e_bool (!x6)) rfl h5 rfl (hn := ?_)
      refine LWo.nil (hN3 (a0, a1, (!x6)) _ ⟨rfl, rfl, rfl, trivial⟩ trivial h)

def m_slices_Reverse_LLimpl_Value_Limpl_Value_l1 : Nat → Int → Int → (List (List S_impl_Value)) → Option (List (List S_impl_Value))
  | 0, _, _, _ => none
  | n1 + 1, t2, t3, o0 =>
    bif decide (t2 < t3) then ((at? o0 t3).bind fun x9 =>
    (at? o0 t3).bind fun x10 =>
    (at? o0 t2).bind fun x11 =>
    (at? o0 t2).bind fun x12 =>
    (at? o0 t2).bind fun x13 =>
    (at? o0 t2).bind fun x14 =>
    lt (x10) fun y15 =>
    (at? (o0.set (t2).toNat y15) t3).bind fun x16 =>
    (at? (o0.set (t2).toNat y15) t3).bind fun x17 =>
    lt (x12) fun y18 =>
    (ckI (t2 + (1 : Int))).bind fun x19 =>
    (ckI (t3 - (1 : Int))).bind fun x20 =>
    (m_slices_Reverse_LLimpl_Value_Limpl_Value_l1  n1) x19 x20 ((o0.set (t2).toNat y15).set (t3).toNat y18))
    else (some o0)
def m_slices_Reverse_LLimpl_Value_Limpl_Value (o0 : (List (List S_impl_Value))) : Option (List (List S_impl_Value)) :=
  (ckI ((o0.length : Int) - (1 : Int))).bind fun x2 =>
  m_slices_Reverse_LLimpl_Value_Limpl_Value_l1  ((x2 - (0 : Int)).toNat + 1) (0 : Int) x2 o0
theorem c_slices_Reverse_LLimpl_Value_Limpl_Value (o0 : (List (List S_impl_Value))) (r : (List (List S_impl_Value))) (h : m_slices_Reverse_LLimpl_Value_Limpl_Value o0 = some r) : Does Try.prog f_slices_Reverse_LLimpl_Value_Limpl_Value [.own 0 0 o0.length] [(0, (lob 1 e_Limpl_Value o0))] (fun x hh => x = .tup [] ∧ hh = [(0, (lob 1 e_Limpl_Value r))]) := by
  refine Does.goG [0] F_slices_Reverse_LLimpl_Value_Limpl_Value rfl e_slices_Reverse_LLimpl_Value_Limpl_Value n_slices_Reverse_LLimpl_Value_Limpl_Value rfl (rvs := []) rfl rfl ?_
  intro w0 ok0 lent ρ0
  refine LWP.seq_k fun N1 hN1 => ?_
  refine LWP.region (l := [_,_,_,_,_]) ?_
  refine LWo.move (.own 0 0 (o0).length) rfl (hn := ?_)
  refine LWo.lenO u_LLimpl_Value rfl (hn := ?_)
  refine bk h fun x2 e2 h => ?_
  refine LWo.int _ rfl rfl (sub_ck e2) (hn := ?_)
  refine LWo.assign (e_int (0 : Int)) rfl (hn := ?_)
  refine LWo.assign (e_int x2) rfl (hn := ?_)
  refine LWo.nil (hN1 _ ?_)
  refine LWP.block ?_
  refine LWP.loopM (α := Int × Int × (List (List S_impl_Value))) (fun z : Int × Int × (List (List S_impl_Value)) => [(0, (.own 0 0 (z.2.2).length)), (2, (e_int z.1)), (3, (e_int z.2.1))]) (fun z : Int × Int × (List (List S_impl_Value)) => [(0, (lob 1 e_Limpl_Value z.2.2))]) (fun n1 (z : Int × Int × (List (List S_impl_Value))) => m_slices_Reverse_LLimpl_Value_Limpl_Value_l1  n1 z.1 z.2.1 z.2.2) r _ ((0 : Int), x2, o0) h (fun _ => rfl) (fun _ => by simp [hkeys]) ⟨rfl, rfl, rfl, trivial⟩ ⟨rfl, trivial⟩ ?_
  rintro n1 ⟨t2, t3, o0⟩ h N3 hN3
  replace h : m_slices_Reverse_LLimpl_Value_Limpl_Value_l1  (n1 + 1) t2 t3 o0 = some _ := h
  refine LWP.seq_k fun N5 hN5 => ?_
  refine LWP.seq_k fun N6 hN6 => ?_
  refine LWP.region (l := [_,_,_]) ?_
  refine LWo.move (e_int t2) rfl (hn := ?_)
  refine LWo.move (e_int t3) rfl (hn := ?_)
  refine LWo.int _ rfl rfl rfl (hn := ?_)
  refine LWo.nil (hN6 _ ?_)
  refine LWP.cond_split rfl (fun h7 => ?_) (fun h7 => ?_)
  · have h := bT h7 h
    refine LWP.skip (hN5 _ ?_)
    refine LWP.seq_k fun N8 hN8 => ?_
    refine LWP.block ?_
    refine bk h fun x9 e9 h => ?_
    refine bk h fun x10 e10 h => ?_
    refine bk h fun x11 e11 h => ?_
    refine bk h fun x12 e12 h => ?_
    refine bk h fun x13 e13 h => ?_
    refine bk h fun x14 e14 h => ?_
    refine lk h fun y15 e15 h => ?_
    refine bk h fun x16 e16 h => ?_
    refine bk h fun x17 e17 h => ?_
    refine lk h fun y18 e18 h => ?_
    refine LWP.drawE (l := [_,_,_,_,_,_,_,_,_,_,_,_,_,_,_,_]) [] [0, 2, 3] [([0], []), ([2], []), ([0], []), ([3], []), ([0], []), ([3], []), ([18, 19], [0]), ([20], [0]), ([0], []), ([2], []), ([22, 23], [0]), ([24], [0]), ([14, 15], [0]), ([21, 26], [0]), ([16, 17], [0]), ([25, 27], [0])] [0, 2, 3] [0] mixed (by kernel_rfl) rfl (by decide) ?_
    refine ⟨rfl, .put 14 _, trivial, fun u hg hu hh => LWo.move (.own 0 0 (o0).length) hu.1 (hn := LWo.nil ⟨rfl, .inl rfl, hg⟩), ?_⟩
    refine ⟨rfl, .put 15 _, trivial, fun u hg hu hh => LWo.move (e_int t2) hu.1 (hn := LWo.nil ⟨rfl, .inl rfl, hg⟩), ?_⟩
    refine ⟨rfl, .put 16 _, trivial, fun u hg hu hh => LWo.move (.own 0 0 (o0).length) hu.1 (hn := LWo.nil ⟨rfl, .inl rfl, hg⟩), ?_⟩
    refine ⟨rfl, .put 17 _, trivial, fun u hg hu hh => LWo.move (e_int t3) hu.1 (hn := LWo.nil ⟨rfl, .inl rfl, hg⟩), ?_⟩
    refine ⟨rfl, .put 18 _, trivial, fun u hg hu hh => LWo.move (.own 0 0 (o0).length) hu.1 (hn := LWo.nil ⟨rfl, .inl rfl, hg⟩), ?_⟩
    refine ⟨rfl, .put 19 _, trivial, fun u hg hu hh => LWo.move (e_int t3) hu.1 (hn := LWo.nil ⟨rfl, .inl rfl, hg⟩), ?_⟩
    refine ⟨rfl, .put 20 _, trivial, fun u hg hu hh => LWo.indexO e9 rfl u_LLimpl_Value s_Limpl_Value hu.1 hu.2.1 hh.1 (hn := LWo.nil ⟨rfl, .inl rfl, hg⟩), ?_⟩
    refine ⟨rfl, .put 21 _, trivial, fun u hg hu hh => LWo.loadO1 (e_Limpl_Value x10) e10 g_Limpl_Value hu.1 hh.1 rfl (hn := LWo.nil ⟨rfl, .inl rfl, hg⟩), ?_⟩
    refine ⟨rfl, .put 22 _, trivial, fun u hg hu hh => LWo.move (.own 0 0 (o0).length) hu.1 (hn := LWo.nil ⟨rfl, .inl rfl, hg⟩), ?_⟩
    refine ⟨rfl, .put 23 _, trivial, fun u hg hu hh => LWo.move (e_int t2) hu.1 (hn := LWo.nil ⟨rfl, .inl rfl, hg⟩), ?_⟩
    refine ⟨rfl, .put 24 _, trivial, fun u hg hu hh => LWo.indexO e11 rfl u_LLimpl_Value s_Limpl_Value hu.1 hu.2.1 hh.1 (hn := LWo.nil ⟨rfl, .inl rfl, hg⟩), ?_⟩
    refine ⟨rfl, .put 25 _, trivial, fun u hg hu hh => LWo.loadO1 (e_Limpl_Value x12) e12 g_Limpl_Value hu.1 hh.1 rfl (hn := LWo.nil ⟨rfl, .inl rfl, hg⟩), ?_⟩
    refine ⟨rfl, .put 26 _, trivial, fun u hg hu hh => LWo.indexO e13 rfl u_LLimpl_Value s_Limpl_Value hu.1 hu.2.1 hh.1 (hn := LWo.nil ⟨rfl, .inl rfl, hg⟩), ?_⟩
    refine ⟨rfl, .upd none .junk 0 _, (fun _ h => by cases h), fun u hg hu hh => LWo.storeO y15 e14 s_Limpl_Value hu.2.1 hu.1 rfl rfl rfl hh.1 rfl (by rw [e15]; rfl) (hn := LWo.nil ⟨rfl, .inl rfl, Ef.good_ok (e := .upd none .junk 0 _) (fun _ h => by cases h) hg⟩), ?_⟩
    refine ⟨rfl, .put 27 _, trivial, fun u hg hu hh => LWo.indexO e16 List.length_set.symm u_LLimpl_Value s_Limpl_Value hu.1 hu.2.1 hh.1 (hn := LWo.nil ⟨rfl, .inl rfl, hg⟩), ?_⟩
    refine ⟨rfl, .upd none .junk 0 _, (fun _ h => by cases h), fun u hg hu hh => LWo.storeO y18 e17 s_Limpl_Value hu.2.1 hu.1 rfl rfl rfl hh.1 rfl (by rw [e18]; rfl) (hn := LWo.nil ⟨rfl, .inl rfl, Ef.good_ok (e := .upd none .junk 0 _) (fun _ h => by cases h) hg⟩), ?_⟩
    refine ⟨rfl, by kernel_rfl, hN8 _ ?_⟩
    refine LWP.region (l := [_,_,_,_,_,_]) ?_
    refine LWo.move (e_int t2) rfl (hn := ?_)
    refine bk h fun x19 e19 h => ?_
    refine LWo.int _ rfl rfl (add_ck e19) (hn := ?_)
    refine LWo.move (e_int t3) rfl (hn := ?_)
    refine bk h fun x20 e20 h => ?_
    refine LWo.int _ rfl rfl (sub_ck e20) (hn := ?_)
    refine LWo.assign (e_int x19) rfl (hn := ?_)
    refine LWo.assign (e_int x20) rfl (hn := ?_)
    refine LWo.nil (hN3 (x19, x20, ((o0.set (t2).toNat y15).set (t3).toNat y18)) _ ⟨(congrArg (LV.own 0 0) (List.length_set.symm.trans List.length_set.symm)), rfl, rfl, trivial⟩ ⟨rfl, trivial⟩ h)
  · have h := bF h7 h
    obtain rfl := Option.some.inj h
    refine LWP.exit (QG.mk (.inl rfl) (.nil) (RetOK.many1 (.nil) (by simp) (by decide) rfl rfl rfl rfl rfl) rfl rfl)
theorem k_slices_Reverse_LLimpl_Value_Limpl_Value (o0 : (List (List S_impl_Value))) (r : (List (List S_impl_Value))) (h : m_slices_Reverse_LLimpl_Value_Limpl_Value o0 = some r) (k : Nat) : Does Try.prog f_slices_Reverse_LLimpl_Value_Limpl_Value [.own k 0 o0.length] [(k, (lob 1 e_Limpl_Value o0))] (fun x hh => x = .tup [] ∧ hh = [(k, (lob 1 e_Limpl_Value r))]) :=
  Does.nameO (c_slices_Reverse_LLimpl_Value_Limpl_Value o0 r h) (fun _ => rfl) k

def m_slices_rotateLeft_Limpl_Value (o0 : (List (List S_impl_Value))) (a1 : Int) : Option (List (List S_impl_Value)) :=
  (cut? o0 (0 : Int) a1).bind fun x2 =>
  none
theorem c_slices_rotateLeft_Limpl_Value (o0 : (List (List S_impl_Value))) (a1 : Int) (r : (List (List S_impl_Value))) (h : m_slices_rotateLeft_Limpl_Value o0 a1 = some r) : Does Try.prog f_slices_rotateLeft_Limpl_Value [.own 0 0 o0.length, e_int a1] [(0, (lob 1 e_Limpl_Value o0))] (fun x hh => x = .tup [] ∧ hh = [(0, (lob 1 e_Limpl_Value r))]) := by
  refine Does.goG [0] F_slices_rotateLeft_Limpl_Value rfl e_slices_rotateLeft_Limpl_Value n_slices_rotateLeft_Limpl_Value rfl (rvs := []) rfl rfl ?_
  intro w0 ok0 lent ρ0
  refine LWP.seq_k fun N1 hN1 => ?_
  refine LWP.region (l := [_,_,_,_]) ?_
  refine LWo.move (.own 0 0 (o0).length) rfl (hn := ?_)
  refine LWo.move (e_int a1) rfl (hn := ?_)
  refine bk h fun x2 e2 h => ?_
  refine LWo.frzL (f := e_Limpl_Value) (l := o0) [0, 4] 0 rfl rfl ⟨rfl, rfl, trivial⟩ ?_
  refine LWo.cutM (f := e_Limpl_Value) e2 u_LLimpl_Value s_Limpl_Value rfl rfl ⟨_, rfl⟩ (hn := ?_)
  exact no h
theorem k_slices_rotateLeft_Limpl_Value (o0 : (List (List S_impl_Value))) (a1 : Int) (r : (List (List S_impl_Value))) (h : m_slices_rotateLeft_Limpl_Value o0 a1 = some r) (k : Nat) : Does Try.prog f_slices_rotateLeft_Limpl_Value [.own k 0 o0.length, e_int a1] [(k, (lob 1 e_Limpl_Value o0))] (fun x hh => x = .tup [] ∧ hh = [(k, (lob 1 e_Limpl_Value r))]) :=
  Does.nameO (c_slices_rotateLeft_Limpl_Value o0 a1 r h) (fun _ => rfl) k

def m_slices_rotateRight_Limpl_Value (o0 : (List (List S_impl_Value))) (a1 : Int) : Option (List (List S_impl_Value)) :=
  (ckI ((o0.length : Int) - a1)).bind fun x1 =>
  (m_slices_rotateLeft_Limpl_Value o0 x1).bind fun x2 =>
  (lenQ x2.length o0.length ()).bind fun u3 =>
  some x2
theorem c_slices_rotateRight_Limpl_Value (o0 : (List (List S_impl_Value))) (a1 : Int) (r : (List (List S_impl_Value))) (h : m_slices_rotateRight_Limpl_Value o0 a1 = some r) : Does Try.prog f_slices_rotateRight_Limpl_Value [.own 0 0 o0.length, e_int a1] [(0, (lob 1 e_Limpl_Value o0))] (fun x hh => x = .tup [] ∧ hh = [(0, (lob 1 e_Limpl_Value r))]) := by
  refine Does.goG [0] F_slices_rotateRight_Limpl_Value rfl e_slices_rotateRight_Limpl_Value n_slices_rotateRight_Limpl_Value rfl (rvs := []) rfl rfl ?_
  intro w0 ok0 lent ρ0
  refine LWP.region (l := [_,_,_,_,_,_]) ?_
  refine LWo.move (.own 0 0 (o0).length) rfl (hn := ?_)
  refine LWo.move (.own 0 0 (o0).length) rfl (hn := ?_)
  refine LWo.lenO u_LLimpl_Value rfl (hn := ?_)
  refine LWo.move (e_int a1) rfl (hn := ?_)
  refine bk h fun x1 e1 h => ?_
  refine LWo.int _ rfl rfl (sub_ck e1) (hn := ?_)
  refine bk h fun x2 e2 h => ?_
  refine bk h fun u3 e3 h => ?_
  refine LWo.ucallM (e := e_Limpl_Value) rfl rfl (k_slices_rotateLeft_Limpl_Value _ _ _ e2 0) rfl rfl (some 9) rfl (hn := ?_)
  obtain rfl := Option.some.inj h
  refine LWo.nil (QG.mk (.inl rfl) (.nil) (RetOK.many1 (.nil) (by simp) (by decide) rfl rfl rfl rfl rfl) rfl rfl)
theorem k_slices_rotateRight_Limpl_Value (o0 : (List (List S_impl_Value))) (a1 : Int) (r : (List (List S_impl_Value))) (h : m_slices_rotateRight_Limpl_Value o0 a1 = some r) (k : Nat) : Does Try.prog f_slices_rotateRight_Limpl_Value [.own k 0 o0.length, e_int a1] [(k, (lob 1 e_Limpl_Value o0))] (fun x hh => x = .tup [] ∧ hh = [(k, (lob 1 e_Limpl_Value r))]) :=
  Does.nameO (c_slices_rotateRight_Limpl_Value o0 a1 r h) (fun _ => rfl) k

theorem ins_fresh {xs : List LV} {v z : LV} {i m : Nat} (hi : i ≤ xs.length) (h : xs.length + 1 ≤ i + m) :
    ((((xs.take i ++ List.replicate m z).take i ++ [v] ++ (xs.take i ++ List.replicate m z).drop (i + [v].length)).take (i + 1) ++ xs.drop i ++
      ((xs.take i ++ List.replicate m z).take i ++ [v] ++ (xs.take i ++ List.replicate m z).drop (i + [v].length)).drop (i + 1 + (xs.drop i).length)).take (xs.length + 1)) = xs.take i ++ v :: xs.drop i := by
  have h0 : (xs.take i ++ List.replicate m z).take i = xs.take i := by
    rw [List.take_append_of_le_length (by simp; omega), List.take_take, Nat.min_self]
  have h1 : (xs.take i ++ [v]).length = i + 1 := by simp; omega
  rw [h0]
  rw [List.take_append_of_le_length (l₁ := xs.take i ++ [v]) (by omega), List.take_of_length_le (l := xs.take i ++ [v]) (by omega)]
  rw [List.take_append_of_le_length (by simp; omega), List.take_of_length_le (by simp; omega)]
  simp
theorem ins_place {xs : List LV} {v : LV} {i : Nat} (hi : i ≤ xs.length) (hi' : i < xs.length) :
    (((xs.take (i + 1) ++ xs.drop i ++ xs.drop (i + 1 + (xs.drop i).length)).take i ++ [v] ++ (xs.take (i + 1) ++ xs.drop i ++ xs.drop (i + 1 + (xs.drop i).length)).drop (i + [v].length)).take (xs.length + 1)) = xs.take i ++ v :: xs.drop i := by
  have e : xs.drop (i + 1 + (xs.drop i).length) = [] := List.drop_eq_nil_of_le (by simp; omega)
  rw [e, List.append_nil]
  have h1 : (xs.take (i + 1)).length = i + 1 := by simp; omega
  have e1 : (xs.take (i + 1) ++ xs.drop i).take i = xs.take i := by rw [List.take_append_of_le_length (by omega), List.take_take, Nat.min_eq_left (by omega)]
  have e2 : (xs.take (i + 1) ++ xs.drop i).drop (i + [v].length) = xs.drop i := by
    rw [List.drop_append_of_le_length (by simp; omega), List.drop_of_length_le (l := xs.take (i + 1)) (by simp; omega)]; simp
  rw [e1, e2, List.take_of_length_le (by simp; omega)]
  simp



theorem ov_LLimpl_Value (vs : Array Value) (w : World) : (callFunc f_slices_overlaps_Limpl_Value vs).run Try.prog w = ((Extern.SlicesOverlaps.overlaps #[t_LLimpl_Value, t_LLimpl_Value] #[t_bool] vs).run Try.prog w).andThen fun v w => .ok (.value v) w := by
  rw [run_callFunc_extern F_slices_overlaps_Limpl_Value (by kernel_rfl) (by kernel_rfl) (by kernel_rfl) (e := Extern.SlicesOverlaps.overlaps #[t_LLimpl_Value, t_LLimpl_Value] #[t_bool]) (by kernel_rfl)]

theorem cc_slices_Insert_LLimpl_Value_Limpl_Value (xs : List LV) (v : LV) (i : Nat) (hi : i ≤ xs.length) (hv : v.cells.length = 1) (hu : ∀ x ∈ xs, x.cells.length = 1) (hlen : xs.length ≤ 1000000000) :
    Does Try.prog f_slices_Insert_LLimpl_Value_Limpl_Value [.own 0 0 xs.length, e_int i, .sl 1 [v]] [(0, { kind := .fro, sz := 1, elems := xs })] (fun r h => r = .nw 1 (xs.take i ++ v :: xs.drop i) false ∧ h = []) := by
  refine Does.go [0] F_slices_Insert_LLimpl_Value_Limpl_Value rfl e_slices_Insert_LLimpl_Value_Limpl_Value n_slices_Insert_LLimpl_Value_Limpl_Value rfl (ts := [6]) rfl rfl rfl ?_
  intro w0 ok0 lent ρ0
  refine LWP.rekey 0 0 1 rfl rfl rfl rfl rfl rfl ?_
  refine LWP.seq_k fun N1 hN1 => ?_
  refine LWP.region (l := [_]) ?_
  refine LWo.assign _ rfl (hn := ?_)
  refine LWo.nil (hN1 _ ?_)
  refine LWP.seq_k fun N2 hN2 => ?_
  refine LWP.region (l := [_,_,_]) ?_
  refine LWo.move _ rfl (hn := ?_)
  refine LWo.move _ rfl (hn := ?_)
  refine LWo.cutOwn (l := i) (h := xs.length) u_LLimpl_Value s_Limpl_Value rfl rfl rfl ⟨_, rfl⟩ rfl trivial (.inl rfl) (by omega) (by omega) rfl rfl (hn := ?_)
  refine LWo.nil (hN2 _ ?_)
  refine LWP.seq_k fun N3 hN3 => ?_
  refine LWP.region (l := [_,_,_]) ?_
  refine LWo.move _ rfl (hn := ?_)
  refine LWo.len u_LLimpl_Value rfl (hn := ?_)
  refine LWo.assign _ rfl (hn := ?_)
  refine LWo.nil (hN3 _ ?_)
  refine LWP.seq_k fun N4 hN4 => ?_
  refine LWP.seq_k fun N5 hN5 => ?_
  refine LWP.region (l := [_,_]) ?_
  refine LWo.move _ rfl (hn := ?_)
  refine LWo.int _ rfl rfl rfl (hn := ?_)
  refine LWo.nil (hN5 _ ?_)
  refine LWP.cond_split rfl (fun h6 => ?_) (fun h6 => ?_)
  · -- t16 = True
    try simp only [List.length_map, decide_eq_true_eq, decide_eq_false_iff_not, Int.ofNat_lt, Int.ofNat_le, Int.not_lt, Int.not_le, ge_iff_le, gt_iff_lt, Nat.not_le, Nat.not_lt] at h6
    refine LWP.seq_k fun N7 hN7 => ?_
    refine LWP.region (l := [_,_]) ?_
    refine LWo.move _ rfl (hn := ?_)
    refine LWo.assign _ rfl (hn := ?_)
    refine LWo.nil (hN7 _ ?_)
    exact absurd h6 (by simp)
  · -- t16 = False
    try simp only [List.length_map, decide_eq_true_eq, decide_eq_false_iff_not, Int.ofNat_lt, Int.ofNat_le, Int.not_lt, Int.not_le, ge_iff_le, gt_iff_lt, Nat.not_le, Nat.not_lt] at h6
    refine LWP.skip (hN4 _ ?_)
    refine LWP.seq_k fun N8 hN8 => ?_
    refine LWP.region (l := [_,_,_]) ?_
    refine LWo.move _ rfl (hn := ?_)
    refine LWo.len u_LLimpl_Value rfl (hn := ?_)
    refine LWo.assign _ rfl (hn := ?_)
    refine LWo.nil (hN8 _ ?_)
    refine LWP.seq_k fun N9 hN9 => ?_
    refine LWP.seq_k fun N10 hN10 => ?_
    refine LWP.region (l := [_,_,_]) ?_
    refine LWo.move _ rfl (hn := ?_)
    refine LWo.move _ rfl (hn := ?_)
    refine LWo.int _ rfl rfl rfl (hn := ?_)
    refine LWo.nil (hN10 _ ?_)
    refine LWP.cond_split rfl (fun h11 => ?_) (fun h11 => ?_)
    · -- t22 = True
      try simp only [List.length_map, decide_eq_true_eq, decide_eq_false_iff_not, Int.ofNat_lt, Int.ofNat_le, Int.not_lt, Int.not_le, ge_iff_le, gt_iff_lt, Nat.not_le, Nat.not_lt] at h11
      refine LWP.seq_k fun N12 hN12 => ?_
      refine LWP.region (l := [_,_,_,_]) ?_
      refine LWo.move _ rfl (hn := ?_)
      refine LWo.move _ rfl (hn := ?_)
      refine LWo.append [v] u_LLimpl_Value u_LLimpl_Value (fun _ h => by cases h) s_Limpl_Value i_Limpl_Value rfl rfl rfl rfl rfl rfl (Nat.le_refl _) (.inl rfl) rfl rfl (by simp; omega) (by simp; omega) (hn := ?_)
      refine LWo.assign _ rfl (hn := ?_)
      refine LWo.nil (hN12 _ ?_)
      refine LWP.ret (QRet.own1 (.inr rfl) rfl rfl rfl rfl (by simp) ⟨(by have e : i = xs.length := (by simp at h11; omega); subst e; simp [List.take_of_length_le]), rfl⟩)
    · -- t22 = False
      try simp only [List.length_map, decide_eq_true_eq, decide_eq_false_iff_not, Int.ofNat_lt, Int.ofNat_le, Int.not_lt, Int.not_le, ge_iff_le, gt_iff_lt, Nat.not_le, Nat.not_lt] at h11
      refine LWP.skip (hN9 _ ?_)
      refine LWP.seq_k fun N13 hN13 => ?_
      refine LWP.seq_k fun N14 hN14 => ?_
      refine LWP.region (l := [_,_,_,_,_,_]) ?_
      have hin : i < xs.length := by simp at h11; omega
      refine LWo.ownCap 0 rfl (by omega) (ho := rfl) (fun c hc1 hc2 => ?_)
      refine LWo.move _ rfl (hn := ?_)
      refine LWo.move _ rfl (hn := ?_)
      refine LWo.int _ rfl rfl (add_in (by simp only [List.length_cons, List.length_nil]; omega) (by simp only [List.length_cons, List.length_nil]; omega)) (hn := ?_)
      refine LWo.move _ rfl (hn := ?_)
      refine LWo.capC u_LLimpl_Value rfl (hn := ?_)
      refine LWo.int _ rfl rfl rfl (hn := ?_)
      refine LWo.nil (hN14 _ ?_)
      refine LWP.cond_split rfl (fun h15 => ?_) (fun h15 => ?_)
      · -- t31 = True
        try simp only [List.length_map, decide_eq_true_eq, decide_eq_false_iff_not, Int.ofNat_lt, Int.ofNat_le, Int.not_lt, Int.not_le, ge_iff_le, gt_iff_lt, Nat.not_le, Nat.not_lt] at h15
        refine LWP.seq_k fun N16 hN16 => ?_
        have hcc : c < i + (xs.length + 1 - i) := by simp at h15; omega
        refine LWP.region (l := [_,_,_,_,_,_,_,_,_,_]) ?_
        refine LWo.move _ rfl (hn := ?_)
        refine LWo.move _ rfl (hn := ?_)
        refine LWo.cutCC u_LLimpl_Value s_Limpl_Value rfl rfl rfl (h := i) ⟨_, rfl⟩ (by omega) (by omega) (hn := ?_)
        refine LWo.move _ rfl (hn := ?_)
        refine LWo.move _ rfl (hn := ?_)
        refine LWo.int _ rfl rfl (add_in (by simp only [List.length_cons, List.length_nil]; omega) (by simp only [List.length_cons, List.length_nil]; omega)) (hn := ?_)
        refine LWo.move _ rfl (hn := ?_)
        refine LWo.int _ rfl rfl (sub_in (by simp only [List.length_cons, List.length_nil]; omega) (by simp only [List.length_cons, List.length_nil]; omega)) (hn := ?_)
        refine LWo.appendMake (m := xs.length + 1 - i) 40 (.imm (.slice none 0 0)) u_LLimpl_Value u_int i_Limpl_Value (zs := [.slice none 0 0]) rfl rfl (by simp [Value.oneCell']) rfl (.own rfl rfl rfl rfl (by show i ≤ xs.length; omega) rfl hcc (fun x hx => hu x (List.mem_of_mem_take hx))) (congrArg (fun z => LV.imm (Value.int .i64 z)) (show ((xs.length : Int) + (([v] : List LV).length : Nat)) - (i : Int) = ((xs.length + 1 - i : Nat) : Int) by simp; omega)) rfl rfl (by simp; omega) (by simp; omega) (by omega) (by decide) (hn := ?_)
        refine LWo.assign _ rfl (hn := ?_)
        refine LWo.nil (hN16 _ ?_)
        refine LWP.seq_k fun N17 hN17 => ?_
        refine LWP.region (l := [_,_,_,_,_]) ?_
        refine LWo.move _ rfl (hn := ?_)
        refine LWo.move _ rfl (hn := ?_)
        refine LWo.cutOwn (l := i) (h := xs.length + 1) u_LLimpl_Value s_Limpl_Value rfl rfl rfl ⟨_, rfl⟩ (show xs.length + 1 = (xs.take i).length + (xs.length + 1 - i) by rw [List.length_take]; omega) trivial (.inl rfl) (by omega) (show xs.length + 1 ≤ (xs.take i).length + (xs.length + 1 - i) by rw [List.length_take]; omega) rfl rfl (hn := ?_)
        refine LWo.move _ rfl (hn := ?_)
        refine LWo.copy [v] u_LLimpl_Value s_Limpl_Value rfl (by omega) rfl rfl rfl rfl (by simp; omega) (.sl rfl rfl rfl) (by simp; omega) (hn := ?_)
        refine LWo.nil (hN17 _ ?_)
        refine LWP.seq_k fun N18 hN18 => ?_
        refine LWP.drawPU (l := [_,_,_,_,_,_,_,_]) (o := _) [0, 1, 7, 9] [(46, [9]), (47, [1]), (48, [7]), (49, [47, 48]), (50, [46, 49]), (51, [0]), (52, [1]), (53, [51, 52])] [9] 54 [50, 53] 40 mixed (by kernel_rfl) ?_
        refine ⟨rfl, _, fun u hu hh => LWo.move _ hu.1 (hn := LWo.nil ⟨rfl, .inl rfl, good0⟩), ?_⟩
        refine ⟨rfl, _, fun u hu hh => LWo.move (.imm (.int _ _)) hu.1 (hn := LWo.nil ⟨rfl, .inl rfl, good0⟩), ?_⟩
        refine ⟨rfl, _, fun u hu hh => LWo.move (.imm (.int _ _)) hu.1 (hn := LWo.nil ⟨rfl, .inl rfl, good0⟩), ?_⟩
        refine ⟨rfl, _, fun u hu hh => LWo.int _ hu.1 hu.2.1 (add_in (by simp only [List.length_cons, List.length_nil]; omega) (by simp only [List.length_cons, List.length_nil]; omega)) (hn := LWo.nil ⟨rfl, .inl rfl, good0⟩), ?_⟩
        refine ⟨rfl, _, fun u hu hh => LWo.cutOwn (l := i + 1) (h := xs.length + 1) u_LLimpl_Value s_Limpl_Value hu.1 (hh _ _ rfl) rfl ⟨_, hu.2.1.trans (congrArg (fun z => LV.imm (Value.int .i64 z)) (show ((i : Int) + (([v] : List LV).length : Nat)) = ((i + 1 : Nat) : Int) by simp))⟩ (show xs.length + 1 = (xs.take i).length + (xs.length + 1 - i) by rw [List.length_take]; omega) trivial (.inl rfl) (by omega) (show xs.length + 1 ≤ (xs.take i).length + (xs.length + 1 - i) by rw [List.length_take]; omega) rfl rfl (hn := LWo.nil ⟨rfl, .inl rfl, good0⟩), ?_⟩
        refine ⟨rfl, _, fun u hu hh => LWo.move _ hu.1 (hn := LWo.nil ⟨rfl, .inl rfl, good0⟩), ?_⟩
        refine ⟨rfl, _, fun u hu hh => LWo.move (.imm (.int _ _)) hu.1 (hn := LWo.nil ⟨rfl, .inl rfl, good0⟩), ?_⟩
        refine ⟨rfl, _, fun u hu hh => LWo.cutC (l := i) (h := xs.length) u_LLimpl_Value s_Limpl_Value hu.1 (hh _ _ rfl) rfl ⟨_, hu.2.1⟩ rfl (by omega) (by omega) rfl rfl (hn := LWo.nil ⟨rfl, .inl rfl, good0⟩), ?_⟩
        refine ⟨rfl, _, _, fun u hu hh => LWo.copy (xs.drop i) u_LLimpl_Value s_Limpl_Value hu.1 (by omega) (hh _ _ rfl) rfl rfl rfl (by simp; omega) (.own hu.2.1 (hh _ _ rfl) rfl rfl (by simp; omega) (by simp [List.take_of_length_le]) (by simp only [List.length_drop]; omega)) (by simp only [List.length_drop]; omega) (hn := LWo.nil ⟨rfl, .inl rfl, good0⟩), rfl, by kernel_rfl, hN18 _ ?_⟩
        refine LWP.seq_k fun N19 hN19 => ?_
        refine LWP.region (l := [_,_]) ?_
        refine LWo.move _ rfl (hn := ?_)
        refine LWo.assign _ rfl (hn := ?_)
        refine LWo.nil (hN19 _ ?_)
        refine LWP.ret (QRet.own1 (.inr rfl) rfl rfl rfl rfl (by simp; omega) ⟨by refine congrArg (fun l => LV.nw 1 l false) ?_; simp only [Nat.zero_add, Nat.sub_zero]; rw [← (show xs.length + 1 = (xs.take i).length + (xs.length + 1 - i) by rw [List.length_take]; omega)]; exact ins_fresh (m := xs.length + 1 - i) hi (by omega), rfl⟩)
      · -- t31 = False
        try simp only [List.length_map, decide_eq_true_eq, decide_eq_false_iff_not, Int.ofNat_lt, Int.ofNat_le, Int.not_lt, Int.not_le, ge_iff_le, gt_iff_lt, Nat.not_le, Nat.not_lt] at h15
        refine LWP.skip (hN13 _ ?_)
        refine LWP.seq_k fun N20 hN20 => ?_
        have hcc : xs.length + 1 ≤ c := by simp at h15; omega
        refine LWP.region (l := [_,_,_,_,_,_]) ?_
        refine LWo.move _ rfl (hn := ?_)
        refine LWo.move _ rfl (hn := ?_)
        refine LWo.move _ rfl (hn := ?_)
        refine LWo.int _ rfl rfl (add_in (by simp only [List.length_cons, List.length_nil]; omega) (by simp only [List.length_cons, List.length_nil]; omega)) (hn := ?_)
        refine LWo.cutC (l := 0) (h := xs.length + 1) u_LLimpl_Value s_Limpl_Value rfl rfl rfl rfl ⟨_, congrArg (fun z => LV.imm (Value.int .i64 z)) (show ((xs.length : Int) + (([v] : List LV).length : Nat)) = ((xs.length + 1 : Nat) : Int) by simp)⟩ (by omega) (by omega) rfl rfl (hn := ?_)
        refine LWo.assign _ rfl (hn := ?_)
        refine LWo.nil (hN20 _ ?_)
        refine LWP.seq_k fun N21 hN21 => ?_
        refine LWP.seq_k fun N22 hN22 => ?_
        refine LWP.region (l := [_,_,_,_,_,_,_,_]) ?_
        refine LWo.move _ rfl (hn := ?_)
        refine LWo.move _ rfl (hn := ?_)
        refine LWo.move _ rfl (hn := ?_)
        refine LWo.move _ rfl (hn := ?_)
        refine LWo.int _ rfl rfl (add_in (by simp only [List.length_cons, List.length_nil]; omega) (by simp only [List.length_cons, List.length_nil]; omega)) (hn := ?_)
        refine LWo.cutOwn (l := i + 1) (h := xs.length + 1) u_LLimpl_Value s_Limpl_Value rfl rfl rfl ⟨_, congrArg (fun z => LV.imm (Value.int .i64 z)) (show ((i : Int) + (([v] : List LV).length : Nat)) = ((i + 1 : Nat) : Int) by simp)⟩ rfl trivial (.inl rfl) (by omega) (by omega) rfl rfl (hn := ?_)
        refine LWo.overlaps ov_LLimpl_Value u_LLimpl_Value s_Limpl_Value (by decide) rfl rfl (by simp) rfl rfl (by omega) (hn := ?_)
        refine LWo.not rfl (hn := ?_)
        refine LWo.nil (hN22 _ ?_)
        refine LWP.condT rfl rfl ?_
        refine LWP.seq_k fun N23 hN23 => ?_
        refine LWP.drawPU (l := [_,_,_,_,_,_,_,_]) (o := _) [0, 1, 2, 7] [(69, [0]), (70, [1]), (71, [7]), (72, [70, 71]), (73, [69, 72]), (74, [0]), (75, [1]), (76, [74, 75])] [0, 1, 2] 77 [73, 76] 1 mixed (by kernel_rfl) ?_
        refine ⟨rfl, _, fun u hu hh => LWo.move _ hu.1 (hn := LWo.nil ⟨rfl, .inl rfl, good0⟩), ?_⟩
        refine ⟨rfl, _, fun u hu hh => LWo.move (.imm (.int _ _)) hu.1 (hn := LWo.nil ⟨rfl, .inl rfl, good0⟩), ?_⟩
        refine ⟨rfl, _, fun u hu hh => LWo.move (.imm (.int _ _)) hu.1 (hn := LWo.nil ⟨rfl, .inl rfl, good0⟩), ?_⟩
        refine ⟨rfl, _, fun u hu hh => LWo.int _ hu.1 hu.2.1 (add_in (by simp only [List.length_cons, List.length_nil]; omega) (by simp only [List.length_cons, List.length_nil]; omega)) (hn := LWo.nil ⟨rfl, .inl rfl, good0⟩), ?_⟩
        refine ⟨rfl, _, fun u hu hh => LWo.cutOwn (l := i + 1) (h := xs.length + 1) u_LLimpl_Value s_Limpl_Value hu.1 (hh _ _ rfl) rfl ⟨_, hu.2.1.trans (congrArg (fun z => LV.imm (Value.int .i64 z)) (show ((i : Int) + (([v] : List LV).length : Nat)) = ((i + 1 : Nat) : Int) by simp))⟩ rfl trivial (.inl rfl) (by omega) (by omega) rfl rfl (hn := LWo.nil ⟨rfl, .inl rfl, good0⟩), ?_⟩
        refine ⟨rfl, _, fun u hu hh => LWo.move _ hu.1 (hn := LWo.nil ⟨rfl, .inl rfl, good0⟩), ?_⟩
        refine ⟨rfl, _, fun u hu hh => LWo.move (.imm (.int _ _)) hu.1 (hn := LWo.nil ⟨rfl, .inl rfl, good0⟩), ?_⟩
        refine ⟨rfl, _, fun u hu hh => LWo.cutOwn (l := i) (h := xs.length + 1) u_LLimpl_Value s_Limpl_Value hu.1 (hh _ _ rfl) rfl ⟨_, hu.2.1⟩ rfl trivial (.inl rfl) (by omega) (by omega) rfl rfl (hn := LWo.nil ⟨rfl, .inl rfl, good0⟩), ?_⟩
        refine ⟨rfl, _, _, fun u hu hh => LWo.copy (xs.drop i) u_LLimpl_Value s_Limpl_Value hu.1 (by omega) (hh _ _ rfl) rfl rfl rfl (by simp; omega) (.own hu.2.1 (hh _ _ rfl) rfl rfl (by simp; omega) (by simp [List.take_of_length_le]) (by simp only [List.length_drop]; omega)) (by simp only [List.length_drop]; omega) (hn := LWo.nil ⟨rfl, .inl rfl, good0⟩), rfl, by kernel_rfl, hN23 _ ?_⟩
        refine LWP.seq_k fun N24 hN24 => ?_
        refine LWP.region (l := [_,_,_,_,_]) ?_
        refine LWo.move _ rfl (hn := ?_)
        refine LWo.move _ rfl (hn := ?_)
        refine LWo.cutOwn (l := i) (h := xs.length + 1) u_LLimpl_Value s_Limpl_Value rfl rfl rfl ⟨_, rfl⟩ rfl trivial (.inl rfl) (by omega) (by omega) rfl rfl (hn := ?_)
        refine LWo.move _ rfl (hn := ?_)
        refine LWo.copy [v] u_LLimpl_Value s_Limpl_Value rfl (by omega) rfl rfl rfl rfl (by simp; omega) (.sl rfl rfl rfl) (by simp; omega) (hn := ?_)
        refine LWo.nil (hN24 _ ?_)
        refine LWP.seq_k fun N25 hN25 => ?_
        refine LWP.region (l := [_,_]) ?_
        refine LWo.move _ rfl (hn := ?_)
        refine LWo.assign _ rfl (hn := ?_)
        refine LWo.nil (hN25 _ ?_)
        refine LWP.ret (QRet.own1 (.inr rfl) rfl rfl rfl rfl (by simp; omega) ⟨by refine congrArg (fun l => LV.nw 1 l false) ?_; simp only [Nat.zero_add, Nat.sub_zero]; exact ins_place hi hin, rfl⟩)

def m_slices_Insert_LLimpl_Value_Limpl_Value (o0 : List (List S_impl_Value)) (a1 : Int) (a2 : List (List S_impl_Value)) : Option (List (List S_impl_Value)) :=
  match a2 with
  | [v] => if 0 ≤ a1 ∧ a1 ≤ o0.length ∧ o0.length ≤ 1000000000 then some (o0.take a1.toNat ++ v :: o0.drop a1.toNat) else none
  | _ => none
theorem c_slices_Insert_LLimpl_Value_Limpl_Value (o0 : List (List S_impl_Value)) (a1 : Int) (a2 : List (List S_impl_Value)) (r : List (List S_impl_Value)) (h : m_slices_Insert_LLimpl_Value_Limpl_Value o0 a1 a2 = some r) : Does Try.prog f_slices_Insert_LLimpl_Value_Limpl_Value [.own 0 0 o0.length, e_int a1, .sl 1 (a2.map e_Limpl_Value)] [(0, lob 1 e_Limpl_Value o0)] (fun x hh => x = .nw 1 (r.map e_Limpl_Value) false ∧ hh = []) := by
  unfold m_slices_Insert_LLimpl_Value_Limpl_Value at h
  split at h
  · rename_i v
    split at h
    · rename_i h1
      cases h
      have := cc_slices_Insert_LLimpl_Value_Limpl_Value (o0.map e_Limpl_Value) (e_Limpl_Value v) a1.toNat (by rw [List.length_map]; omega) rfl (by intro x hx; obtain ⟨y, _, rfl⟩ := List.mem_map.1 hx; rfl) (by rw [List.length_map]; omega)
      rw [List.length_map, Int.toNat_of_nonneg h1.1] at this
      have em : (o0.take a1.toNat ++ v :: o0.drop a1.toNat).map e_Limpl_Value = (o0.map e_Limpl_Value).take a1.toNat ++ e_Limpl_Value v :: (o0.map e_Limpl_Value).drop a1.toNat := by simp
      rw [em]
      exact this
    · cases h
  · cases h



def m_impl_RowsSorted_j4 (o1003 : (List (List S_impl_Value))) : Option (List (List S_impl_Value)) :=
  (m_impl_rowsCopy o1003).bind fun x29 =>
  some x29
def m_impl_RowsSorted_j3 (k1 : (List (List S_impl_Value)) → Int → Int → (List (List S_impl_Value)) → Option (List (List S_impl_Value))) (t7 : (List (List S_impl_Value))) (t8 : Int) (t9 : Int) (o1033 : (List (List S_impl_Value))) : Option (List (List S_impl_Value)) :=
  (ckI (t9 + (1 : Int))).bind fun x27 =>
  k1 t7 t8 x27 o1033
def m_impl_RowsSorted_j2 (k1 : (List (List S_impl_Value)) → Int → Int → (List (List S_impl_Value)) → Option (List (List S_impl_Value))) (t5 : (List S_impl_Value)) (t6 : Int) (t7 : (List (List S_impl_Value))) (t8 : Int) (t9 : Int) (o1003 : (List (List S_impl_Value))) : Option (List (List S_impl_Value)) :=
  (m_slices_Insert_LLimpl_Value_Limpl_Value o1003 t6 ([t5] : (List (List S_impl_Value)))).bind fun x26 =>
  m_impl_RowsSorted_j3  k1 t7 t8 t9 x26
def m_impl_RowsSorted_j1 (k1 : (List (List S_impl_Value)) → Int → Int → (List (List S_impl_Value)) → Option (List (List S_impl_Value))) (k2 : (List S_impl_Value) → Int → (List (List S_impl_Value)) → Int → Int → (List (List S_impl_Value)) → Option (List (List S_impl_Value))) (t5 : (List S_impl_Value)) (t6 : Int) (t7 : (List (List S_impl_Value))) (t8 : Int) (t9 : Int) (t26 : Bool) (o1003 : (List (List S_impl_Value))) : Option (List (List S_impl_Value)) :=
  bif t26 then ((ckI (t6 - (1 : Int))).bind fun x25 =>
  k2 t5 x25 t7 t8 t9 o1003)
  else (m_impl_RowsSorted_j2  k1 t5 t6 t7 t8 t9 o1003)
def m_impl_RowsSorted_l2 (k1 : (List (List S_impl_Value)) → Int → Int → (List (List S_impl_Value)) → Option (List (List S_impl_Value))) : Nat → (List S_impl_Value) → Int → (List (List S_impl_Value)) → Int → Int → (List (List S_impl_Value)) → Option (List (List S_impl_Value))
  | 0, _, _, _, _, _, _ => none
  | n2 + 1, t5, t6, t7, t8, t9, o1003 =>
    bif decide (t6 > (0 : Int)) then ((ckI (t6 - (1 : Int))).bind fun x20 =>
      (at? o1003 x20).bind fun x21 =>
      (at? o1003 x20).bind fun x22 =>
      (m_impl_RowOrder x22 t5).bind fun x23 =>
      m_impl_RowsSorted_j1  k1 (m_impl_RowsSorted_l2  k1 n2) t5 t6 t7 t8 t9 (decide (x23 > (0 : Int))) o1003)
    else (m_impl_RowsSorted_j1  k1 (m_impl_RowsSorted_l2  k1 n2) t5 t6 t7 t8 t9 false o1003)
def m_impl_RowsSorted_l1 : Nat → (List (List S_impl_Value)) → Int → Int → (List (List S_impl_Value)) → Option (List (List S_impl_Value))
  | 0, _, _, _, _ => none
  | n1 + 1, t7, t8, t9, o1003 =>
    bif decide (t9 < t8) then ((at? t7 t9).bind fun x12 =>
    m_impl_RowsSorted_l2  (m_impl_RowsSorted_l1  n1) (1000000000) x12 (o1003.length : Int) t7 t8 t9 o1003)
    else (m_impl_RowsSorted_j4  o1003)
def m_impl_RowsSorted (a0 : (List (List S_impl_Value))) : Option (List (List S_impl_Value)) :=
  m_impl_RowsSorted_l1  (((a0.length : Int) - (0 : Int)).toNat + 1) a0 (a0.length : Int) (0 : Int) ([] : (List (List S_impl_Value)))
theorem c_impl_RowsSorted (a0 : (List (List S_impl_Value))) (r : (List (List S_impl_Value))) (h : m_impl_RowsSorted a0 = some r) : Ret Try.prog f_impl_RowsSorted [e_LLimpl_Value a0] (e_LLimpl_Value r) := by
  refine Does.goG [] F_impl_RowsSorted rfl e_impl_RowsSorted n_impl_RowsSorted rfl (rvs := [.tmp 2]) rfl rfl ?_
  intro w0 ok0 lent ρ0
  refine LWP.seq_k fun N1 hN1 => ?_
  refine LWP.region (l := [_]) ?_
  refine LWo.assign _ rfl (hn := ?_)
  refine LWo.weakT 2 (e_LLimpl_Value ([] : (List (List S_impl_Value)))) rfl .nil ?_
  refine LWo.nil (hN1 _ ?_)
  refine LWP.seq_k fun N2 hN2 => ?_
  refine LWP.region (l := [_]) ?_
  refine LWo.assign _ rfl (hn := ?_)
  refine LWo.ownNil 3 1003 1 rfl rfl rfl ?_
  refine LWo.known 3 (.own 1003 0 ([] : (List (List S_impl_Value))).length) rfl ?_
  refine LWo.nil (hN2 _ ?_)
  refine LWP.join (α := (List (List S_impl_Value))) (fun z : (List (List S_impl_Value)) => [(3, (.own 1003 0 (z).length))]) (fun z : (List (List S_impl_Value)) => [(1003, (lob 1 e_Limpl_Value z))]) (fun z : (List (List S_impl_Value)) => m_impl_RowsSorted_j4  z) r (fun _ => by simp [hkeys]) ?_ ?_
  · rintro o1003 h
    replace h : m_impl_RowsSorted_j4  o1003 = some _ := h
    refine LWP.seq_k fun N28 hN28 => ?_
    refine LWP.region (l := [_,_,_]) ?_
    refine LWo.move (.own 1003 0 (o1003).length) rfl (hn := ?_)
    refine bk h fun x29 e29 h => ?_
    refine LWo.frzL (f := e_Limpl_Value) (l := o1003) [3, 35] 1003 rfl rfl ⟨rfl, rfl, trivial⟩ ?_
    refine LWo.vcall rfl rfl (c_impl_rowsCopy _ _ e29) (.same (.nil)) (hn := ?_)
    refine LWo.assign (e_LLimpl_Value x29) rfl (hn := ?_)
    refine LWo.nil (hN28 _ ?_)
    obtain rfl := Option.some.inj h
    refine LWP.ret (QG.mk (.inr rfl) (.cons (.tmp (x := (e_LLimpl_Value x29)) rfl) (.nil)) (RetOK.one0 (.pure rfl) (by decide)) rfl rfl)
  · intro N3 hN3
    refine LWP.seq_k fun N4 hN4 => ?_
    refine LWP.region (l := [_,_,_]) ?_
    refine LWo.move (e_LLimpl_Value a0) rfl (hn := ?_)
    refine LWo.lenM (f := e_Limpl_Value) (l := a0) u_LLimpl_Value rfl (hn := ?_)
    refine LWo.move (e_int (0 : Int)) rfl (hn := ?_)
    refine LWo.nil (hN4 _ ?_)
    refine LWP.block ?_
    refine LWP.loopM (α := (List (List S_impl_Value)) × Int × Int × (List (List S_impl_Value))) (fun z : (List (List S_impl_Value)) × Int × Int × (List (List S_impl_Value)) => [(3, (.own 1003 0 (z.2.2.2).length)), (7, (e_LLimpl_Value z.1)), (8, (e_int z.2.1)), (9, (e_int z.2.2.1))]) (fun z : (List (List S_impl_Value)) × Int × Int × (List (List S_impl_Value)) => [(1003, (lob 1 e_Limpl_Value z.2.2.2))]) (fun n1 (z : (List (List S_impl_Value)) × Int × Int × (List (List S_impl_Value))) => m_impl_RowsSorted_l1  n1 z.1 z.2.1 z.2.2.1 z.2.2.2) r _ (a0, (a0.length : Int), (0 : Int), ([] : (List (List S_impl_Value)))) h (fun _ => rfl) (fun _ => by simp [hkeys]) ⟨rfl, rfl, rfl, rfl, trivial⟩ ⟨rfl, trivial⟩ ?_
    rintro n1 ⟨t7, t8, t9, o1003⟩ h N5 hN5
    replace h : m_impl_RowsSorted_l1  (n1 + 1) t7 t8 t9 o1003 = some _ := h
    refine LWP.seq_k fun N7 hN7 => ?_
    refine LWP.region (l := [_]) ?_
    refine LWo.int _ rfl rfl rfl (hn := ?_)
    refine LWo.nil (hN7 _ ?_)
    refine LWP.seq_k fun N8 hN8 => ?_
    refine LWP.cond_split rfl (fun h9 => ?_) (fun h9 => ?_)
    · have h := bT h9 h
      refine LWP.skip (hN8 _ ?_)
      refine LWP.join (α := (List (List S_impl_Value)) × Int × Int × (List (List S_impl_Value))) (fun z : (List (List S_impl_Value)) × Int × Int × (List (List S_impl_Value)) => [(3, (.own 1033 0 (z.2.2.2).length)), (7, (e_LLimpl_Value z.1)), (8, (e_int z.2.1)), (9, (e_int z.2.2.1))]) (fun z : (List (List S_impl_Value)) × Int × Int × (List (List S_impl_Value)) => [(1033, (lob 1 e_Limpl_Value z.2.2.2))]) (fun z : (List (List S_impl_Value)) × Int × Int × (List (List S_impl_Value)) => m_impl_RowsSorted_j3  (m_impl_RowsSorted_l1  n1) z.1 z.2.1 z.2.2.1 z.2.2.2) r (fun _ => by simp [hkeys]) ?_ ?_
      · rintro ⟨t7, t8, t9, o1033⟩ h
        replace h : m_impl_RowsSorted_j3  (m_impl_RowsSorted_l1  n1) t7 t8 t9 o1033 = some _ := h
        refine LWP.region (l := [_,_]) ?_
        refine bk h fun x27 e27 h => ?_
        refine LWo.int _ rfl rfl (add_ck e27) (hn := ?_)
        refine LWo.move (e_int x27) rfl (hn := ?_)
        refine LWo.rekey 3 1033 1003 rfl rfl rfl rfl rfl rfl ?_
        refine LWo.nil (hN5 (t7, t8, x27, o1033) _ ⟨rfl, rfl, rfl, rfl, trivial⟩ ⟨rfl, trivial⟩ h)
      · intro N10 hN10
        refine LWP.block ?_
        refine LWP.seq_k fun N11 hN11 => ?_
        refine LWP.region (l := [_,_,_]) ?_
        refine bk h fun x12 e12 h => ?_
        refine LWo.indexM (f := e_Limpl_Value) e12 u_LLimpl_Value s_Limpl_Value rfl rfl (hn := ?_)
        refine LWo.load1 (c := (e_Limpl_Value x12)) g_Limpl_Value rfl (hn := ?_)
        refine LWo.assign (e_Limpl_Value x12) rfl (hn := ?_)
        refine LWo.nil (hN11 _ ?_)
        refine LWP.seq_k fun N13 hN13 => ?_
        refine LWP.region (l := [_,_,_]) ?_
        refine LWo.move (.own 1003 0 (o1003).length) rfl (hn := ?_)
        refine LWo.lenO u_LLimpl_Value rfl (hn := ?_)
        refine LWo.assign (e_int (o1003.length : Int)) rfl (hn := ?_)
        refine LWo.nil (hN13 _ ?_)
        refine LWP.join (α := (List S_impl_Value) × Int × (List (List S_impl_Value)) × Int × Int × (List (List S_impl_Value))) (fun z : (List S_impl_Value) × Int × (List (List S_impl_Value)) × Int × Int × (List (List S_impl_Value)) => [(3, (.own 1003 0 (z.2.2.2.2.2).length)), (5, (e_Limpl_Value z.1)), (6, (e_int z.2.1)), (7, (e_LLimpl_Value z.2.2.1)), (8, (e_int z.2.2.2.1)), (9, (e_int z.2.2.2.2.1))]) (fun z : (List S_impl_Value) × Int × (List (List S_impl_Value)) × Int × Int × (List (List S_impl_Value)) => [(1003, (lob 1 e_Limpl_Value z.2.2.2.2.2))]) (fun z : (List S_impl_Value) × Int × (List (List S_impl_Value)) × Int × Int × (List (List S_impl_Value)) => m_impl_RowsSorted_j2  (m_impl_RowsSorted_l1  n1) z.1 z.2.1 z.2.2.1 z.2.2.2.1 z.2.2.2.2.1 z.2.2.2.2.2) r (fun _ => by simp [hkeys]) ?_ ?_
        · rintro ⟨t5, t6, t7, t8, t9, o1003⟩ h
          replace h : m_impl_RowsSorted_j2  (m_impl_RowsSorted_l1  n1) t5 t6 t7 t8 t9 o1003 = some _ := h
          refine LWP.region (l := [_,_,_,_,_,_]) ?_
          refine LWo.move (.own 1003 0 (o1003).length) rfl (hn := ?_)
          refine LWo.move (e_int t6) rfl (hn := ?_)
          refine LWo.move (e_Limpl_Value t5) rfl (hn := ?_)
          refine LWo.lit (ops := [_]) [(e_Limpl_Value t5)] u_LLimpl_Value s_Limpl_Value z_Limpl_Value rfl rfl rfl rfl rfl rfl (hn := ?_)
          refine bk h fun x26 e26 h => ?_
          refine LWo.tcallN (e := e_Limpl_Value) (e' := e_Limpl_Value) 1033 rfl rfl (c_slices_Insert_LLimpl_Value_Limpl_Value _ _ _ _ e26) (fun _ => rfl) rfl rfl rfl rfl (hn := ?_)
          refine LWo.assign (.own 1033 0 (x26).length) rfl (hn := ?_)
          refine LWo.nil (hN10 (t7, t8, t9, x26) _ ⟨rfl, rfl, rfl, rfl, trivial⟩ ⟨rfl, trivial⟩ h)
        · intro N14 hN14
          refine LWP.block ?_
          refine LWP.loopM (α := (List S_impl_Value) × Int × (List (List S_impl_Value)) × Int × Int × (List (List S_impl_Value))) (fun z : (List S_impl_Value) × Int × (List (List S_impl_Value)) × Int × Int × (List (List S_impl_Value)) => [(3, (.own 1003 0 (z.2.2.2.2.2).length)), (5, (e_Limpl_Value z.1)), (6, (e_int z.2.1)), (7, (e_LLimpl_Value z.2.2.1)), (8, (e_int z.2.2.2.1)), (9, (e_int z.2.2.2.2.1))]) (fun z : (List S_impl_Value) × Int × (List (List S_impl_Value)) × Int × Int × (List (List S_impl_Value)) => [(1003, (lob 1 e_Limpl_Value z.2.2.2.2.2))]) (fun n2 (z : (List S_impl_Value) × Int × (List (List S_impl_Value)) × Int × Int × (List (List S_impl_Value))) => m_impl_RowsSorted_l2  (m_impl_RowsSorted_l1  n1) n2 z.1 z.2.1 z.2.2.1 z.2.2.2.1 z.2.2.2.2.1 z.2.2.2.2.2) r _ (x12, (o1003.length : Int), t7, t8, t9, o1003) h (fun _ => rfl) (fun _ => by simp [hkeys]) ⟨rfl, rfl, rfl, rfl, rfl, rfl, trivial⟩ ⟨rfl, trivial⟩ ?_
          rintro n2 ⟨t5, t6, t7, t8, t9, o1003⟩ h N15 hN15
          replace h : m_impl_RowsSorted_l2  (m_impl_RowsSorted_l1  n1) (n2 + 1) t5 t6 t7 t8 t9 o1003 = some _ := h
          refine LWP.seq_k fun N17 hN17 => ?_
          refine LWP.join (α := (List S_impl_Value) × Int × (List (List S_impl_Value)) × Int × Int × Bool × (List (List S_impl_Value))) (fun z : (List S_impl_Value) × Int × (List (List S_impl_Value)) × Int × Int × Bool × (List (List S_impl_Value)) => [(3, (.own 1003 0 (z.2.2.2.2.2.2).length)), (5, (e_Limpl_Value z.1)), (6, (e_int z.2.1)), (7, (e_LLimpl_Value z.2.2.1)), (8, (e_int z.2.2.2.1)), (9, (e_int z.2.2.2.2.1)), (26, (e_bool z.2.2.2.2.2.1))]) (fun z : (List S_impl_Value) × Int × (List (List S_impl_Value)) × Int × Int × Bool × (List (List S_impl_Value)) => [(1003, (lob 1 e_Limpl_Value z.2.2.2.2.2.2))]) (fun z : (List S_impl_Value) × Int × (List (List S_impl_Value)) × Int × Int × Bool × (List (List S_impl_Value)) => m_impl_RowsSorted_j1  (m_impl_RowsSorted_l1  n1) (m_impl_RowsSorted_l2  (m_impl_RowsSorted_l1  n1) n2) z.1 z.2.1 z.2.2.1 z.2.2.2.1 z.2.2.2.2.1 z.2.2.2.2.2.1 z.2.2.2.2.2.2) r (fun _ => by simp [hkeys]) ?_ ?_
          · rintro ⟨t5, t6, t7, t8, t9, t26, o1003⟩ h
            replace h : m_impl_RowsSorted_j1  (m_impl_RowsSorted_l1  n1) (m_impl_RowsSorted_l2  (m_impl_RowsSorted_l1  n1) n2) t5 t6 t7 t8 t9 t26 o1003 = some _ := h
            refine LWP.cond_split rfl (fun h24 => ?_) (fun h24 => ?_)
            · have h := bT h24 h
              refine LWP.skip (hN17 _ ?_)
              refine LWP.block ?_
              refine LWP.region (l := [_,_,_]) ?_
              refine LWo.move (e_int t6) rfl (hn := ?_)
              refine bk h fun x25 e25 h => ?_
              refine LWo.int _ rfl rfl (sub_ck e25) (hn := ?_)
              refine LWo.assign (e_int x25) rfl (hn := ?_)
              refine LWo.nil (hN15 (t5, x25, t7, t8, t9, o1003) _ ⟨rfl, rfl, rfl, rfl, rfl, rfl, trivial⟩ ⟨rfl, trivial⟩ h)
            · have h := bF h24 h
              refine LWP.exit (hN14 (t5, t6, t7, t8, t9, o1003) _ ⟨rfl, rfl, rfl, rfl, rfl, rfl, trivial⟩ ⟨rfl, trivial⟩ h)
          · intro N18 hN18
            refine LWP.region (l := [_,_,_,_,_,_,_,_,_,_,_,_]) ?_
            refine LWo.move (e_int t6) rfl (hn := ?_)
            refine LWo.int _ rfl rfl rfl (hn := ?_)
            refine LWo.move (e_bool (decide (t6 > (0 : Int)))) rfl (hn := ?_)
            refine LWo.byCases (t := 17) _ rfl (fun h19 => ?_) (fun h19 => ?_)
            · have h := bT h19 h
              refine LWo.guardY (t := 17) rfl h19 rfl rfl ?_
              refine LWo.move (.own 1003 0 (o1003).length) rfl (hn := ?_)
              refine LWo.guardY (t := 17) rfl h19 rfl rfl ?_
              refine LWo.move (e_int t6) rfl (hn := ?_)
              refine bk h fun x20 e20 h => ?_
              refine LWo.guardY (t := 17) rfl h19 rfl rfl ?_
              refine LWo.int _ rfl rfl (sub_ck e20) (hn := ?_)
              refine bk h fun x21 e21 h => ?_
              refine LWo.guardY (t := 17) rfl h19 rfl rfl ?_
              refine LWo.indexO e21 rfl u_LLimpl_Value s_Limpl_Value rfl rfl rfl (hn := ?_)
              refine bk h fun x22 e22 h => ?_
              refine LWo.guardY (t := 17) rfl h19 rfl rfl ?_
              refine LWo.loadO1 (e_Limpl_Value x22) e22 g_Limpl_Value rfl rfl rfl (hn := ?_)
              refine LWo.guardY (t := 17) rfl h19 rfl rfl ?_
              refine LWo.move (e_Limpl_Value t5) rfl (hn := ?_)
              refine bk h fun x23 e23 h => ?_
              refine LWo.guardY (t := 17) rfl h19 rfl rfl ?_
              refine LWo.vcall rfl rfl (c_impl_RowOrder _ _ _ e23) (.same (.same (.nil))) (hn := ?_)
              refine LWo.guardY (t := 17) rfl h19 rfl rfl ?_
              refine LWo.int _ rfl rfl rfl (hn := ?_)
              refine LWo.pickTM (e_bool (decide (x23 > (0 : Int)))) rfl h19 rfl (hn := ?_)
              refine LWo.nil (hN18 (t5, t6, t7, t8, t9, decide (x23 > (0 : Int)), o1003) _ ⟨rfl, rfl, rfl, rfl, rfl, rfl, rfl, trivial⟩ ⟨rfl, trivial⟩ h)
            · have h := bF h19 h
              refine LWo.guardNU (t := 17) rfl h19 rfl rfl rfl rfl rfl ?_
              refine LWo.guardNU (t := 17) rfl h19 rfl rfl rfl rfl rfl ?_
              refine LWo.guardNU (t := 17) rfl h19 rfl rfl rfl rfl rfl ?_
              refine LWo.guardNU (t := 17) rfl h19 rfl rfl rfl rfl rfl ?_
              refine LWo.guardNU (t := 17) rfl h19 rfl rfl rfl rfl rfl ?_
              refine LWo.guardNU (t := 17) rfl h19 rfl rfl rfl rfl rfl ?_
              refine LWo.guardNU (t := 17) rfl h19 rfl rfl rfl rfl rfl ?_
              refine LWo.guardNU (t := 17) rfl h19 rfl rfl rfl rfl rfl ?_
              refine LWo.pickFM (e_bool false) rfl h19 rfl (hn := ?_)
              refine LWo.nil (hN18 (t5, t6, t7, t8, t9, false, o1003) _ ⟨rfl, rfl, rfl, rfl, rfl, rfl, rfl, trivial⟩ ⟨rfl, trivial⟩ h)
    · have h := bF h9 h
      refine LWP.exit (hN3 o1003 _ ⟨rfl, trivial⟩ ⟨rfl, trivial⟩ h)

def m_impl_ValueOk (a0 : S_impl_Value) : Option Bool :=
  (m_impl_Value_ok a0).bind fun x3 =>
  some x3
theorem c_impl_ValueOk (a0 : S_impl_Value) (r : Bool) (h : m_impl_ValueOk a0 = some r) : Ret Try.prog f_impl_ValueOk [e_impl_Value a0] (e_bool r) := by
  refine Does.goG [] F_impl_ValueOk rfl e_impl_ValueOk n_impl_ValueOk rfl (rvs := [.tmp 2]) rfl rfl ?_
  intro w0 ok0 lent ρ0
  refine LWP.seq_k fun N1 hN1 => ?_
  refine LWP.region (l := [_,_]) ?_
  refine LWo.boxF (e_impl_Value a0) rfl rfl rfl (hn := ?_)
  refine LWo.assign (e_bool false) rfl (hn := ?_)
  refine LWo.nil (hN1 _ ?_)
  refine LWP.seq_k fun N2 hN2 => ?_
  refine LWP.region (l := [_,_,_]) ?_
  refine LWo.loadN ((e_impl_Value a0)).cells g_impl_Value s_impl_Value rfl (Nat.le_of_ble_eq_true rfl) rfl (hn := ?_)
  refine bk h fun x3 e3 h => ?_
  refine LWo.vcall rfl rfl (c_impl_Value_ok _ _ e3) (.same (.nil)) (hn := ?_)
  refine LWo.assign (e_bool x3) rfl (hn := ?_)
  refine LWo.nil (hN2 _ ?_)
  obtain rfl := Option.some.inj h
  refine LWP.ret (QG.mk (.inr rfl) (.cons (.tmp (x := (e_bool x3)) rfl) (.nil)) (RetOK.one0 (.pure rfl) (by decide)) rfl rfl)

def m_laws_alive_j1 (t0 : Bool) : Option Bool :=
  some t0
def m_laws_alive  : Option Bool :=
  (m_impl_ValueOk (⟨(1 : Int), (3 : Int), (⟨#[]⟩ : ByteArray)⟩ : S_impl_Value)).bind fun x3 =>
  bif x3 then ((m_impl_ValueOk (⟨(9 : Int), (0 : Int), (⟨#[]⟩ : ByteArray)⟩ : S_impl_Value)).bind fun x5 =>
    m_laws_alive_j1  (!x5))
  else (m_laws_alive_j1  false)
theorem c_laws_alive  (r : Bool) (h : m_laws_alive  = some r) : Ret Try.prog f_laws_alive [] (e_bool r) := by
  refine Does.goG [] F_laws_alive rfl e_laws_alive n_laws_alive rfl (rvs := [.tmp 0]) rfl rfl ?_
  intro w0 ok0 lent ρ0
  refine LWP.seq_k fun N1 hN1 => ?_
  refine LWP.region (l := [_]) ?_
  refine LWo.assign (e_bool false) rfl (hn := ?_)
  refine LWo.nil (hN1 _ ?_)
  refine LWP.join (α := Bool) (fun z : Bool => [(0, (e_bool z))]) (fun z : Bool => []) (fun z : Bool => m_laws_alive_j1  z) r (fun _ => by simp [hkeys]) ?_ ?_
  · rintro t0 h
    replace h : m_laws_alive_j1  t0 = some _ := h
    obtain rfl := Option.some.inj h
    refine LWP.ret (QG.mk (.inr rfl) (.cons (.tmp (x := (e_bool t0)) rfl) (.nil)) (RetOK.one0 (.pure rfl) (by decide)) rfl rfl)
  · intro N2 hN2
    refine LWP.region (l := [_,_,_,_,_,_,_,_]) ?_
    refine LWo.build_impl_Value (parts := [_, _]) (⟨(1 : Int), (3 : Int), (⟨#[]⟩ : ByteArray)⟩ : S_impl_Value) rfl rfl rfl .refl (hn := ?_)
    refine bk h fun x3 e3 h => ?_
    refine LWo.vcall rfl rfl (c_impl_ValueOk _ _ e3) (.same (.nil)) (hn := ?_)
    refine LWo.move (e_bool x3) rfl (hn := ?_)
    refine LWo.byCases (t := 3) _ rfl (fun h4 => ?_) (fun h4 => ?_)
    · have h := bT h4 h
      refine LWo.guardY (t := 3) rfl h4 rfl rfl ?_
      refine LWo.build_impl_Value (parts := [_]) (⟨(9 : Int), (0 : Int), (⟨#[]⟩ : ByteArray)⟩ : S_impl_Value) rfl rfl rfl .refl (hn := ?_)
      refine bk h fun x5 e5 h => ?_
      refine LWo.guardY (t := 3) rfl h4 rfl rfl ?_
      refine LWo.vcall rfl rfl (c_impl_ValueOk _ _ e5) (.same (.nil)) (hn := ?_)
      refine LWo.guardY (t := 3) rfl h4 rfl rfl ?_
      refine LWo.not rfl (hn := ?_)
      refine LWo.pickTM (e_bool (!x5)) rfl h4 rfl (hn := ?_)
      refine LWo.assign (e_bool (!x5)) rfl (hn := ?_)
      refine LWo.nil (hN2 (!x5) _ ⟨rfl, trivial⟩ trivial h)
    · have h := bF h4 h
      refine LWo.guardNU (t := 3) rfl h4 rfl rfl rfl rfl rfl ?_
      refine LWo.guardNU (t := 3) rfl h4 rfl rfl rfl rfl rfl ?_
      refine LWo.guardNU (t := 3) rfl h4 rfl rfl rfl rfl rfl ?_
      refine LWo.pickFM (e_bool false) rfl h4 rfl (hn := ?_)
      refine LWo.assign (e_bool false) rfl (hn := ?_)
      refine LWo.nil (hN2 false _ ⟨rfl, trivial⟩ trivial h)

def m_impl_RowMany_j2 (t5 : Int) : Option Int :=
  some t5
def m_impl_RowMany_j1 (k1 : (List S_impl_Value) → Int → (List (List S_impl_Value)) → Int → Int → Option Int) (t1 : (List S_impl_Value)) (t5 : Int) (t8 : (List (List S_impl_Value))) (t9 : Int) (t10 : Int) : Option Int :=
  (ckI (t10 + (1 : Int))).bind fun x17 =>
  k1 t1 t5 t8 t9 x17
def m_impl_RowMany_l1 : Nat → (List S_impl_Value) → Int → (List (List S_impl_Value)) → Int → Int → Option Int
  | 0, _, _, _, _, _ => none
  | n1 + 1, t1, t5, t8, t9, t10 =>
    bif decide (t10 < t9) then ((at? t8 t10).bind fun x12 =>
    (m_slices_Equal_Limpl_Value_impl_Value x12 t1).bind fun x14 =>
    bif x14 then ((ckI (t5 + (1 : Int))).bind fun x16 =>
      m_impl_RowMany_j1  (m_impl_RowMany_l1  n1) t1 x16 t8 t9 t10)
    else (m_impl_RowMany_j1  (m_impl_RowMany_l1  n1) t1 t5 t8 t9 t10))
    else (m_impl_RowMany_j2  t5)
def m_impl_RowMany (a0 : (List (List S_impl_Value))) (a1 : (List S_impl_Value)) : Option Int :=
  m_impl_RowMany_l1  (((a0.length : Int) - (0 : Int)).toNat + 1) a1 (0 : Int) a0 (a0.length : Int) (0 : Int)
theorem c_impl_RowMany (a0 : (List (List S_impl_Value))) (a1 : (List S_impl_Value)) (r : Int) (h : m_impl_RowMany a0 a1 = some r) : Ret Try.prog f_impl_RowMany [e_LLimpl_Value a0, e_Limpl_Value a1] (e_int r) := by
  refine Does.goG [] F_impl_RowMany rfl e_impl_RowMany n_impl_RowMany rfl (rvs := [.tmp 4]) rfl rfl ?_
  intro w0 ok0 lent ρ0
  refine LWP.seq_k fun N1 hN1 => ?_
  refine LWP.region (l := [_]) ?_
  refine LWo.assign (e_int (0 : Int)) rfl (hn := ?_)
  refine LWo.nil (hN1 _ ?_)
  refine LWP.seq_k fun N2 hN2 => ?_
  refine LWP.region (l := [_]) ?_
  refine LWo.assign (e_int (0 : Int)) rfl (hn := ?_)
  refine LWo.nil (hN2 _ ?_)
  refine LWP.join (α := Int) (fun z : Int => [(5, (e_int z))]) (fun z : Int => []) (fun z : Int => m_impl_RowMany_j2  z) r (fun _ => by simp [hkeys]) ?_ ?_
  · rintro t5 h
    replace h : m_impl_RowMany_j2  t5 = some _ := h
    refine LWP.seq_k fun N18 hN18 => ?_
    refine LWP.region (l := [_,_]) ?_
    refine LWo.move (e_int t5) rfl (hn := ?_)
    refine LWo.assign (e_int t5) rfl (hn := ?_)
    refine LWo.nil (hN18 _ ?_)
    obtain rfl := Option.some.inj h
    refine LWP.ret (QG.mk (.inr rfl) (.cons (.tmp (x := (e_int t5)) rfl) (.nil)) (RetOK.one0 (.pure rfl) (by decide)) rfl rfl)
  · intro N3 hN3
    refine LWP.seq_k fun N4 hN4 => ?_
    refine LWP.region (l := [_,_,_]) ?_
    refine LWo.move (e_LLimpl_Value a0) rfl (hn := ?_)
    refine LWo.lenM (f := e_Limpl_Value) (l := a0) u_LLimpl_Value rfl (hn := ?_)
    refine LWo.move (e_int (0 : Int)) rfl (hn := ?_)
    refine LWo.nil (hN4 _ ?_)
    refine LWP.block ?_
    refine LWP.loopM (α := (List S_impl_Value) × Int × (List (List S_impl_Value)) × Int × Int) (fun z : (List S_impl_Value) × Int × (List (List S_impl_Value)) × Int × Int => [(1, (e_Limpl_Value z.1)), (5, (e_int z.2.1)), (8, (e_LLimpl_Value z.2.2.1)), (9, (e_int z.2.2.2.1)), (10, (e_int z.2.2.2.2))]) (fun z : (List S_impl_Value) × Int × (List (List S_impl_Value)) × Int × Int => []) (fun n1 (z : (List S_impl_Value) × Int × (List (List S_impl_Value)) × Int × Int) => m_impl_RowMany_l1  n1 z.1 z.2.1 z.2.2.1 z.2.2.2.1 z.2.2.2.2) r _ (a1, (0 : Int), a0, (a0.length : Int), (0 : Int)) h (fun _ => rfl) (fun _ => by simp [hkeys]) ⟨rfl, rfl, rfl, rfl, rfl, trivial⟩ trivial ?_
    rintro n1 ⟨t1, t5, t8, t9, t10⟩ h N5 hN5
    replace h : m_impl_RowMany_l1  (n1 + 1) t1 t5 t8 t9 t10 = some _ := h
    refine LWP.seq_k fun N7 hN7 => ?_
    refine LWP.region (l := [_]) ?_
    refine LWo.int _ rfl rfl rfl (hn := ?_)
    refine LWo.nil (hN7 _ ?_)
    refine LWP.seq_k fun N8 hN8 => ?_
    refine LWP.cond_split rfl (fun h9 => ?_) (fun h9 => ?_)
    · have h := bT h9 h
      refine LWP.skip (hN8 _ ?_)
      refine LWP.join (α := (List S_impl_Value) × Int × (List (List S_impl_Value)) × Int × Int) (fun z : (List S_impl_Value) × Int × (List (List S_impl_Value)) × Int × Int => [(1, (e_Limpl_Value z.1)), (5, (e_int z.2.1)), (8, (e_LLimpl_Value z.2.2.1)), (9, (e_int z.2.2.2.1)), (10, (e_int z.2.2.2.2))]) (fun z : (List S_impl_Value) × Int × (List (List S_impl_Value)) × Int × Int => []) (fun z : (List S_impl_Value) × Int × (List (List S_impl_Value)) × Int × Int => m_impl_RowMany_j1  (m_impl_RowMany_l1  n1) z.1 z.2.1 z.2.2.1 z.2.2.2.1 z.2.2.2.2) r (fun _ => by simp [hkeys]) ?_ ?_
      · rintro ⟨t1, t5, t8, t9, t10⟩ h
        replace h : m_impl_RowMany_j1  (m_impl_RowMany_l1  n1) t1 t5 t8 t9 t10 = some _ := h
        refine LWP.region (l := [_,_]) ?_
        refine bk h fun x17 e17 h => ?_
        refine LWo.int _ rfl rfl (add_ck e17) (hn := ?_)
        refine LWo.move (e_int x17) rfl (hn := ?_)
        refine LWo.nil (hN5 (t1, t5, t8, t9, x17) _ ⟨rfl, rfl, rfl, rfl, rfl, trivial⟩ trivial h)
      · intro N10 hN10
        refine LWP.block ?_
        refine LWP.seq_k fun N11 hN11 => ?_
        refine LWP.region (l := [_,_,_]) ?_
        refine bk h fun x12 e12 h => ?_
        refine LWo.indexM (f := e_Limpl_Value) e12 u_LLimpl_Value s_Limpl_Value rfl rfl (hn := ?_)
        refine LWo.load1 (c := (e_Limpl_Value x12)) g_Limpl_Value rfl (hn := ?_)
        refine LWo.assign (e_Limpl_Value x12) rfl (hn := ?_)
        refine LWo.nil (hN11 _ ?_)
        refine LWP.seq_k fun N13 hN13 => ?_
        refine LWP.region (l := [_,_,_]) ?_
        refine LWo.move (e_Limpl_Value x12) rfl (hn := ?_)
        refine LWo.move (e_Limpl_Value t1) rfl (hn := ?_)
        refine bk h fun x14 e14 h => ?_
        refine LWo.vcall rfl rfl (c_slices_Equal_Limpl_Value_impl_Value _ _ _ e14) (.same (.same (.nil))) (hn := ?_)
        refine LWo.nil (hN13 _ ?_)
        refine LWP.cond_split rfl (fun h15 => ?_) (fun h15 => ?_)
        · have h := bT h15 h
          refine LWP.region (l := [_,_,_]) ?_
          refine LWo.move (e_int t5) rfl (hn := ?_)
          refine bk h fun x16 e16 h => ?_
          refine LWo.int _ rfl rfl (add_ck e16) (hn := ?_)
          refine LWo.assign (e_int x16) rfl (hn := ?_)
          refine LWo.nil (hN10 (t1, x16, t8, t9, t10) _ ⟨rfl, rfl, rfl, rfl, rfl, trivial⟩ trivial h)
        · have h := bF h15 h
          refine LWP.skip (hN10 (t1, t5, t8, t9, t10) _ ⟨rfl, rfl, rfl, rfl, rfl, trivial⟩ trivial h)
    · have h := bF h9 h
      refine LWP.exit (hN3 t5 _ ⟨rfl, trivial⟩ trivial h)

def m_impl_rowsHas (a0 : (List (List S_impl_Value))) (a1 : (List S_impl_Value)) : Option Bool :=
  (m_impl_RowMany a0 a1).bind fun x3 =>
  some (decide (x3 > (0 : Int)))
theorem c_impl_rowsHas (a0 : (List (List S_impl_Value))) (a1 : (List S_impl_Value)) (r : Bool) (h : m_impl_rowsHas a0 a1 = some r) : Ret Try.prog f_impl_rowsHas [e_LLimpl_Value a0, e_Limpl_Value a1] (e_bool r) := by
  refine Does.goG [] F_impl_rowsHas rfl e_impl_rowsHas n_impl_rowsHas rfl (rvs := [.tmp 4]) rfl rfl ?_
  intro w0 ok0 lent ρ0
  refine LWP.seq_k fun N1 hN1 => ?_
  refine LWP.region (l := [_]) ?_
  refine LWo.assign (e_bool false) rfl (hn := ?_)
  refine LWo.nil (hN1 _ ?_)
  refine LWP.seq_k fun N2 hN2 => ?_
  refine LWP.region (l := [_,_,_,_,_]) ?_
  refine LWo.move (e_LLimpl_Value a0) rfl (hn := ?_)
  refine LWo.move (e_Limpl_Value a1) rfl (hn := ?_)
  refine bk h fun x3 e3 h => ?_
  refine LWo.vcall rfl rfl (c_impl_RowMany _ _ _ e3) (.same (.same (.nil))) (hn := ?_)
  refine LWo.int _ rfl rfl rfl (hn := ?_)
  refine LWo.assign (e_bool (decide (x3 > (0 : Int)))) rfl (hn := ?_)
  refine LWo.nil (hN2 _ ?_)
  obtain rfl := Option.some.inj h
  refine LWP.ret (QG.mk (.inr rfl) (.cons (.tmp (x := (e_bool (decide (x3 > (0 : Int))))) rfl) (.nil)) (RetOK.one0 (.pure rfl) (by decide)) rfl rfl)

def m_impl_RowsOnce_j2 (o1003 : (List (List S_impl_Value))) : Option (List (List S_impl_Value)) :=
  (m_impl_rowsCopy o1003).bind fun x19 =>
  some x19
def m_impl_RowsOnce_j1 (k1 : (List (List S_impl_Value)) → Int → Int → (List (List S_impl_Value)) → Option (List (List S_impl_Value))) (t6 : (List (List S_impl_Value))) (t7 : Int) (t8 : Int) (o1003 : (List (List S_impl_Value))) : Option (List (List S_impl_Value)) :=
  (ckI (t8 + (1 : Int))).bind fun x17 =>
  k1 t6 t7 x17 o1003
def m_impl_RowsOnce_l1 : Nat → (List (List S_impl_Value)) → Int → Int → (List (List S_impl_Value)) → Option (List (List S_impl_Value))
  | 0, _, _, _, _ => none
  | n1 + 1, t6, t7, t8, o1003 =>
    bif decide (t8 < t7) then ((at? t6 t8).bind fun x12 =>
    (m_impl_rowsHas o1003 x12).bind fun x14 =>
    bif (!x14) then ((app? o1003 ([x12] : (List (List S_impl_Value)))).bind fun x16 =>
      m_impl_RowsOnce_j1  (m_impl_RowsOnce_l1  n1) t6 t7 t8 x16)
    else (m_impl_RowsOnce_j1  (m_impl_RowsOnce_l1  n1) t6 t7 t8 o1003))
    else (m_impl_RowsOnce_j2  o1003)
def m_impl_RowsOnce (a0 : (List (List S_impl_Value))) : Option (List (List S_impl_Value)) :=
  m_impl_RowsOnce_l1  (((a0.length : Int) - (0 : Int)).toNat + 1) a0 (a0.length : Int) (0 : Int) ([] : (List (List S_impl_Value)))
theorem c_impl_RowsOnce (a0 : (List (List S_impl_Value))) (r : (List (List S_impl_Value))) (h : m_impl_RowsOnce a0 = some r) : Ret Try.prog f_impl_RowsOnce [e_LLimpl_Value a0] (e_LLimpl_Value r) := by
  refine Does.goG [] F_impl_RowsOnce rfl e_impl_RowsOnce n_impl_RowsOnce rfl (rvs := [.tmp 2]) rfl rfl ?_
  intro w0 ok0 lent ρ0
  refine LWP.seq_k fun N1 hN1 => ?_
  refine LWP.region (l := [_]) ?_
  refine LWo.assign _ rfl (hn := ?_)
  refine LWo.weakT 2 (e_LLimpl_Value ([] : (List (List S_impl_Value)))) rfl .nil ?_
  refine LWo.nil (hN1 _ ?_)
  refine LWP.seq_k fun N2 hN2 => ?_
  refine LWP.region (l := [_]) ?_
  refine LWo.assign _ rfl (hn := ?_)
  refine LWo.ownNil 3 1003 1 rfl rfl rfl ?_
  refine LWo.known 3 (.own 1003 0 ([] : (List (List S_impl_Value))).length) rfl ?_
  refine LWo.nil (hN2 _ ?_)
  refine LWP.join (α := (List (List S_impl_Value))) (fun z : (List (List S_impl_Value)) => [(3, (.own 1003 0 (z).length))]) (fun z : (List (List S_impl_Value)) => [(1003, (lob 1 e_Limpl_Value z))]) (fun z : (List (List S_impl_Value)) => m_impl_RowsOnce_j2  z) r (fun _ => by simp [hkeys]) ?_ ?_
  · rintro o1003 h
    replace h : m_impl_RowsOnce_j2  o1003 = some _ := h
    refine LWP.seq_k fun N18 hN18 => ?_
    refine LWP.region (l := [_,_,_]) ?_
    refine LWo.move (.own 1003 0 (o1003).length) rfl (hn := ?_)
    refine bk h fun x19 e19 h => ?_
    refine LWo.frzL (f := e_Limpl_Value) (l := o1003) [3, 21] 1003 rfl rfl ⟨rfl, rfl, trivial⟩ ?_
    refine LWo.vcall rfl rfl (c_impl_rowsCopy _ _ e19) (.same (.nil)) (hn := ?_)
    refine LWo.assign (e_LLimpl_Value x19) rfl (hn := ?_)
    refine LWo.nil (hN18 _ ?_)
    obtain rfl := Option.some.inj h
    refine LWP.ret (QG.mk (.inr rfl) (.cons (.tmp (x := (e_LLimpl_Value x19)) rfl) (.nil)) (RetOK.one0 (.pure rfl) (by decide)) rfl rfl)
  · intro N3 hN3
    refine LWP.seq_k fun N4 hN4 => ?_
    refine LWP.region (l := [_,_,_]) ?_
    refine LWo.move (e_LLimpl_Value a0) rfl (hn := ?_)
    refine LWo.lenM (f := e_Limpl_Value) (l := a0) u_LLimpl_Value rfl (hn := ?_)
    refine LWo.move (e_int (0 : Int)) rfl (hn := ?_)
    refine LWo.nil (hN4 _ ?_)
    refine LWP.block ?_
    refine LWP.loopM (α := (List (List S_impl_Value)) × Int × Int × (List (List S_impl_Value))) (fun z : (List (List S_impl_Value)) × Int × Int × (List (List S_impl_Value)) => [(3, (.own 1003 0 (z.2.2.2).length)), (6, (e_LLimpl_Value z.1)), (7, (e_int z.2.1)), (8, (e_int z.2.2.1))]) (fun z : (List (List S_impl_Value)) × Int × Int × (List (List S_impl_Value)) => [(1003, (lob 1 e_Limpl_Value z.2.2.2))]) (fun n1 (z : (List (List S_impl_Value)) × Int × Int × (List (List S_impl_Value))) => m_impl_RowsOnce_l1  n1 z.1 z.2.1 z.2.2.1 z.2.2.2) r _ (a0, (a0.length : Int), (0 : Int), ([] : (List (List S_impl_Value)))) h (fun _ => rfl) (fun _ => by simp [hkeys]) ⟨rfl, rfl, rfl, rfl, trivial⟩ ⟨rfl, trivial⟩ ?_
    rintro n1 ⟨t6, t7, t8, o1003⟩ h N5 hN5
    replace h : m_impl_RowsOnce_l1  (n1 + 1) t6 t7 t8 o1003 = some _ := h
    refine LWP.seq_k fun N7 hN7 => ?_
    refine LWP.region (l := [_]) ?_
    refine LWo.int _ rfl rfl rfl (hn := ?_)
    refine LWo.nil (hN7 _ ?_)
    refine LWP.seq_k fun N8 hN8 => ?_
    refine LWP.cond_split rfl (fun h9 => ?_) (fun h9 => ?_)
    · have h := bT h9 h
      refine LWP.skip (hN8 _ ?_)
      refine LWP.join (α := (List (List S_impl_Value)) × Int × Int × (List (List S_impl_Value))) (fun z : (List (List S_impl_Value)) × Int × Int × (List (List S_impl_Value)) => [(3, (.own 1003 0 (z.2.2.2).length)), (6, (e_LLimpl_Value z.1)), (7, (e_int z.2.1)), (8, (e_int z.2.2.1))]) (fun z : (List (List S_impl_Value)) × Int × Int × (List (List S_impl_Value)) => [(1003, (lob 1 e_Limpl_Value z.2.2.2))]) (fun z : (List (List S_impl_Value)) × Int × Int × (List (List S_impl_Value)) => m_impl_RowsOnce_j1  (m_impl_RowsOnce_l1  n1) z.1 z.2.1 z.2.2.1 z.2.2.2) r (fun _ => by simp [hkeys]) ?_ ?_
      · rintro ⟨t6, t7, t8, o1003⟩ h
        replace h : m_impl_RowsOnce_j1  (m_impl_RowsOnce_l1  n1) t6 t7 t8 o1003 = some _ := h
        refine LWP.region (l := [_,_]) ?_
        refine bk h fun x17 e17 h => ?_
        refine LWo.int _ rfl rfl (add_ck e17) (hn := ?_)
        refine LWo.move (e_int x17) rfl (hn := ?_)
        refine LWo.nil (hN5 (t6, t7, x17, o1003) _ ⟨rfl, rfl, rfl, rfl, trivial⟩ ⟨rfl, trivial⟩ h)
      · intro N10 hN10
        refine LWP.block ?_
        refine LWP.seq_k fun N11 hN11 => ?_
        refine LWP.region (l := [_,_,_]) ?_
        refine bk h fun x12 e12 h => ?_
        refine LWo.indexM (f := e_Limpl_Value) e12 u_LLimpl_Value s_Limpl_Value rfl rfl (hn := ?_)
        refine LWo.load1 (c := (e_Limpl_Value x12)) g_Limpl_Value rfl (hn := ?_)
        refine LWo.assign (e_Limpl_Value x12) rfl (hn := ?_)
        refine LWo.nil (hN11 _ ?_)
        refine LWP.seq_k fun N13 hN13 => ?_
        refine LWP.region (l := [_,_,_,_]) ?_
        refine LWo.move (.own 1003 0 (o1003).length) rfl (hn := ?_)
        refine LWo.move (e_Limpl_Value x12) rfl (hn := ?_)
        refine bk h fun x14 e14 h => ?_
        refine LWo.wcall rfl rfl (c_impl_rowsHas _ _ _ e14) (.viewM rfl rfl rfl (.same (.nil))) rfl (hn := ?_)
        refine LWo.not rfl (hn := ?_)
        refine LWo.nil (hN13 _ ?_)
        refine LWP.cond_split rfl (fun h15 => ?_) (fun h15 => ?_)
        · have h := bT h15 h
          refine LWP.region (l := [_,_,_,_,_]) ?_
          refine LWo.move (.own 1003 0 (o1003).length) rfl (hn := ?_)
          refine LWo.move (e_Limpl_Value x12) rfl (hn := ?_)
          refine LWo.lit (ops := [_]) [(e_Limpl_Value x12)] u_LLimpl_Value s_Limpl_Value z_Limpl_Value rfl rfl rfl rfl rfl rfl (hn := ?_)
          refine bk h fun x16 e16 h => ?_
          refine LWo.appendM (f := e_Limpl_Value) e16 rfl u_LLimpl_Value u_LLimpl_Value (fun _ h => by cases h) s_Limpl_Value i_Limpl_Value rfl rfl rfl (.sl rfl) rfl rfl (hn := ?_)
          refine LWo.assign (.own 1003 0 (x16).length) rfl (hn := ?_)
          refine LWo.nil (hN10 (t6, t7, t8, x16) _ ⟨rfl, rfl, rfl, rfl, trivial⟩ ⟨rfl, trivial⟩ h)
        · have h := bF h15 h
          refine LWP.skip (hN10 (t6, t7, t8, o1003) _ ⟨rfl, rfl, rfl, rfl, trivial⟩ ⟨rfl, trivial⟩ h)
    · have h := bF h9 h
      refine LWP.exit (hN3 o1003 _ ⟨rfl, trivial⟩ ⟨rfl, trivial⟩ h)

def m_laws_FnNeighboursOnce_j3 (t2 : Bool) : Option Bool :=
  some t2
def m_laws_FnNeighboursOnce_j2 (t2 : Bool) : Option Bool :=
  some t2
def m_laws_FnNeighboursOnce_j1 (t3 : (List (List S_impl_Value))) (t4 : (List (List S_impl_Value))) (t26 : Bool) : Option Bool :=
  bif t26 then (bif ((t4.length : Int) == (0 : Int)) then ((m_laws_alive ).bind fun x25 =>
      m_laws_FnNeighboursOnce_j2  x25)
    else (m_laws_FnNeighboursOnce_j2  false))
  else ((m_impl_RowsOnce t3).bind fun x27 =>
  (m_laws_sameRows t4 x27).bind fun x28 =>
  bif x28 then ((m_impl_RowsSorted t4).bind fun x30 =>
  (m_laws_sameRows x30 t4).bind fun x31 =>
  bif x31 then ((m_laws_alive ).bind fun x33 =>
    m_laws_FnNeighboursOnce_j3  x33)
  else (m_laws_FnNeighboursOnce_j3  false))
  else (m_laws_FnNeighboursOnce_j3  false))
def m_laws_FnNeighboursOnce (a0 : (List UInt8)) : Option Bool :=
  bif decide ((a0.length : Int) > (1048576 : Int)) then (some true)
  else ((m_spec_DrawNeighboursOnce a0).bind fun x7 =>
  (m_impl_NeighboursOnce x7).bind fun x9 =>
  (m_spec_NeighboursOnce x7).bind fun x12 =>
  (m_laws_sameRows x9 x12).bind fun x13 =>
  bif (!x13) then (some false)
  else ((m_laws_allRows x7).bind fun x18 =>
  bif (!x18) then (m_laws_FnNeighboursOnce_j1  x7 x9 true)
  else ((m_impl_RowsSorted x7).bind fun x20 =>
    (m_laws_sameRows x20 x7).bind fun x21 =>
    m_laws_FnNeighboursOnce_j1  x7 x9 (!x21))))
theorem c_laws_FnNeighboursOnce (a0 : (List UInt8)) (r : Bool) (h : m_laws_FnNeighboursOnce a0 = some r) : Ret Try.prog f_laws_FnNeighboursOnce [e_Luint8 a0] (e_bool r) := by
  refine Does.goG [] F_laws_FnNeighboursOnce rfl e_laws_FnNeighboursOnce n_laws_FnNeighboursOnce rfl (rvs := [.tmp 2]) rfl rfl ?_
  intro w0 ok0 lent ρ0
  refine LWP.seq_k fun N1 hN1 => ?_
  refine LWP.region (l := [_]) ?_
  refine LWo.assign (e_bool false) rfl (hn := ?_)
  refine LWo.nil (hN1 _ ?_)
  refine LWP.seq_k fun N2 hN2 => ?_
  refine LWP.seq_k fun N3 hN3 => ?_
  refine LWP.region (l := [_,_,_]) ?_
  refine LWo.move (e_Luint8 a0) rfl (hn := ?_)
  refine LWo.lenM (f := e_uint8) (l := a0) u_Luint8 rfl (hn := ?_)
  refine LWo.int _ rfl rfl rfl (hn := ?_)
  refine LWo.nil (hN3 _ ?_)
  refine LWP.cond_split rfl (fun h4 => ?_) (fun h4 => ?_)
  · have h := bT h4 h
    refine LWP.seq_k fun N5 hN5 => ?_
    refine LWP.region (l := [_]) ?_
    refine LWo.assign (e_bool true) rfl (hn := ?_)
    refine LWo.nil (hN5 _ ?_)
    obtain rfl := Option.some.inj h
    refine LWP.ret (QG.mk (.inr rfl) (.cons (.tmp (x := (e_bool true)) rfl) (.nil)) (RetOK.one0 (.pure rfl) (by decide)) rfl rfl)
  · have h := bF h4 h
    refine LWP.skip (hN2 _ ?_)
    refine LWP.seq_k fun N6 hN6 => ?_
    refine LWP.region (l := [_,_,_]) ?_
    refine LWo.move (e_Luint8 a0) rfl (hn := ?_)
    refine bk h fun x7 e7 h => ?_
    refine LWo.vcall rfl rfl (c_spec_DrawNeighboursOnce _ _ e7) (.same (.nil)) (hn := ?_)
    refine LWo.assign (e_LLimpl_Value x7) rfl (hn := ?_)
    refine LWo.nil (hN6 _ ?_)
    refine LWP.seq_k fun N8 hN8 => ?_
    refine LWP.region (l := [_,_,_]) ?_
    refine LWo.move (e_LLimpl_Value x7) rfl (hn := ?_)
    refine bk h fun x9 e9 h => ?_
    refine LWo.vcall rfl rfl (c_impl_NeighboursOnce _ _ e9) (.same (.nil)) (hn := ?_)
    refine LWo.assign (e_LLimpl_Value x9) rfl (hn := ?_)
    refine LWo.nil (hN8 _ ?_)
    refine LWP.seq_k fun N10 hN10 => ?_
    refine LWP.seq_k fun N11 hN11 => ?_
    refine LWP.region (l := [_,_,_,_,_]) ?_
    refine LWo.move (e_LLimpl_Value x9) rfl (hn := ?_)
    refine LWo.move (e_LLimpl_Value x7) rfl (hn := ?_)
    refine bk h fun x12 e12 h => ?_
    refine LWo.vcall rfl rfl (c_spec_NeighboursOnce _ _ e12) (.same (.nil)) (hn := ?_)
    refine bk h fun x13 e13 h => ?_
    refine LWo.vcall rfl rfl (c_laws_sameRows _ _ _ e13) (.same (.same (.nil))) (hn := ?_)
    refine LWo.not rfl (hn := ?_)
    refine LWo.nil (hN11 _ ?_)
    refine LWP.cond_split rfl (fun h14 => ?_) (fun h14 => ?_)
    · have h := bT h14 h
      refine LWP.seq_k fun N15 hN15 => ?_
      refine LWP.region (l := [_]) ?_
      refine LWo.assign (e_bool false) rfl (hn := ?_)
      refine LWo.nil (hN15 _ ?_)
      obtain rfl := Option.some.inj h
      refine LWP.ret (QG.mk (.inr rfl) (.cons (.tmp (x := (e_bool false)) rfl) (.nil)) (RetOK.one0 (.pure rfl) (by decide)) rfl rfl)
    · have h := bF h14 h
      refine LWP.skip (hN10 _ ?_)
      refine LWP.seq_k fun N16 hN16 => ?_
      refine LWP.join (α := (List (List S_impl_Value)) × (List (List S_impl_Value)) × Bool) (fun z : (List (List S_impl_Value)) × (List (List S_impl_Value)) × Bool => [(3, (e_LLimpl_Value z.1)), (4, (e_LLimpl_Value z.2.1)), (26, (e_bool z.2.2))]) (fun z : (List (List S_impl_Value)) × (List (List S_impl_Value)) × Bool => []) (fun z : (List (List S_impl_Value)) × (List (List S_impl_Value)) × Bool => m_laws_FnNeighboursOnce_j1  z.1 z.2.1 z.2.2) r (fun _ => by simp [hkeys]) ?_ ?_
      · rintro ⟨t3, t4, t26⟩ h
        replace h : m_laws_FnNeighboursOnce_j1  t3 t4 t26 = some _ := h
        refine LWP.cond_split rfl (fun h22 => ?_) (fun h22 => ?_)
        · have h := bT h22 h
          refine LWP.join (α := Bool) (fun z : Bool => [(2, (e_bool z))]) (fun z : Bool => []) (fun z : Bool => m_laws_FnNeighboursOnce_j2  z) r (fun _ => by simp [hkeys]) ?_ ?_
          · rintro t2 h
            replace h : m_laws_FnNeighboursOnce_j2  t2 = some _ := h
            obtain rfl := Option.some.inj h
            refine LWP.ret (QG.mk (.inr rfl) (.cons (.tmp (x := (e_bool t2)) rfl) (.nil)) (RetOK.one0 (.pure rfl) (by decide)) rfl rfl)
          · intro N23 hN23
            refine LWP.region (l := [_,_,_,_,_,_,_]) ?_
            refine LWo.move (e_LLimpl_Value t4) rfl (hn := ?_)
            refine LWo.lenM (f := e_Limpl_Value) (l := t4) u_LLimpl_Value rfl (hn := ?_)
            refine LWo.int _ rfl rfl rfl (hn := ?_)
            refine LWo.move (e_bool ((t4.length : Int) == (0 : Int))) rfl (hn := ?_)
            refine LWo.byCases (t := 30) _ rfl (fun h24 => ?_) (fun h24 => ?_)
            · have h := bT h24 h
              refine bk h fun x25 e25 h => ?_
              refine LWo.guardY (t := 30) rfl h24 rfl rfl ?_
              refine LWo.vcall rfl rfl (c_laws_alive  _ e25) (.nil) (hn := ?_)
              refine LWo.pickTM (e_bool x25) rfl h24 rfl (hn := ?_)
              refine LWo.assign (e_bool x25) rfl (hn := ?_)
              refine LWo.nil (hN23 x25 _ ⟨rfl, trivial⟩ trivial h)
            · have h := bF h24 h
              refine LWo.guardNU (t := 30) rfl h24 rfl rfl rfl rfl rfl ?_
              refine LWo.pickFM (e_bool false) rfl h24 rfl (hn := ?_)
              refine LWo.assign (e_bool false) rfl (hn := ?_)
              refine LWo.nil (hN23 false _ ⟨rfl, trivial⟩ trivial h)
        · have h := bF h22 h
          refine LWP.skip (hN16 _ ?_)
          refine LWP.join (α := Bool) (fun z : Bool => [(2, (e_bool z))]) (fun z : Bool => []) (fun z : Bool => m_laws_FnNeighboursOnce_j3  z) r (fun _ => by simp [hkeys]) ?_ ?_
          · rintro t2 h
            replace h : m_laws_FnNeighboursOnce_j3  t2 = some _ := h
            obtain rfl := Option.some.inj h
            refine LWP.ret (QG.mk (.inr rfl) (.cons (.tmp (x := (e_bool t2)) rfl) (.nil)) (RetOK.one0 (.pure rfl) (by decide)) rfl rfl)
          · intro N26 hN26
            refine LWP.region (l := [_,_,_,_,_,_,_,_,_,_,_,_,_,_]) ?_
            refine LWo.move (e_LLimpl_Value t4) rfl (hn := ?_)
            refine LWo.move (e_LLimpl_Value t3) rfl (hn := ?_)
            refine bk h fun x27 e27 h => ?_
            refine LWo.vcall rfl rfl (c_impl_RowsOnce _ _ e27) (.same (.nil)) (hn := ?_)
            refine bk h fun x28 e28 h => ?_
            refine LWo.vcall rfl rfl (c_laws_sameRows _ _ _ e28) (.same (.same (.nil))) (hn := ?_)
            refine LWo.move (e_bool x28) rfl (hn := ?_)
            refine LWo.byCases (t := 37) _ rfl (fun h29 => ?_) (fun h29 => ?_)
            · have h := bT h29 h
              refine LWo.guardY (t := 37) rfl h29 rfl rfl ?_
              refine LWo.move (e_LLimpl_Value t4) rfl (hn := ?_)
              refine bk h fun x30 e30 h => ?_
              refine LWo.guardY (t := 37) rfl h29 rfl rfl ?_
              refine LWo.vcall rfl rfl (c_impl_RowsSorted _ _ e30) (.same (.nil)) (hn := ?_)
              refine LWo.guardY (t := 37) rfl h29 rfl rfl ?_
              refine LWo.move (e_LLimpl_Value t4) rfl (hn := ?_)
              refine bk h fun x31 e31 h => ?_
              refine LWo.guardY (t := 37) rfl h29 rfl rfl ?_
              refine LWo.vcall rfl rfl (c_laws_sameRows _ _ _ e31) (.same (.same (.nil))) (hn := ?_)
              refine LWo.pickTM (e_bool x31) rfl h29 rfl (hn := ?_)
              refine LWo.move (e_bool x31) rfl (hn := ?_)
              refine LWo.byCases (t := 43) _ rfl (fun h32 => ?_) (fun h32 => ?_)
              · have h := bT h32 h
                refine bk h fun x33 e33 h => ?_
                refine LWo.guardY (t := 43) rfl h32 rfl rfl ?_
                refine LWo.vcall rfl rfl (c_laws_alive  _ e33) (.nil) (hn := ?_)
                refine LWo.pickTM (e_bool x33) rfl h32 rfl (hn := ?_)
                refine LWo.assign (e_bool x33) rfl (hn := ?_)
                refine LWo.nil (hN26 x33 _ ⟨rfl, trivial⟩ trivial h)
              · have h := bF h32 h
                refine LWo.guardNU (t := 43) rfl h32 rfl rfl rfl rfl rfl ?_
                refine LWo.pickFM (e_bool false) rfl h32 rfl (hn := ?_)
                refine LWo.assign (e_bool false) rfl (hn := ?_)
                refine LWo.nil (hN26 false _ ⟨rfl, trivial⟩ trivial h)
            · have h := bF h29 h
              refine LWo.guardNU (t := 37) rfl h29 rfl rfl rfl rfl rfl ?_
              refine LWo.guardNU (t := 37) rfl h29 rfl rfl rfl rfl rfl ?_
              refine LWo.guardNU (t := 37) rfl h29 rfl rfl rfl rfl rfl ?_
              refine LWo.guardNU (t := 37) rfl h29 rfl rfl rfl rfl rfl ?_
              refine LWo.pickFM (e_bool false) rfl h29 rfl (hn := ?_)
              refine LWo.move (e_bool false) rfl (hn := ?_)
              refine LWo.guardNU (t := 43) rfl rfl rfl rfl rfl rfl rfl ?_
              refine LWo.pickFM (e_bool false) rfl rfl rfl (hn := ?_)
              refine LWo.assign (e_bool false) rfl (hn := ?_)
              refine LWo.nil (hN26 false _ ⟨rfl, trivial⟩ trivial h)
      · intro N17 hN17
        refine LWP.region (l := [_,_,_,_,_,_,_,_,_,_]) ?_
        refine LWo.move (e_LLimpl_Value x7) rfl (hn := ?_)
        refine bk h fun x18 e18 h => ?_
        refine LWo.vcall rfl rfl (c_laws_allRows _ _ e18) (.same (.nil)) (hn := ?_)
        refine LWo.not rfl (hn := ?_)
        refine LWo.move (e_bool (!x18)) rfl (hn := ?_)
        refine LWo.byCases (t := 20) _ rfl (fun h19 => ?_) (fun h19 => ?_)
        · have h := bT h19 h
          refine LWo.guardNU (t := 20) rfl h19 rfl rfl rfl rfl rfl ?_
          refine LWo.guardNU (t := 20) rfl h19 rfl rfl rfl rfl rfl ?_
          refine LWo.guardNU (t := 20) rfl h19 rfl rfl rfl rfl rfl ?_
          refine LWo.guardNU (t := 20) rfl h19 rfl rfl rfl rfl rfl ?_
          refine LWo.guardNU (t := 20) rfl h19 rfl rfl rfl rfl rfl ?_
          refine LWo.pickTM (e_bool true) rfl h19 rfl (hn := ?_)
          refine LWo.nil (hN17 (x7, x9, true) _ ⟨rfl, rfl, rfl, trivial⟩ trivial h)
        · have h := bF h19 h
          refine LWo.guardY (t := 20) rfl h19 rfl rfl ?_
          refine LWo.move (e_LLimpl_Value x7) rfl (hn := ?_)
          refine bk h fun x20 e20 h => ?_
          refine LWo.guardY (t := 20) rfl h19 rfl rfl ?_
          refine LWo.vcall rfl rfl (c_impl_RowsSorted _ _ e20) (.same (.nil)) (hn := ?_)
          refine LWo.guardY (t := 20) rfl h19 rfl rfl ?_
          refine LWo.move (e_LLimpl_Value x7) rfl (hn := ?_)
          refine bk h fun x21 e21 h => ?_
          refine LWo.guardY (t := 20) rfl h19 rfl rfl ?_
          refine LWo.vcall rfl rfl (c_laws_sameRows _ _ _ e21) (.same (.same (.nil))) (hn := ?_)
          refine LWo.guardY (t := 20) rfl h19 rfl rfl ?_
          refine LWo.not rfl (hn := ?_)
          refine LWo.pickFM (e_bool (!x21)) rfl h19 rfl (hn := ?_)
          refine LWo.nil (hN17 (x7, x9, (!x21)) _ ⟨rfl, rfl, rfl, trivial⟩ trivial h)
end Go.Proofs.Ytemfdnnhknepbaa
