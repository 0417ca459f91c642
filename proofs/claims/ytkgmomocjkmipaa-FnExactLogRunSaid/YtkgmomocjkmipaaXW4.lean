/- Mirrors of functions, and that the functions return what the mirrors say. -/
import Derived.Test.YtkgmomocjkmipaaXW3
set_option linter.unusedVariables false
set_option linter.unusedSimpArgs false
set_option linter.unnecessarySimpa false
namespace Go.Proofs.Ytkgmomocjkmipaa
open Go.Proofs Go.Lift Go.RowKit
def m_slices_swapRangeCmpFunc_impl_Version_l1 (p4 : S_impl_Version → S_impl_Version → Option Int) : Nat → Int → Int → Int → Int → (List S_impl_Version) → Option (List S_impl_Version)
  | 0, _, _, _, _, _ => none
  | n1 + 1, t1, t2, t3, t10, o0 =>
    bif decide (t10 < t3) then ((ckI (t1 + t10)).bind fun x8 =>
    (ckI (t2 + t10)).bind fun x9 =>
    (ckI (t2 + t10)).bind fun x10 =>
    (at? o0 x10).bind fun x11 =>
    (at? o0 x10).bind fun x12 =>
    (ckI (t1 + t10)).bind fun x13 =>
    (at? o0 x13).bind fun x14 =>
    (at? o0 x13).bind fun x15 =>
    (at? o0 x8).bind fun x16 =>
    (at? o0 x8).bind fun x17 =>
    lt (x12) fun y18 =>
    (at? (o0.set (x8).toNat y18) x9).bind fun x19 =>
    (at? (o0.set (x8).toNat y18) x9).bind fun x20 =>
    lt (x15) fun y21 =>
    (ckI (t10 + (1 : Int))).bind fun x22 =>
    (m_slices_swapRangeCmpFunc_impl_Version_l1 p4 n1) t1 t2 t3 x22 ((o0.set (x8).toNat y18).set (x9).toNat y21))
    else (some o0)
def m_slices_swapRangeCmpFunc_impl_Version (o0 : (List S_impl_Version)) (a1 : Int) (a2 : Int) (a3 : Int) (p4 : S_impl_Version → S_impl_Version → Option Int) : Option (List S_impl_Version) :=
  m_slices_swapRangeCmpFunc_impl_Version_l1 p4 ((a3 - (0 : Int)).toNat + 1) a1 a2 a3 (0 : Int) o0
theorem c_slices_swapRangeCmpFunc_impl_Version (o0 : (List S_impl_Version)) (a1 : Int) (a2 : Int) (a3 : Int) (p4 : S_impl_Version → S_impl_Version → Option Int) (f4 : FuncId) (q4 : List LV) (hq4 : ∀ k, LV.at?.atL k q4 = false) (hf4 : ∀ a0 a1 v, p4 a0 a1 = some v → Ret Try.prog f4 (e_impl_Version a0 :: e_impl_Version a1 :: q4) (e_int v)) (r : (List S_impl_Version)) (h : m_slices_swapRangeCmpFunc_impl_Version o0 a1 a2 a3 p4 = some r) : Does Try.prog f_slices_swapRangeCmpFunc_impl_Version [.own 0 0 o0.length, e_int a1, e_int a2, e_int a3, .clo f4 q4] [(0, (lob 4 e_impl_Version o0))] (fun x hh => x = .tup [] ∧ hh = [(0, (lob 4 e_impl_Version r))]) := by
  refine Does.goG [0] F_slices_swapRangeCmpFunc_impl_Version rfl e_slices_swapRangeCmpFunc_impl_Version n_slices_swapRangeCmpFunc_impl_Version rfl (rvs := []) rfl rfl ?_
  intro w0 ok0 lent ρ0
  refine LWP.seq_k fun N1 hN1 => ?_
  refine LWP.region (l := [_]) ?_
  refine LWo.assign (e_int (0 : Int)) rfl (hn := ?_)
  refine LWo.nil (hN1 _ ?_)
  refine LWP.block ?_
  refine LWP.loopM (α := Int × Int × Int × Int × (List S_impl_Version)) (fun z : Int × Int × Int × Int × (List S_impl_Version) => [(0, (.own 0 0 (z.2.2.2.2).length)), (1, (e_int z.1)), (2, (e_int z.2.1)), (3, (e_int z.2.2.1)), (10, (e_int z.2.2.2.1))]) (fun z : Int × Int × Int × Int × (List S_impl_Version) => [(0, (lob 4 e_impl_Version z.2.2.2.2))]) (fun n1 (z : Int × Int × Int × Int × (List S_impl_Version)) => m_slices_swapRangeCmpFunc_impl_Version_l1 p4 n1 z.1 z.2.1 z.2.2.1 z.2.2.2.1 z.2.2.2.2) r _ (a1, a2, a3, (0 : Int), o0) h (fun _ => rfl) (fun _ => by simp [hkeys]) ⟨rfl, rfl, rfl, rfl, rfl, trivial⟩ ⟨rfl, trivial⟩ ?_
  rintro n1 ⟨t1, t2, t3, t10, o0⟩ h N2 hN2
  replace h : m_slices_swapRangeCmpFunc_impl_Version_l1 p4 (n1 + 1) t1 t2 t3 t10 o0 = some _ := h
  refine LWP.seq_k fun N4 hN4 => ?_
  refine LWP.seq_k fun N5 hN5 => ?_
  refine LWP.region (l := [_,_,_]) ?_
  refine LWo.move (e_int t10) rfl (hn := ?_)
  refine LWo.move (e_int t3) rfl (hn := ?_)
  refine LWo.int _ rfl rfl rfl (hn := ?_)
  refine LWo.nil (hN5 _ ?_)
  refine LWP.cond_split rfl (fun h6 => ?_) (fun h6 => ?_)
  ·have h := bT h6 h
   refine LWP.skip (hN4 _ ?_)
   refine LWP.seq_k fun N7 hN7 => ?_
   refine LWP.block ?_
   refine bk h fun x8 e8 h => ?_
   refine bk h fun x9 e9 h => ?_
   refine bk h fun x10 e10 h => ?_
   refine bk h fun x11 e11 h => ?_
   refine bk h fun x12 e12 h => ?_
   refine bk h fun x13 e13 h => ?_
   refine bk h fun x14 e14 h => ?_
   refine bk h fun x15 e15 h => ?_
   refine bk h fun x16 e16 h => ?_
   refine bk h fun x17 e17 h => ?_
   refine lk h fun y18 e18 h => ?_
   refine bk h fun x19 e19 h => ?_
   refine bk h fun x20 e20 h => ?_
   refine lk h fun y21 e21 h => ?_
   refine LWP.drawF (l := [_,_,_,_,_,_,_,_,_,_,_,_,_,_,_,_,_,_,_,_,_,_,_,_]) [] [0, 1, 2, 3, 10] [([0], []), ([1], []), ([10], []), ([17, 18], []), ([0], []), ([2], []), ([10], []), ([21, 22], []), ([0], []), ([2], []), ([10], []), ([25, 26], []), ([24, 27], [0]), ([28], [0]), ([0], []), ([1], []), ([10], []), ([31, 32], []), ([30, 33], [0]), ([34], [0]), ([16, 19], [0]), ([29, 36], [0]), ([20, 23], [0]), ([35, 37], [0])] [0, 1, 2, 3, 10] [0] mixed (by kernel_rfl) rfl (by decide) ?_
   refine dq 16 rfl (fun _ g u h => LWo.move (.own 0 0 (o0).length) u.1 (hn := .nil (zn g))) ?_
   refine dq 17 rfl (fun _ g u h => LWo.move (e_int t1) u.1 (hn := .nil (zn g))) ?_
   refine dq 18 rfl (fun _ g u h => LWo.move (e_int t10) u.1 (hn := .nil (zn g))) ?_
   refine dq 19 rfl (fun _ g u h => LWo.int _ u.1 u.2.1 (add_ck e8) (hn := .nil (zn g))) ?_
   refine dq 20 rfl (fun _ g u h => LWo.move (.own 0 0 (o0).length) u.1 (hn := .nil (zn g))) ?_
   refine dq 21 rfl (fun _ g u h => LWo.move (e_int t2) u.1 (hn := .nil (zn g))) ?_
   refine dq 22 rfl (fun _ g u h => LWo.move (e_int t10) u.1 (hn := .nil (zn g))) ?_
   refine dq 23 rfl (fun _ g u h => LWo.int _ u.1 u.2.1 (add_ck e9) (hn := .nil (zn g))) ?_
   refine dq 24 rfl (fun _ g u h => LWo.move (.own 0 0 (o0).length) u.1 (hn := .nil (zn g))) ?_
   refine dq 25 rfl (fun _ g u h => LWo.move (e_int t2) u.1 (hn := .nil (zn g))) ?_
   refine dq 26 rfl (fun _ g u h => LWo.move (e_int t10) u.1 (hn := .nil (zn g))) ?_
   refine dq 27 rfl (fun _ g u h => LWo.int _ u.1 u.2.1 (add_ck e10) (hn := .nil (zn g))) ?_
   refine dq 28 rfl (fun _ g u h => LWo.indexO e11 rfl u_Limpl_Version s_impl_Version u.1 u.2.1 h.1 (hn := .nil (zn g))) ?_
   refine dq 29 rfl (fun _ g u h => LWo.loadON ((e_impl_Version x12)).cells e12 g_impl_Version s_impl_Version u.1 h.1 rfl rfl (hn := .nil (zn g))) ?_
   refine dq 30 rfl (fun _ g u h => LWo.move (.own 0 0 (o0).length) u.1 (hn := .nil (zn g))) ?_
   refine dq 31 rfl (fun _ g u h => LWo.move (e_int t1) u.1 (hn := .nil (zn g))) ?_
   refine dq 32 rfl (fun _ g u h => LWo.move (e_int t10) u.1 (hn := .nil (zn g))) ?_
   refine dq 33 rfl (fun _ g u h => LWo.int _ u.1 u.2.1 (add_ck e13) (hn := .nil (zn g))) ?_
   refine dq 34 rfl (fun _ g u h => LWo.indexO e14 rfl u_Limpl_Version s_impl_Version u.1 u.2.1 h.1 (hn := .nil (zn g))) ?_
   refine dq 35 rfl (fun _ g u h => LWo.loadON ((e_impl_Version x15)).cells e15 g_impl_Version s_impl_Version u.1 h.1 rfl rfl (hn := .nil (zn g))) ?_
   refine dq 36 rfl (fun _ g u h => LWo.indexO e16 rfl u_Limpl_Version s_impl_Version u.1 u.2.1 h.1 (hn := .nil (zn g))) ?_
   refine ⟨rfl, .upd none .junk 0 _, (fun _ h => by cases h), fun _ g u h => LWo.storeO y18 e17 s_impl_Version u.2.1 u.1 rfl rfl rfl h.1 rfl (by rw [e18]; rfl) (hn := LWo.nil ⟨rfl, .inl rfl, Ef.good_ok (e := .upd none .junk 0 _) (fun _ h => by cases h) g⟩), ?_⟩
   refine dq 37 rfl (fun _ g u h => LWo.indexO e19 List.length_set.symm u_Limpl_Version s_impl_Version u.1 u.2.1 h.1 (hn := .nil (zn g))) ?_
   refine ⟨rfl, .upd none .junk 0 _, (fun _ h => by cases h), fun _ g u h => LWo.storeO y21 e20 s_impl_Version u.2.1 u.1 rfl rfl rfl h.1 rfl (by rw [e21]; rfl) (hn := LWo.nil ⟨rfl, .inl rfl, Ef.good_ok (e := .upd none .junk 0 _) (fun _ h => by cases h) g⟩), ?_⟩
   refine ⟨rfl, by kernel_rfl, hN7 _ ?_⟩
   refine LWP.region (l := [_,_,_]) ?_
   refine LWo.move (e_int t10) rfl (hn := ?_)
   refine bk h fun x22 e22 h => ?_
   refine LWo.int _ rfl rfl (add_ck e22) (hn := ?_)
   refine LWo.assign (e_int x22) rfl (hn := ?_)
   refine LWo.nil (hN2 (t1, t2, t3, x22, ((o0.set (x8).toNat y18).set (x9).toNat y21)) _ ⟨(congrArg (LV.own 0 0) (List.length_set.symm.trans List.length_set.symm)), rfl, rfl, rfl, rfl, trivial⟩ ⟨rfl, trivial⟩ h)
  ·have h := bF h6 h
   obtain rfl := Option.some.inj h
   refine LWP.exit (QG.mk (.inl rfl) (.nil) (RetOK.many1 (.nil) (by simp) (by decide) rfl rfl rfl rfl rfl) rfl rfl)
theorem k_slices_swapRangeCmpFunc_impl_Version (o0 : (List S_impl_Version)) (a1 : Int) (a2 : Int) (a3 : Int) (p4 : S_impl_Version → S_impl_Version → Option Int) (f4 : FuncId) (q4 : List LV) (hq4 : ∀ k, LV.at?.atL k q4 = false) (hf4 : ∀ a0 a1 v, p4 a0 a1 = some v → Ret Try.prog f4 (e_impl_Version a0 :: e_impl_Version a1 :: q4) (e_int v)) (r : (List S_impl_Version)) (h : m_slices_swapRangeCmpFunc_impl_Version o0 a1 a2 a3 p4 = some r) (k : Nat) : Does Try.prog f_slices_swapRangeCmpFunc_impl_Version [.own k 0 o0.length, e_int a1, e_int a2, e_int a3, .clo f4 q4] [(k, (lob 4 e_impl_Version o0))] (fun x hh => x = .tup [] ∧ hh = [(k, (lob 4 e_impl_Version r))]) :=
  Does.nameO (c_slices_swapRangeCmpFunc_impl_Version o0 a1 a2 a3 p4 f4 q4 hq4 hf4 r h) (fun k => (atC rfl (atC rfl (atC rfl (atC (hq4 k) (atN _)))))) k

def m_slices_rotateCmpFunc_impl_Version_j1 (p4 : S_impl_Version → S_impl_Version → Option Int) (t2 : Int) (t10 : Int) (o0 : (List S_impl_Version)) : Option (List S_impl_Version) :=
  (ckI (t2 - t10)).bind fun x25 =>
  (m_slices_swapRangeCmpFunc_impl_Version o0 x25 t2 t10 p4).bind fun x26 =>
  (lenQ x26.length o0.length ()).bind fun u27 =>
  some x26
def m_slices_rotateCmpFunc_impl_Version_l1 (p4 : S_impl_Version → S_impl_Version → Option Int) : Nat → Int → Int → Int → (List S_impl_Version) → Option (List S_impl_Version)
  | 0, _, _, _, _ => none
  | n1 + 1, t2, t10, t11, o0 =>
    bif (t10 != t11) then (bif decide (t10 > t11) then ((ckI (t2 - t10)).bind fun x14 =>
      (m_slices_swapRangeCmpFunc_impl_Version o0 x14 t2 t11 p4).bind fun x15 =>
      (lenQ x15.length o0.length ()).bind fun u16 =>
      (ckI (t10 - t11)).bind fun x17 =>
      (m_slices_rotateCmpFunc_impl_Version_l1 p4 n1) t2 x17 t11 x15)
    else ((ckI (t2 - t10)).bind fun x19 =>
      (ckI (t2 + t11)).bind fun x20 =>
      (ckI (x20 - t10)).bind fun x21 =>
      (m_slices_swapRangeCmpFunc_impl_Version o0 x19 x21 t10 p4).bind fun x22 =>
      (lenQ x22.length o0.length ()).bind fun u23 =>
      (ckI (t11 - t10)).bind fun x24 =>
      (m_slices_rotateCmpFunc_impl_Version_l1 p4 n1) t2 t10 x24 x22))
    else (m_slices_rotateCmpFunc_impl_Version_j1 p4 t2 t10 o0)
def m_slices_rotateCmpFunc_impl_Version (o0 : (List S_impl_Version)) (a1 : Int) (a2 : Int) (a3 : Int) (p4 : S_impl_Version → S_impl_Version → Option Int) : Option (List S_impl_Version) :=
  (ckI (a2 - a1)).bind fun x2 =>
  (ckI (a3 - a2)).bind fun x4 =>
  m_slices_rotateCmpFunc_impl_Version_l1 p4 (1000000000) a2 x2 x4 o0
theorem c_slices_rotateCmpFunc_impl_Version (o0 : (List S_impl_Version)) (a1 : Int) (a2 : Int) (a3 : Int) (p4 : S_impl_Version → S_impl_Version → Option Int) (f4 : FuncId) (q4 : List LV) (hq4 : ∀ k, LV.at?.atL k q4 = false) (hf4 : ∀ a0 a1 v, p4 a0 a1 = some v → Ret Try.prog f4 (e_impl_Version a0 :: e_impl_Version a1 :: q4) (e_int v)) (r : (List S_impl_Version)) (h : m_slices_rotateCmpFunc_impl_Version o0 a1 a2 a3 p4 = some r) : Does Try.prog f_slices_rotateCmpFunc_impl_Version [.own 0 0 o0.length, e_int a1, e_int a2, e_int a3, .clo f4 q4] [(0, (lob 4 e_impl_Version o0))] (fun x hh => x = .tup [] ∧ hh = [(0, (lob 4 e_impl_Version r))]) := by
  refine Does.goG [0] F_slices_rotateCmpFunc_impl_Version rfl e_slices_rotateCmpFunc_impl_Version n_slices_rotateCmpFunc_impl_Version rfl (rvs := []) rfl rfl ?_
  intro w0 ok0 lent ρ0
  refine LWP.seq_k fun N1 hN1 => ?_
  refine LWP.region (l := [_,_,_,_]) ?_
  refine LWo.move (e_int a2) rfl (hn := ?_)
  refine LWo.move (e_int a1) rfl (hn := ?_)
  refine bk h fun x2 e2 h => ?_
  refine LWo.int _ rfl rfl (sub_ck e2) (hn := ?_)
  refine LWo.assign (e_int x2) rfl (hn := ?_)
  refine LWo.nil (hN1 _ ?_)
  refine LWP.seq_k fun N3 hN3 => ?_
  refine LWP.region (l := [_,_,_,_]) ?_
  refine LWo.move (e_int a3) rfl (hn := ?_)
  refine LWo.move (e_int a2) rfl (hn := ?_)
  refine bk h fun x4 e4 h => ?_
  refine LWo.int _ rfl rfl (sub_ck e4) (hn := ?_)
  refine LWo.assign (e_int x4) rfl (hn := ?_)
  refine LWo.nil (hN3 _ ?_)
  refine LWP.join (α := Int × Int × (List S_impl_Version)) (fun z : Int × Int × (List S_impl_Version) => [(0, (.own 0 0 (z.2.2).length)), (2, (e_int z.1)), (4, (.clo f4 q4)), (10, (e_int z.2.1))]) (fun z : Int × Int × (List S_impl_Version) => [(0, (lob 4 e_impl_Version z.2.2))]) (fun z : Int × Int × (List S_impl_Version) => m_slices_rotateCmpFunc_impl_Version_j1 p4 z.1 z.2.1 z.2.2) r (fun _ => by simp [hkeys]) ?_ ?_
  ·rintro ⟨t2, t10, o0⟩ h
   replace h : m_slices_rotateCmpFunc_impl_Version_j1 p4 t2 t10 o0 = some _ := h
   refine LWP.region (l := [_,_,_,_,_,_,_,_]) ?_
   refine LWo.move (.own 0 0 (o0).length) rfl (hn := ?_)
   refine LWo.move (e_int t2) rfl (hn := ?_)
   refine LWo.move (e_int t10) rfl (hn := ?_)
   refine bk h fun x25 e25 h => ?_
   refine LWo.int _ rfl rfl (sub_ck e25) (hn := ?_)
   refine LWo.move (e_int t2) rfl (hn := ?_)
   refine LWo.move (e_int t10) rfl (hn := ?_)
   refine LWo.move (.clo f4 q4) rfl (hn := ?_)
   refine bk h fun x26 e26 h => ?_
   refine bk h fun u27 e27 h => ?_
   refine LWo.ucallM (e := e_impl_Version) rfl rfl (k_slices_swapRangeCmpFunc_impl_Version _ _ _ _ _ f4 q4 hq4 hf4 _ e26 0) rfl rfl (some 57) rfl (hn := ?_)
   obtain rfl := Option.some.inj h
   refine LWo.nil (QG.mk (.inl rfl) (.nil) (RetOK.many1 (.nil) (by simp) (by decide) rfl rfl rfl rfl rfl) rfl rfl)
  ·intro N5 hN5
   refine LWP.block ?_
   refine LWP.loopM (α := Int × Int × Int × (List S_impl_Version)) (fun z : Int × Int × Int × (List S_impl_Version) => [(0, (.own 0 0 (z.2.2.2).length)), (2, (e_int z.1)), (4, (.clo f4 q4)), (10, (e_int z.2.1)), (11, (e_int z.2.2.1))]) (fun z : Int × Int × Int × (List S_impl_Version) => [(0, (lob 4 e_impl_Version z.2.2.2))]) (fun n1 (z : Int × Int × Int × (List S_impl_Version)) => m_slices_rotateCmpFunc_impl_Version_l1 p4 n1 z.1 z.2.1 z.2.2.1 z.2.2.2) r _ (a2, x2, x4, o0) h (fun _ => rfl) (fun _ => by simp [hkeys]) ⟨rfl, rfl, rfl, rfl, rfl, trivial⟩ ⟨rfl, trivial⟩ ?_
   rintro n1 ⟨t2, t10, t11, o0⟩ h N6 hN6
   replace h : m_slices_rotateCmpFunc_impl_Version_l1 p4 (n1 + 1) t2 t10 t11 o0 = some _ := h
   refine LWP.seq_k fun N8 hN8 => ?_
   refine LWP.seq_k fun N9 hN9 => ?_
   refine LWP.region (l := [_,_,_]) ?_
   refine LWo.move (e_int t10) rfl (hn := ?_)
   refine LWo.move (e_int t11) rfl (hn := ?_)
   refine LWo.int _ rfl rfl rfl (hn := ?_)
   refine LWo.nil (hN9 _ ?_)
   refine LWP.cond_split rfl (fun h10 => ?_) (fun h10 => ?_)
   ·have h := bT h10 h
    refine LWP.skip (hN8 _ ?_)
    refine LWP.block ?_
    refine LWP.seq_k fun N11 hN11 => ?_
    refine LWP.region (l := [_,_,_]) ?_
    refine LWo.move (e_int t10) rfl (hn := ?_)
    refine LWo.move (e_int t11) rfl (hn := ?_)
    refine LWo.int _ rfl rfl rfl (hn := ?_)
    refine LWo.nil (hN11 _ ?_)
    refine LWP.cond_split rfl (fun h12 => ?_) (fun h12 => ?_)
    ·have h := bT h12 h
     refine LWP.seq_k fun N13 hN13 => ?_
     refine LWP.region (l := [_,_,_,_,_,_,_,_]) ?_
     refine LWo.move (.own 0 0 (o0).length) rfl (hn := ?_)
     refine LWo.move (e_int t2) rfl (hn := ?_)
     refine LWo.move (e_int t10) rfl (hn := ?_)
     refine bk h fun x14 e14 h => ?_
     refine LWo.int _ rfl rfl (sub_ck e14) (hn := ?_)
     refine LWo.move (e_int t2) rfl (hn := ?_)
     refine LWo.move (e_int t11) rfl (hn := ?_)
     refine LWo.move (.clo f4 q4) rfl (hn := ?_)
     refine bk h fun x15 e15 h => ?_
     refine bk h fun u16 e16 h => ?_
     refine LWo.ucallM (e := e_impl_Version) rfl rfl (k_slices_swapRangeCmpFunc_impl_Version _ _ _ _ _ f4 q4 hq4 hf4 _ e15 0) rfl rfl (some 31) rfl (hn := ?_)
     refine LWo.nil (hN13 _ ?_)
     refine LWP.region (l := [_,_,_,_]) ?_
     refine LWo.move (e_int t10) rfl (hn := ?_)
     refine LWo.move (e_int t11) rfl (hn := ?_)
     refine bk h fun x17 e17 h => ?_
     refine LWo.int _ rfl rfl (sub_ck e17) (hn := ?_)
     refine LWo.assign (e_int x17) rfl (hn := ?_)
     refine LWo.nil (hN6 (t2, x17, t11, x15) _ ⟨(congrArg (LV.own 0 0) ((lenQ_some e16).1.symm)), rfl, rfl, rfl, rfl, trivial⟩ ⟨rfl, trivial⟩ h)
    ·have h := bF h12 h
     refine LWP.seq_k fun N18 hN18 => ?_
     refine LWP.region (l := [_,_,_,_,_,_,_,_,_,_,_,_]) ?_
     refine LWo.move (.own 0 0 (o0).length) rfl (hn := ?_)
     refine LWo.move (e_int t2) rfl (hn := ?_)
     refine LWo.move (e_int t10) rfl (hn := ?_)
     refine bk h fun x19 e19 h => ?_
     refine LWo.int _ rfl rfl (sub_ck e19) (hn := ?_)
     refine LWo.move (e_int t2) rfl (hn := ?_)
     refine LWo.move (e_int t11) rfl (hn := ?_)
     refine bk h fun x20 e20 h => ?_
     refine LWo.int _ rfl rfl (add_ck e20) (hn := ?_)
     refine LWo.move (e_int t10) rfl (hn := ?_)
     refine bk h fun x21 e21 h => ?_
     refine LWo.int _ rfl rfl (sub_ck e21) (hn := ?_)
     refine LWo.move (e_int t10) rfl (hn := ?_)
     refine LWo.move (.clo f4 q4) rfl (hn := ?_)
     refine bk h fun x22 e22 h => ?_
     refine bk h fun u23 e23 h => ?_
     refine LWo.ucallM (e := e_impl_Version) rfl rfl (k_slices_swapRangeCmpFunc_impl_Version _ _ _ _ _ f4 q4 hq4 hf4 _ e22 0) rfl rfl (some 46) rfl (hn := ?_)
     refine LWo.nil (hN18 _ ?_)
     refine LWP.region (l := [_,_,_,_]) ?_
     refine LWo.move (e_int t11) rfl (hn := ?_)
     refine LWo.move (e_int t10) rfl (hn := ?_)
     refine bk h fun x24 e24 h => ?_
     refine LWo.int _ rfl rfl (sub_ck e24) (hn := ?_)
     refine LWo.assign (e_int x24) rfl (hn := ?_)
     refine LWo.nil (hN6 (t2, t10, x24, x22) _ ⟨(congrArg (LV.own 0 0) ((lenQ_some e23).1.symm)), rfl, rfl, rfl, rfl, trivial⟩ ⟨rfl, trivial⟩ h)
   ·have h := bF h10 h
    refine LWP.exit (hN5 (t2, t10, o0) _ ⟨rfl, rfl, rfl, rfl, trivial⟩ ⟨rfl, trivial⟩ h)
theorem k_slices_rotateCmpFunc_impl_Version (o0 : (List S_impl_Version)) (a1 : Int) (a2 : Int) (a3 : Int) (p4 : S_impl_Version → S_impl_Version → Option Int) (f4 : FuncId) (q4 : List LV) (hq4 : ∀ k, LV.at?.atL k q4 = false) (hf4 : ∀ a0 a1 v, p4 a0 a1 = some v → Ret Try.prog f4 (e_impl_Version a0 :: e_impl_Version a1 :: q4) (e_int v)) (r : (List S_impl_Version)) (h : m_slices_rotateCmpFunc_impl_Version o0 a1 a2 a3 p4 = some r) (k : Nat) : Does Try.prog f_slices_rotateCmpFunc_impl_Version [.own k 0 o0.length, e_int a1, e_int a2, e_int a3, .clo f4 q4] [(k, (lob 4 e_impl_Version o0))] (fun x hh => x = .tup [] ∧ hh = [(k, (lob 4 e_impl_Version r))]) :=
  Does.nameO (c_slices_rotateCmpFunc_impl_Version o0 a1 a2 a3 p4 f4 q4 hq4 hf4 r h) (fun k => (atC rfl (atC rfl (atC rfl (atC (hq4 k) (atN _)))))) k

def m_slices_symMergeCmpFunc_impl_Version_j13 (rc : ((List S_impl_Version)) → (Int) → (Int) → (Int) → (S_impl_Version → S_impl_Version → Option Int) → Option (List S_impl_Version)) (p4 : S_impl_Version → S_impl_Version → Option Int) (t3 : Int) (t18 : Int) (t24 : Int) (t213 : Bool) (o0 : (List S_impl_Version)) : Option (List S_impl_Version) :=
  bif t213 then ((rc o0 t18 t24 t3 p4).bind fun x147 =>
    (lenQ x147.length o0.length ()).bind fun u148 =>
    some x147)
  else (some o0)
def m_slices_symMergeCmpFunc_impl_Version_j12 (rc : ((List S_impl_Version)) → (Int) → (Int) → (Int) → (S_impl_Version → S_impl_Version → Option Int) → Option (List S_impl_Version)) (p4 : S_impl_Version → S_impl_Version → Option Int) (t3 : Int) (t18 : Int) (t24 : Int) (o0 : (List S_impl_Version)) : Option (List S_impl_Version) :=
  bif decide (t18 < t24) then (m_slices_symMergeCmpFunc_impl_Version_j13 rc p4 t3 t18 t24 (decide (t24 < t3)) o0)
  else (m_slices_symMergeCmpFunc_impl_Version_j13 rc p4 t3 t18 t24 false o0)
def m_slices_symMergeCmpFunc_impl_Version_j11 (rc : ((List S_impl_Version)) → (Int) → (Int) → (Int) → (S_impl_Version → S_impl_Version → Option Int) → Option (List S_impl_Version)) (p4 : S_impl_Version → S_impl_Version → Option Int) (t1 : Int) (t3 : Int) (t18 : Int) (t20 : Int) (t24 : Int) (t199 : Bool) (o0 : (List S_impl_Version)) : Option (List S_impl_Version) :=
  bif t199 then ((rc o0 t1 t20 t18 p4).bind fun x142 =>
    (lenQ x142.length o0.length ()).bind fun u143 =>
    m_slices_symMergeCmpFunc_impl_Version_j12 rc p4 t3 t18 t24 x142)
  else (m_slices_symMergeCmpFunc_impl_Version_j12 rc p4 t3 t18 t24 o0)
def m_slices_symMergeCmpFunc_impl_Version_j10 (rc : ((List S_impl_Version)) → (Int) → (Int) → (Int) → (S_impl_Version → S_impl_Version → Option Int) → Option (List S_impl_Version)) (p4 : S_impl_Version → S_impl_Version → Option Int) (t1 : Int) (t3 : Int) (t18 : Int) (t20 : Int) (t24 : Int) (o0 : (List S_impl_Version)) : Option (List S_impl_Version) :=
  bif decide (t1 < t20) then (m_slices_symMergeCmpFunc_impl_Version_j11 rc p4 t1 t3 t18 t20 t24 (decide (t20 < t18)) o0)
  else (m_slices_symMergeCmpFunc_impl_Version_j11 rc p4 t1 t3 t18 t20 t24 false o0)
def m_slices_symMergeCmpFunc_impl_Version_j9 (rc : ((List S_impl_Version)) → (Int) → (Int) → (Int) → (S_impl_Version → S_impl_Version → Option Int) → Option (List S_impl_Version)) (p4 : S_impl_Version → S_impl_Version → Option Int) (t1 : Int) (t2 : Int) (t3 : Int) (t18 : Int) (t20 : Int) (t24 : Int) (t185 : Bool) (o0 : (List S_impl_Version)) : Option (List S_impl_Version) :=
  bif t185 then ((m_slices_rotateCmpFunc_impl_Version o0 t20 t2 t24 p4).bind fun x136 =>
    (lenQ x136.length o0.length ()).bind fun u137 =>
    m_slices_symMergeCmpFunc_impl_Version_j10 rc p4 t1 t3 t18 t20 t24 x136)
  else (m_slices_symMergeCmpFunc_impl_Version_j10 rc p4 t1 t3 t18 t20 t24 o0)
def m_slices_symMergeCmpFunc_impl_Version_j8 (rc : ((List S_impl_Version)) → (Int) → (Int) → (Int) → (S_impl_Version → S_impl_Version → Option Int) → Option (List S_impl_Version)) (p4 : S_impl_Version → S_impl_Version → Option Int) (t1 : Int) (t2 : Int) (t3 : Int) (t18 : Int) (t19 : Int) (t20 : Int) (o0 : (List S_impl_Version)) : Option (List S_impl_Version) :=
  (ckI (t19 - t20)).bind fun x131 =>
  bif decide (t20 < t2) then (m_slices_symMergeCmpFunc_impl_Version_j9 rc p4 t1 t2 t3 t18 t20 x131 (decide (t2 < x131)) o0)
  else (m_slices_symMergeCmpFunc_impl_Version_j9 rc p4 t1 t2 t3 t18 t20 x131 false o0)
def m_slices_symMergeCmpFunc_impl_Version_l5 (rc : ((List S_impl_Version)) → (Int) → (Int) → (Int) → (S_impl_Version → S_impl_Version → Option Int) → Option (List S_impl_Version)) (p4 : S_impl_Version → S_impl_Version → Option Int) : Nat → Int → Int → Int → Int → Int → Int → Int → Int → (List S_impl_Version) → Option (List S_impl_Version)
  | 0, _, _, _, _, _, _, _, _, _ => none
  | n5 + 1, t1, t2, t3, t18, t19, t20, t21, t22, o0 =>
    bif decide (t20 < t21) then ((ckI (t20 + t21)).bind fun x117 =>
    (uI x117).bind fun x118 =>
    (shrI x118 (1 : Int)).bind fun x119 =>
    (uI x119).bind fun x120 =>
    (ckI (t22 - x120)).bind fun x122 =>
    (at? o0 x122).bind fun x123 =>
    (at? o0 x122).bind fun x124 =>
    (at? o0 x120).bind fun x125 =>
    (at? o0 x120).bind fun x126 =>
    (p4 x124 x126).bind fun x127 =>
    bif (!(decide (x127 < (0 : Int)))) then ((ckI (x120 + (1 : Int))).bind fun x129 =>
      (m_slices_symMergeCmpFunc_impl_Version_l5 rc p4 n5) t1 t2 t3 t18 t19 x129 t21 t22 o0)
    else ((m_slices_symMergeCmpFunc_impl_Version_l5 rc p4 n5) t1 t2 t3 t18 t19 t20 x120 t22 o0))
    else (m_slices_symMergeCmpFunc_impl_Version_j8 rc p4 t1 t2 t3 t18 t19 t20 o0)
def m_slices_symMergeCmpFunc_impl_Version_j7 (rc : ((List S_impl_Version)) → (Int) → (Int) → (Int) → (S_impl_Version → S_impl_Version → Option Int) → Option (List S_impl_Version)) (p4 : S_impl_Version → S_impl_Version → Option Int) (t1 : Int) (t2 : Int) (t3 : Int) (t18 : Int) (t19 : Int) (t20 : Int) (t21 : Int) (o0 : (List S_impl_Version)) : Option (List S_impl_Version) :=
  (ckI (t19 - (1 : Int))).bind fun x109 =>
  m_slices_symMergeCmpFunc_impl_Version_l5 rc p4 ((t21 - t20).toNat + 1) t1 t2 t3 t18 t19 t20 t21 x109 o0
def m_slices_symMergeCmpFunc_impl_Version_j6 (rc : ((List S_impl_Version)) → (Int) → (Int) → (Int) → (S_impl_Version → S_impl_Version → Option Int) → Option (List S_impl_Version)) (p4 : S_impl_Version → S_impl_Version → Option Int) (t1 : Int) (t2 : Int) (t3 : Int) (o0 : (List S_impl_Version)) : Option (List S_impl_Version) :=
  (ckI (t1 + t3)).bind fun x95 =>
  (uI x95).bind fun x96 =>
  (shrI x96 (1 : Int)).bind fun x97 =>
  (uI x97).bind fun x98 =>
  (ckI (x98 + t2)).bind fun x100 =>
  bif decide (t2 > x98) then ((ckI (x100 - t3)).bind fun x106 =>
    m_slices_symMergeCmpFunc_impl_Version_j7 rc p4 t1 t2 t3 x98 x100 x106 x98 o0)
  else (m_slices_symMergeCmpFunc_impl_Version_j7 rc p4 t1 t2 t3 x98 x100 t1 t2 o0)
def m_slices_symMergeCmpFunc_impl_Version_j5 (rc : ((List S_impl_Version)) → (Int) → (Int) → (Int) → (S_impl_Version → S_impl_Version → Option Int) → Option (List S_impl_Version)) (p4 : S_impl_Version → S_impl_Version → Option Int) (o0 : (List S_impl_Version)) : Option (List S_impl_Version) :=
  some o0
def m_slices_symMergeCmpFunc_impl_Version_l4 (rc : ((List S_impl_Version)) → (Int) → (Int) → (Int) → (S_impl_Version → S_impl_Version → Option Int) → Option (List S_impl_Version)) (p4 : S_impl_Version → S_impl_Version → Option Int) : Nat → Int → Int → (List S_impl_Version) → Option (List S_impl_Version)
  | 0, _, _, _ => none
  | n4 + 1, t14, t17, o0 =>
    bif decide (t17 > t14) then ((ckI (t17 - (1 : Int))).bind fun x81 =>
    (ckI (t17 - (1 : Int))).bind fun x82 =>
    (at? o0 x82).bind fun x83 =>
    (at? o0 x82).bind fun x84 =>
    (at? o0 t17).bind fun x85 =>
    (at? o0 t17).bind fun x86 =>
    (at? o0 t17).bind fun x87 =>
    (at? o0 t17).bind fun x88 =>
    lt (x84) fun y89 =>
    (at? (o0.set (t17).toNat y89) x81).bind fun x90 =>
    (at? (o0.set (t17).toNat y89) x81).bind fun x91 =>
    lt (x86) fun y92 =>
    (ckI (t17 - (1 : Int))).bind fun x93 =>
    (m_slices_symMergeCmpFunc_impl_Version_l4 rc p4 n4) t14 x93 ((o0.set (t17).toNat y89).set (x81).toNat y92))
    else (m_slices_symMergeCmpFunc_impl_Version_j5 rc p4 o0)
def m_slices_symMergeCmpFunc_impl_Version_j4 (rc : ((List S_impl_Version)) → (Int) → (Int) → (Int) → (S_impl_Version → S_impl_Version → Option Int) → Option (List S_impl_Version)) (p4 : S_impl_Version → S_impl_Version → Option Int) (t2 : Int) (t14 : Int) (o0 : (List S_impl_Version)) : Option (List S_impl_Version) :=
  m_slices_symMergeCmpFunc_impl_Version_l4 rc p4 ((t2 - t14).toNat + 1) t14 t2 o0
def m_slices_symMergeCmpFunc_impl_Version_l3 (rc : ((List S_impl_Version)) → (Int) → (Int) → (Int) → (S_impl_Version → S_impl_Version → Option Int) → Option (List S_impl_Version)) (p4 : S_impl_Version → S_impl_Version → Option Int) : Nat → Int → Int → Int → (List S_impl_Version) → Option (List S_impl_Version)
  | 0, _, _, _, _ => none
  | n3 + 1, t2, t14, t15, o0 =>
    bif decide (t14 < t15) then ((ckI (t14 + t15)).bind fun x61 =>
    (uI x61).bind fun x62 =>
    (shrI x62 (1 : Int)).bind fun x63 =>
    (uI x63).bind fun x64 =>
    (at? o0 t2).bind fun x66 =>
    (at? o0 t2).bind fun x67 =>
    (at? o0 x64).bind fun x68 =>
    (at? o0 x64).bind fun x69 =>
    (p4 x67 x69).bind fun x70 =>
    bif (!(decide (x70 < (0 : Int)))) then ((ckI (x64 + (1 : Int))).bind fun x72 =>
      (m_slices_symMergeCmpFunc_impl_Version_l3 rc p4 n3) t2 x72 t15 o0)
    else ((m_slices_symMergeCmpFunc_impl_Version_l3 rc p4 n3) t2 t14 x64 o0))
    else (m_slices_symMergeCmpFunc_impl_Version_j4 rc p4 t2 t14 o0)
def m_slices_symMergeCmpFunc_impl_Version_j3 (rc : ((List S_impl_Version)) → (Int) → (Int) → (Int) → (S_impl_Version → S_impl_Version → Option Int) → Option (List S_impl_Version)) (p4 : S_impl_Version → S_impl_Version → Option Int) (t1 : Int) (t2 : Int) (t3 : Int) (o0 : (List S_impl_Version)) : Option (List S_impl_Version) :=
  (ckI (t3 - t2)).bind fun x50 =>
  bif (x50 == (1 : Int)) then (m_slices_symMergeCmpFunc_impl_Version_l3 rc p4 ((t2 - t1).toNat + 1) t2 t1 t2 o0)
  else (m_slices_symMergeCmpFunc_impl_Version_j6 rc p4 t1 t2 t3 o0)
def m_slices_symMergeCmpFunc_impl_Version_j2 (rc : ((List S_impl_Version)) → (Int) → (Int) → (Int) → (S_impl_Version → S_impl_Version → Option Int) → Option (List S_impl_Version)) (p4 : S_impl_Version → S_impl_Version → Option Int) (o0 : (List S_impl_Version)) : Option (List S_impl_Version) :=
  some o0
def m_slices_symMergeCmpFunc_impl_Version_l2 (rc : ((List S_impl_Version)) → (Int) → (Int) → (Int) → (S_impl_Version → S_impl_Version → Option Int) → Option (List S_impl_Version)) (p4 : S_impl_Version → S_impl_Version → Option Int) : Nat → Int → Int → (List S_impl_Version) → Option (List S_impl_Version)
  | 0, _, _, _ => none
  | n2 + 1, t10, t13, o0 =>
    (ckI (t10 - (1 : Int))).bind fun x32 =>
    bif decide (t13 < x32) then ((ckI (t13 + (1 : Int))).bind fun x35 =>
    (ckI (t13 + (1 : Int))).bind fun x36 =>
    (at? o0 x36).bind fun x37 =>
    (at? o0 x36).bind fun x38 =>
    (at? o0 t13).bind fun x39 =>
    (at? o0 t13).bind fun x40 =>
    (at? o0 t13).bind fun x41 =>
    (at? o0 t13).bind fun x42 =>
    lt (x38) fun y43 =>
    (at? (o0.set (t13).toNat y43) x35).bind fun x44 =>
    (at? (o0.set (t13).toNat y43) x35).bind fun x45 =>
    lt (x40) fun y46 =>
    (ckI (t13 + (1 : Int))).bind fun x47 =>
    (m_slices_symMergeCmpFunc_impl_Version_l2 rc p4 n2) t10 x47 ((o0.set (t13).toNat y43).set (x35).toNat y46))
    else (m_slices_symMergeCmpFunc_impl_Version_j2 rc p4 o0)
def m_slices_symMergeCmpFunc_impl_Version_j1 (rc : ((List S_impl_Version)) → (Int) → (Int) → (Int) → (S_impl_Version → S_impl_Version → Option Int) → Option (List S_impl_Version)) (p4 : S_impl_Version → S_impl_Version → Option Int) (t1 : Int) (t10 : Int) (o0 : (List S_impl_Version)) : Option (List S_impl_Version) :=
  m_slices_symMergeCmpFunc_impl_Version_l2 rc p4 (1000000000) t10 t1 o0
def m_slices_symMergeCmpFunc_impl_Version_l1 (rc : ((List S_impl_Version)) → (Int) → (Int) → (Int) → (S_impl_Version → S_impl_Version → Option Int) → Option (List S_impl_Version)) (p4 : S_impl_Version → S_impl_Version → Option Int) : Nat → Int → Int → Int → (List S_impl_Version) → Option (List S_impl_Version)
  | 0, _, _, _, _ => none
  | n1 + 1, t1, t10, t11, o0 =>
    bif decide (t10 < t11) then ((ckI (t10 + t11)).bind fun x14 =>
    (uI x14).bind fun x15 =>
    (shrI x15 (1 : Int)).bind fun x16 =>
    (uI x16).bind fun x17 =>
    (at? o0 x17).bind fun x19 =>
    (at? o0 x17).bind fun x20 =>
    (at? o0 t1).bind fun x21 =>
    (at? o0 t1).bind fun x22 =>
    (p4 x20 x22).bind fun x23 =>
    bif decide (x23 < (0 : Int)) then ((ckI (x17 + (1 : Int))).bind fun x25 =>
      (m_slices_symMergeCmpFunc_impl_Version_l1 rc p4 n1) t1 x25 t11 o0)
    else ((m_slices_symMergeCmpFunc_impl_Version_l1 rc p4 n1) t1 t10 x17 o0))
    else (m_slices_symMergeCmpFunc_impl_Version_j1 rc p4 t1 t10 o0)
def m_slices_symMergeCmpFunc_impl_Version_b (rc : ((List S_impl_Version)) → (Int) → (Int) → (Int) → (S_impl_Version → S_impl_Version → Option Int) → Option (List S_impl_Version)) (o0 : (List S_impl_Version)) (a1 : Int) (a2 : Int) (a3 : Int) (p4 : S_impl_Version → S_impl_Version → Option Int) : Option (List S_impl_Version) :=
  (ckI (a2 - a1)).bind fun x3 =>
  bif (x3 == (1 : Int)) then (m_slices_symMergeCmpFunc_impl_Version_l1 rc p4 ((a3 - a2).toNat + 1) a1 a2 a3 o0)
  else (m_slices_symMergeCmpFunc_impl_Version_j3 rc p4 a1 a2 a3 o0)
def m_slices_symMergeCmpFunc_impl_Version : Nat → ((List S_impl_Version)) → (Int) → (Int) → (Int) → (S_impl_Version → S_impl_Version → Option Int) → Option (List S_impl_Version)
  | 0, _, _, _, _, _ => none
  | fu + 1, o0, a1, a2, a3, p4 => m_slices_symMergeCmpFunc_impl_Version_b (m_slices_symMergeCmpFunc_impl_Version fu) o0 a1 a2 a3 p4
theorem cb_slices_symMergeCmpFunc_impl_Version (rc : ((List S_impl_Version)) → (Int) → (Int) → (Int) → (S_impl_Version → S_impl_Version → Option Int) → Option (List S_impl_Version)) (hrc : ∀ (o0 : (List S_impl_Version)) (a1 : Int) (a2 : Int) (a3 : Int) (p4 : S_impl_Version → S_impl_Version → Option Int) (f4 : FuncId) (q4 : List LV) (hq4 : ∀ k, LV.at?.atL k q4 = false) (hf4 : ∀ a0 a1 v, p4 a0 a1 = some v → Ret Try.prog f4 (e_impl_Version a0 :: e_impl_Version a1 :: q4) (e_int v)) (r : (List S_impl_Version)), rc o0 a1 a2 a3 p4 = some r → Does Try.prog f_slices_symMergeCmpFunc_impl_Version [.own 0 0 o0.length, e_int a1, e_int a2, e_int a3, .clo f4 q4] [(0, (lob 4 e_impl_Version o0))] (fun x hh => x = .tup [] ∧ hh = [(0, (lob 4 e_impl_Version r))])) (o0 : (List S_impl_Version)) (a1 : Int) (a2 : Int) (a3 : Int) (p4 : S_impl_Version → S_impl_Version → Option Int) (f4 : FuncId) (q4 : List LV) (hq4 : ∀ k, LV.at?.atL k q4 = false) (hf4 : ∀ a0 a1 v, p4 a0 a1 = some v → Ret Try.prog f4 (e_impl_Version a0 :: e_impl_Version a1 :: q4) (e_int v)) (r : (List S_impl_Version)) (h : m_slices_symMergeCmpFunc_impl_Version_b rc o0 a1 a2 a3 p4 = some r) : Does Try.prog f_slices_symMergeCmpFunc_impl_Version [.own 0 0 o0.length, e_int a1, e_int a2, e_int a3, .clo f4 q4] [(0, (lob 4 e_impl_Version o0))] (fun x hh => x = .tup [] ∧ hh = [(0, (lob 4 e_impl_Version r))]) := by
  refine Does.goG [0] F_slices_symMergeCmpFunc_impl_Version rfl e_slices_symMergeCmpFunc_impl_Version n_slices_symMergeCmpFunc_impl_Version rfl (rvs := []) rfl rfl ?_
  intro w0 ok0 lent ρ0
  refine LWP.join (α := Int × Int × Int × (List S_impl_Version)) (fun z : Int × Int × Int × (List S_impl_Version) => [(0, (.own 0 0 (z.2.2.2).length)), (1, (e_int z.1)), (2, (e_int z.2.1)), (3, (e_int z.2.2.1)), (4, (.clo f4 q4))]) (fun z : Int × Int × Int × (List S_impl_Version) => [(0, (lob 4 e_impl_Version z.2.2.2))]) (fun z : Int × Int × Int × (List S_impl_Version) => m_slices_symMergeCmpFunc_impl_Version_j3 rc p4 z.1 z.2.1 z.2.2.1 z.2.2.2) r (fun _ => by simp [hkeys]) ?_ ?_
  ·rintro ⟨t1, t2, t3, o0⟩ h
   replace h : m_slices_symMergeCmpFunc_impl_Version_j3 rc p4 t1 t2 t3 o0 = some _ := h
   refine LWP.join (α := Int × Int × Int × (List S_impl_Version)) (fun z : Int × Int × Int × (List S_impl_Version) => [(0, (.own 0 0 (z.2.2.2).length)), (1, (e_int z.1)), (2, (e_int z.2.1)), (3, (e_int z.2.2.1)), (4, (.clo f4 q4))]) (fun z : Int × Int × Int × (List S_impl_Version) => [(0, (lob 4 e_impl_Version z.2.2.2))]) (fun z : Int × Int × Int × (List S_impl_Version) => m_slices_symMergeCmpFunc_impl_Version_j6 rc p4 z.1 z.2.1 z.2.2.1 z.2.2.2) r (fun _ => by simp [hkeys]) ?_ ?_
   ·rintro ⟨t1, t2, t3, o0⟩ h
    replace h : m_slices_symMergeCmpFunc_impl_Version_j6 rc p4 t1 t2 t3 o0 = some _ := h
    refine LWP.seq_k fun N94 hN94 => ?_
    refine LWP.region (l := [_,_,_,_,_,_,_]) ?_
    refine LWo.move (e_int t1) rfl (hn := ?_)
    refine LWo.move (e_int t3) rfl (hn := ?_)
    refine bk h fun x95 e95 h => ?_
    refine LWo.int _ rfl rfl (add_ck e95) (hn := ?_)
    refine bk h fun x96 e96 h => ?_
    refine LWo.convIU e96 u_int u_uint rfl (hn := ?_)
    refine bk h fun x97 e97 h => ?_
    refine LWo.shrU e97 rfl rfl (hn := ?_)
    refine bk h fun x98 e98 h => ?_
    refine LWo.convUI e98 u_uint u_int rfl (hn := ?_)
    refine LWo.assign (e_int x98) rfl (hn := ?_)
    refine LWo.nil (hN94 _ ?_)
    refine LWP.seq_k fun N99 hN99 => ?_
    refine LWP.region (l := [_,_,_,_]) ?_
    refine LWo.move (e_int x98) rfl (hn := ?_)
    refine LWo.move (e_int t2) rfl (hn := ?_)
    refine bk h fun x100 e100 h => ?_
    refine LWo.int _ rfl rfl (add_ck e100) (hn := ?_)
    refine LWo.assign (e_int x100) rfl (hn := ?_)
    refine LWo.nil (hN99 _ ?_)
    refine LWP.seq_k fun N101 hN101 => ?_
    refine LWP.region (l := [_,_]) ?_
    refine LWo.assign (e_int (0 : Int)) rfl (hn := ?_)
    refine LWo.assign (e_int (0 : Int)) rfl (hn := ?_)
    refine LWo.nil (hN101 _ ?_)
    refine LWP.join (α := Int × Int × Int × Int × Int × Int × Int × (List S_impl_Version)) (fun z : Int × Int × Int × Int × Int × Int × Int × (List S_impl_Version) => [(0, (.own 0 0 (z.2.2.2.2.2.2.2).length)), (1, (e_int z.1)), (2, (e_int z.2.1)), (3, (e_int z.2.2.1)), (4, (.clo f4 q4)), (18, (e_int z.2.2.2.1)), (19, (e_int z.2.2.2.2.1)), (20, (e_int z.2.2.2.2.2.1)), (21, (e_int z.2.2.2.2.2.2.1))]) (fun z : Int × Int × Int × Int × Int × Int × Int × (List S_impl_Version) => [(0, (lob 4 e_impl_Version z.2.2.2.2.2.2.2))]) (fun z : Int × Int × Int × Int × Int × Int × Int × (List S_impl_Version) => m_slices_symMergeCmpFunc_impl_Version_j7 rc p4 z.1 z.2.1 z.2.2.1 z.2.2.2.1 z.2.2.2.2.1 z.2.2.2.2.2.1 z.2.2.2.2.2.2.1 z.2.2.2.2.2.2.2) r (fun _ => by simp [hkeys]) ?_ ?_
    ·rintro ⟨t1, t2, t3, t18, t19, t20, t21, o0⟩ h
     replace h : m_slices_symMergeCmpFunc_impl_Version_j7 rc p4 t1 t2 t3 t18 t19 t20 t21 o0 = some _ := h
     refine LWP.seq_k fun N108 hN108 => ?_
     refine LWP.region (l := [_,_,_]) ?_
     refine LWo.move (e_int t19) rfl (hn := ?_)
     refine bk h fun x109 e109 h => ?_
     refine LWo.int _ rfl rfl (sub_ck e109) (hn := ?_)
     refine LWo.assign (e_int x109) rfl (hn := ?_)
     refine LWo.nil (hN108 _ ?_)
     refine LWP.join (α := Int × Int × Int × Int × Int × Int × (List S_impl_Version)) (fun z : Int × Int × Int × Int × Int × Int × (List S_impl_Version) => [(0, (.own 0 0 (z.2.2.2.2.2.2).length)), (1, (e_int z.1)), (2, (e_int z.2.1)), (3, (e_int z.2.2.1)), (4, (.clo f4 q4)), (18, (e_int z.2.2.2.1)), (19, (e_int z.2.2.2.2.1)), (20, (e_int z.2.2.2.2.2.1))]) (fun z : Int × Int × Int × Int × Int × Int × (List S_impl_Version) => [(0, (lob 4 e_impl_Version z.2.2.2.2.2.2))]) (fun z : Int × Int × Int × Int × Int × Int × (List S_impl_Version) => m_slices_symMergeCmpFunc_impl_Version_j8 rc p4 z.1 z.2.1 z.2.2.1 z.2.2.2.1 z.2.2.2.2.1 z.2.2.2.2.2.1 z.2.2.2.2.2.2) r (fun _ => by simp [hkeys]) ?_ ?_
     ·rintro ⟨t1, t2, t3, t18, t19, t20, o0⟩ h
      replace h : m_slices_symMergeCmpFunc_impl_Version_j8 rc p4 t1 t2 t3 t18 t19 t20 o0 = some _ := h
      refine LWP.seq_k fun N130 hN130 => ?_
      refine LWP.region (l := [_,_,_,_]) ?_
      refine LWo.move (e_int t19) rfl (hn := ?_)
      refine LWo.move (e_int t20) rfl (hn := ?_)
      refine bk h fun x131 e131 h => ?_
      refine LWo.int _ rfl rfl (sub_ck e131) (hn := ?_)
      refine LWo.assign (e_int x131) rfl (hn := ?_)
      refine LWo.nil (hN130 _ ?_)
      refine LWP.join (α := Int × Int × Int × Int × Int × (List S_impl_Version)) (fun z : Int × Int × Int × Int × Int × (List S_impl_Version) => [(0, (.own 0 0 (z.2.2.2.2.2).length)), (1, (e_int z.1)), (3, (e_int z.2.1)), (4, (.clo f4 q4)), (18, (e_int z.2.2.1)), (20, (e_int z.2.2.2.1)), (24, (e_int z.2.2.2.2.1))]) (fun z : Int × Int × Int × Int × Int × (List S_impl_Version) => [(0, (lob 4 e_impl_Version z.2.2.2.2.2))]) (fun z : Int × Int × Int × Int × Int × (List S_impl_Version) => m_slices_symMergeCmpFunc_impl_Version_j10 rc p4 z.1 z.2.1 z.2.2.1 z.2.2.2.1 z.2.2.2.2.1 z.2.2.2.2.2) r (fun _ => by simp [hkeys]) ?_ ?_
      ·rintro ⟨t1, t3, t18, t20, t24, o0⟩ h
       replace h : m_slices_symMergeCmpFunc_impl_Version_j10 rc p4 t1 t3 t18 t20 t24 o0 = some _ := h
       refine LWP.join (α := Int × Int × Int × (List S_impl_Version)) (fun z : Int × Int × Int × (List S_impl_Version) => [(0, (.own 0 0 (z.2.2.2).length)), (3, (e_int z.1)), (4, (.clo f4 q4)), (18, (e_int z.2.1)), (24, (e_int z.2.2.1))]) (fun z : Int × Int × Int × (List S_impl_Version) => [(0, (lob 4 e_impl_Version z.2.2.2))]) (fun z : Int × Int × Int × (List S_impl_Version) => m_slices_symMergeCmpFunc_impl_Version_j12 rc p4 z.1 z.2.1 z.2.2.1 z.2.2.2) r (fun _ => by simp [hkeys]) ?_ ?_
       ·rintro ⟨t3, t18, t24, o0⟩ h
        replace h : m_slices_symMergeCmpFunc_impl_Version_j12 rc p4 t3 t18 t24 o0 = some _ := h
        refine LWP.join (α := Int × Int × Int × Bool × (List S_impl_Version)) (fun z : Int × Int × Int × Bool × (List S_impl_Version) => [(0, (.own 0 0 (z.2.2.2.2).length)), (3, (e_int z.1)), (4, (.clo f4 q4)), (18, (e_int z.2.1)), (24, (e_int z.2.2.1)), (213, (e_bool z.2.2.2.1))]) (fun z : Int × Int × Int × Bool × (List S_impl_Version) => [(0, (lob 4 e_impl_Version z.2.2.2.2))]) (fun z : Int × Int × Int × Bool × (List S_impl_Version) => m_slices_symMergeCmpFunc_impl_Version_j13 rc p4 z.1 z.2.1 z.2.2.1 z.2.2.2.1 z.2.2.2.2) r (fun _ => by simp [hkeys]) ?_ ?_
        ·rintro ⟨t3, t18, t24, t213, o0⟩ h
         replace h : m_slices_symMergeCmpFunc_impl_Version_j13 rc p4 t3 t18 t24 t213 o0 = some _ := h
         refine LWP.cond_split rfl (fun h146 => ?_) (fun h146 => ?_)
         ·have h := bT h146 h
          refine LWP.region (l := [_,_,_,_,_,_]) ?_
          refine LWo.move (.own 0 0 (o0).length) rfl (hn := ?_)
          refine LWo.move (e_int t18) rfl (hn := ?_)
          refine LWo.move (e_int t24) rfl (hn := ?_)
          refine LWo.move (e_int t3) rfl (hn := ?_)
          refine LWo.move (.clo f4 q4) rfl (hn := ?_)
          refine bk h fun x147 e147 h => ?_
          refine bk h fun u148 e148 h => ?_
          refine LWo.ucallM (e := e_impl_Version) rfl rfl ((fun k => Does.nameO (hrc _ _ _ _ _ f4 q4 hq4 hf4 _ e147) (fun k => (atC rfl (atC rfl (atC rfl (atC (hq4 k) (atN _)))))) k) 0) rfl rfl (some 219) rfl (hn := ?_)
          obtain rfl := Option.some.inj h
          refine LWo.nil (QG.mk (.inl rfl) (.nil) (RetOK.many1 (.nil) (by simp) (by decide) rfl rfl rfl rfl rfl) rfl rfl)
         ·have h := bF h146 h
          obtain rfl := Option.some.inj h
          refine LWP.skip (QG.mk (.inl rfl) (.nil) (RetOK.many1 (.nil) (by simp) (by decide) rfl rfl rfl rfl rfl) rfl rfl)
        ·intro N144 hN144
         refine LWP.region (l := [_,_,_,_,_,_,_,_]) ?_
         refine LWo.move (e_int t18) rfl (hn := ?_)
         refine LWo.move (e_int t24) rfl (hn := ?_)
         refine LWo.int _ rfl rfl rfl (hn := ?_)
         refine LWo.move (e_bool (decide (t18 < t24))) rfl (hn := ?_)
         refine LWo.byCases (t := 209) _ rfl (fun h145 => ?_) (fun h145 => ?_)
         ·have h := bT h145 h
          refine LWo.guardY (t := 209) rfl h145 rfl rfl ?_
          refine LWo.move (e_int t24) rfl (hn := ?_)
          refine LWo.guardY (t := 209) rfl h145 rfl rfl ?_
          refine LWo.move (e_int t3) rfl (hn := ?_)
          refine LWo.guardY (t := 209) rfl h145 rfl rfl ?_
          refine LWo.int _ rfl rfl rfl (hn := ?_)
          refine LWo.pickTM (e_bool (decide (t24 < t3))) rfl h145 rfl (hn := ?_)
          refine LWo.nil (hN144 (t3, t18, t24, decide (t24 < t3), o0) _ ⟨rfl, rfl, rfl, rfl, rfl, rfl, trivial⟩ ⟨rfl, trivial⟩ h)
         ·have h := bF h145 h
          refine LWo.guardNU (t := 209) rfl h145 rfl rfl rfl rfl rfl ?_
          refine LWo.guardNU (t := 209) rfl h145 rfl rfl rfl rfl rfl ?_
          refine LWo.guardNU (t := 209) rfl h145 rfl rfl rfl rfl rfl ?_
          refine LWo.pickFM (e_bool false) rfl h145 rfl (hn := ?_)
          refine LWo.nil (hN144 (t3, t18, t24, false, o0) _ ⟨rfl, rfl, rfl, rfl, rfl, rfl, trivial⟩ ⟨rfl, trivial⟩ h)
       ·intro N138 hN138
        refine LWP.join (α := Int × Int × Int × Int × Int × Bool × (List S_impl_Version)) (fun z : Int × Int × Int × Int × Int × Bool × (List S_impl_Version) => [(0, (.own 0 0 (z.2.2.2.2.2.2).length)), (1, (e_int z.1)), (3, (e_int z.2.1)), (4, (.clo f4 q4)), (18, (e_int z.2.2.1)), (20, (e_int z.2.2.2.1)), (24, (e_int z.2.2.2.2.1)), (199, (e_bool z.2.2.2.2.2.1))]) (fun z : Int × Int × Int × Int × Int × Bool × (List S_impl_Version) => [(0, (lob 4 e_impl_Version z.2.2.2.2.2.2))]) (fun z : Int × Int × Int × Int × Int × Bool × (List S_impl_Version) => m_slices_symMergeCmpFunc_impl_Version_j11 rc p4 z.1 z.2.1 z.2.2.1 z.2.2.2.1 z.2.2.2.2.1 z.2.2.2.2.2.1 z.2.2.2.2.2.2) r (fun _ => by simp [hkeys]) ?_ ?_
        ·rintro ⟨t1, t3, t18, t20, t24, t199, o0⟩ h
         replace h : m_slices_symMergeCmpFunc_impl_Version_j11 rc p4 t1 t3 t18 t20 t24 t199 o0 = some _ := h
         refine LWP.cond_split rfl (fun h141 => ?_) (fun h141 => ?_)
         ·have h := bT h141 h
          refine LWP.region (l := [_,_,_,_,_,_]) ?_
          refine LWo.move (.own 0 0 (o0).length) rfl (hn := ?_)
          refine LWo.move (e_int t1) rfl (hn := ?_)
          refine LWo.move (e_int t20) rfl (hn := ?_)
          refine LWo.move (e_int t18) rfl (hn := ?_)
          refine LWo.move (.clo f4 q4) rfl (hn := ?_)
          refine bk h fun x142 e142 h => ?_
          refine bk h fun u143 e143 h => ?_
          refine LWo.ucallM (e := e_impl_Version) rfl rfl ((fun k => Does.nameO (hrc _ _ _ _ _ f4 q4 hq4 hf4 _ e142) (fun k => (atC rfl (atC rfl (atC rfl (atC (hq4 k) (atN _)))))) k) 0) rfl rfl (some 205) rfl (hn := ?_)
          refine LWo.nil (hN138 (t3, t18, t24, x142) _ ⟨(congrArg (LV.own 0 0) ((lenQ_some e143).1.symm)), rfl, rfl, rfl, rfl, trivial⟩ ⟨rfl, trivial⟩ h)
         ·have h := bF h141 h
          refine LWP.skip (hN138 (t3, t18, t24, o0) _ ⟨rfl, rfl, rfl, rfl, rfl, trivial⟩ ⟨rfl, trivial⟩ h)
        ·intro N139 hN139
         refine LWP.region (l := [_,_,_,_,_,_,_,_]) ?_
         refine LWo.move (e_int t1) rfl (hn := ?_)
         refine LWo.move (e_int t20) rfl (hn := ?_)
         refine LWo.int _ rfl rfl rfl (hn := ?_)
         refine LWo.move (e_bool (decide (t1 < t20))) rfl (hn := ?_)
         refine LWo.byCases (t := 195) _ rfl (fun h140 => ?_) (fun h140 => ?_)
         ·have h := bT h140 h
          refine LWo.guardY (t := 195) rfl h140 rfl rfl ?_
          refine LWo.move (e_int t20) rfl (hn := ?_)
          refine LWo.guardY (t := 195) rfl h140 rfl rfl ?_
          refine LWo.move (e_int t18) rfl (hn := ?_)
          refine LWo.guardY (t := 195) rfl h140 rfl rfl ?_
          refine LWo.int _ rfl rfl rfl (hn := ?_)
          refine LWo.pickTM (e_bool (decide (t20 < t18))) rfl h140 rfl (hn := ?_)
          refine LWo.nil (hN139 (t1, t3, t18, t20, t24, decide (t20 < t18), o0) _ ⟨rfl, rfl, rfl, rfl, rfl, rfl, rfl, rfl, trivial⟩ ⟨rfl, trivial⟩ h)
         ·have h := bF h140 h
          refine LWo.guardNU (t := 195) rfl h140 rfl rfl rfl rfl rfl ?_
          refine LWo.guardNU (t := 195) rfl h140 rfl rfl rfl rfl rfl ?_
          refine LWo.guardNU (t := 195) rfl h140 rfl rfl rfl rfl rfl ?_
          refine LWo.pickFM (e_bool false) rfl h140 rfl (hn := ?_)
          refine LWo.nil (hN139 (t1, t3, t18, t20, t24, false, o0) _ ⟨rfl, rfl, rfl, rfl, rfl, rfl, rfl, rfl, trivial⟩ ⟨rfl, trivial⟩ h)
      ·intro N132 hN132
       refine LWP.join (α := Int × Int × Int × Int × Int × Int × Bool × (List S_impl_Version)) (fun z : Int × Int × Int × Int × Int × Int × Bool × (List S_impl_Version) => [(0, (.own 0 0 (z.2.2.2.2.2.2.2).length)), (1, (e_int z.1)), (2, (e_int z.2.1)), (3, (e_int z.2.2.1)), (4, (.clo f4 q4)), (18, (e_int z.2.2.2.1)), (20, (e_int z.2.2.2.2.1)), (24, (e_int z.2.2.2.2.2.1)), (185, (e_bool z.2.2.2.2.2.2.1))]) (fun z : Int × Int × Int × Int × Int × Int × Bool × (List S_impl_Version) => [(0, (lob 4 e_impl_Version z.2.2.2.2.2.2.2))]) (fun z : Int × Int × Int × Int × Int × Int × Bool × (List S_impl_Version) => m_slices_symMergeCmpFunc_impl_Version_j9 rc p4 z.1 z.2.1 z.2.2.1 z.2.2.2.1 z.2.2.2.2.1 z.2.2.2.2.2.1 z.2.2.2.2.2.2.1 z.2.2.2.2.2.2.2) r (fun _ => by simp [hkeys]) ?_ ?_
       ·rintro ⟨t1, t2, t3, t18, t20, t24, t185, o0⟩ h
        replace h : m_slices_symMergeCmpFunc_impl_Version_j9 rc p4 t1 t2 t3 t18 t20 t24 t185 o0 = some _ := h
        refine LWP.cond_split rfl (fun h135 => ?_) (fun h135 => ?_)
        ·have h := bT h135 h
         refine LWP.region (l := [_,_,_,_,_,_]) ?_
         refine LWo.move (.own 0 0 (o0).length) rfl (hn := ?_)
         refine LWo.move (e_int t20) rfl (hn := ?_)
         refine LWo.move (e_int t2) rfl (hn := ?_)
         refine LWo.move (e_int t24) rfl (hn := ?_)
         refine LWo.move (.clo f4 q4) rfl (hn := ?_)
         refine bk h fun x136 e136 h => ?_
         refine bk h fun u137 e137 h => ?_
         refine LWo.ucallM (e := e_impl_Version) rfl rfl (k_slices_rotateCmpFunc_impl_Version _ _ _ _ _ f4 q4 hq4 hf4 _ e136 0) rfl rfl (some 191) rfl (hn := ?_)
         refine LWo.nil (hN132 (t1, t3, t18, t20, t24, x136) _ ⟨(congrArg (LV.own 0 0) ((lenQ_some e137).1.symm)), rfl, rfl, rfl, rfl, rfl, rfl, trivial⟩ ⟨rfl, trivial⟩ h)
        ·have h := bF h135 h
         refine LWP.skip (hN132 (t1, t3, t18, t20, t24, o0) _ ⟨rfl, rfl, rfl, rfl, rfl, rfl, rfl, trivial⟩ ⟨rfl, trivial⟩ h)
       ·intro N133 hN133
        refine LWP.region (l := [_,_,_,_,_,_,_,_]) ?_
        refine LWo.move (e_int t20) rfl (hn := ?_)
        refine LWo.move (e_int t2) rfl (hn := ?_)
        refine LWo.int _ rfl rfl rfl (hn := ?_)
        refine LWo.move (e_bool (decide (t20 < t2))) rfl (hn := ?_)
        refine LWo.byCases (t := 181) _ rfl (fun h134 => ?_) (fun h134 => ?_)
        ·have h := bT h134 h
         refine LWo.guardY (t := 181) rfl h134 rfl rfl ?_
         refine LWo.move (e_int t2) rfl (hn := ?_)
         refine LWo.guardY (t := 181) rfl h134 rfl rfl ?_
         refine LWo.move (e_int x131) rfl (hn := ?_)
         refine LWo.guardY (t := 181) rfl h134 rfl rfl ?_
         refine LWo.int _ rfl rfl rfl (hn := ?_)
         refine LWo.pickTM (e_bool (decide (t2 < x131))) rfl h134 rfl (hn := ?_)
         refine LWo.nil (hN133 (t1, t2, t3, t18, t20, x131, decide (t2 < x131), o0) _ ⟨rfl, rfl, rfl, rfl, rfl, rfl, rfl, rfl, rfl, trivial⟩ ⟨rfl, trivial⟩ h)
        ·have h := bF h134 h
         refine LWo.guardNU (t := 181) rfl h134 rfl rfl rfl rfl rfl ?_
         refine LWo.guardNU (t := 181) rfl h134 rfl rfl rfl rfl rfl ?_
         refine LWo.guardNU (t := 181) rfl h134 rfl rfl rfl rfl rfl ?_
         refine LWo.pickFM (e_bool false) rfl h134 rfl (hn := ?_)
         refine LWo.nil (hN133 (t1, t2, t3, t18, t20, x131, false, o0) _ ⟨rfl, rfl, rfl, rfl, rfl, rfl, rfl, rfl, rfl, trivial⟩ ⟨rfl, trivial⟩ h)
     ·intro N110 hN110
      refine LWP.block ?_
      refine LWP.loopM (α := Int × Int × Int × Int × Int × Int × Int × Int × (List S_impl_Version)) (fun z : Int × Int × Int × Int × Int × Int × Int × Int × (List S_impl_Version) => [(0, (.own 0 0 (z.2.2.2.2.2.2.2.2).length)), (1, (e_int z.1)), (2, (e_int z.2.1)), (3, (e_int z.2.2.1)), (4, (.clo f4 q4)), (18, (e_int z.2.2.2.1)), (19, (e_int z.2.2.2.2.1)), (20, (e_int z.2.2.2.2.2.1)), (21, (e_int z.2.2.2.2.2.2.1)), (22, (e_int z.2.2.2.2.2.2.2.1))]) (fun z : Int × Int × Int × Int × Int × Int × Int × Int × (List S_impl_Version) => [(0, (lob 4 e_impl_Version z.2.2.2.2.2.2.2.2))]) (fun n5 (z : Int × Int × Int × Int × Int × Int × Int × Int × (List S_impl_Version)) => m_slices_symMergeCmpFunc_impl_Version_l5 rc p4 n5 z.1 z.2.1 z.2.2.1 z.2.2.2.1 z.2.2.2.2.1 z.2.2.2.2.2.1 z.2.2.2.2.2.2.1 z.2.2.2.2.2.2.2.1 z.2.2.2.2.2.2.2.2) r _ (t1, t2, t3, t18, t19, t20, t21, x109, o0) h (fun _ => rfl) (fun _ => by simp [hkeys]) ⟨rfl, rfl, rfl, rfl, rfl, rfl, rfl, rfl, rfl, rfl, trivial⟩ ⟨rfl, trivial⟩ ?_
      rintro n5 ⟨t1, t2, t3, t18, t19, t20, t21, t22, o0⟩ h N111 hN111
      replace h : m_slices_symMergeCmpFunc_impl_Version_l5 rc p4 (n5 + 1) t1 t2 t3 t18 t19 t20 t21 t22 o0 = some _ := h
      refine LWP.seq_k fun N113 hN113 => ?_
      refine LWP.seq_k fun N114 hN114 => ?_
      refine LWP.region (l := [_,_,_]) ?_
      refine LWo.move (e_int t20) rfl (hn := ?_)
      refine LWo.move (e_int t21) rfl (hn := ?_)
      refine LWo.int _ rfl rfl rfl (hn := ?_)
      refine LWo.nil (hN114 _ ?_)
      refine LWP.cond_split rfl (fun h115 => ?_) (fun h115 => ?_)
      ·have h := bT h115 h
       refine LWP.skip (hN113 _ ?_)
       refine LWP.block ?_
       refine LWP.seq_k fun N116 hN116 => ?_
       refine LWP.region (l := [_,_,_,_,_,_,_]) ?_
       refine LWo.move (e_int t20) rfl (hn := ?_)
       refine LWo.move (e_int t21) rfl (hn := ?_)
       refine bk h fun x117 e117 h => ?_
       refine LWo.int _ rfl rfl (add_ck e117) (hn := ?_)
       refine bk h fun x118 e118 h => ?_
       refine LWo.convIU e118 u_int u_uint rfl (hn := ?_)
       refine bk h fun x119 e119 h => ?_
       refine LWo.shrU e119 rfl rfl (hn := ?_)
       refine bk h fun x120 e120 h => ?_
       refine LWo.convUI e120 u_uint u_int rfl (hn := ?_)
       refine LWo.assign (e_int x120) rfl (hn := ?_)
       refine LWo.nil (hN116 _ ?_)
       refine LWP.seq_k fun N121 hN121 => ?_
       refine bk h fun x122 e122 h => ?_
       refine bk h fun x123 e123 h => ?_
       refine bk h fun x124 e124 h => ?_
       refine bk h fun x125 e125 h => ?_
       refine bk h fun x126 e126 h => ?_
       refine bk h fun x127 e127 h => ?_
       refine LWP.drawF (l := [_,_,_,_,_,_,_,_,_,_,_,_,_,_]) [] [0, 1, 2, 3, 4, 18, 19, 20, 21, 22, 23] [([4], []), ([0], []), ([22], []), ([23], []), ([160, 161], []), ([159, 162], [0]), ([163], [0]), ([0], []), ([23], []), ([165, 166], [0]), ([167], [0]), ([158, 164, 168], []), ([169], []), ([170], [])] [0, 1, 2, 3, 4, 18, 19, 20, 21, 22, 23, 171] [0] mixed (by kernel_rfl) rfl (by decide) ?_
       refine dq 158 rfl (fun _ g u h => LWo.move (.clo f4 q4) u.1 (hn := .nil (zn g))) ?_
       refine dq 159 rfl (fun _ g u h => LWo.move (.own 0 0 (o0).length) u.1 (hn := .nil (zn g))) ?_
       refine dq 160 rfl (fun _ g u h => LWo.move (e_int t22) u.1 (hn := .nil (zn g))) ?_
       refine dq 161 rfl (fun _ g u h => LWo.move (e_int x120) u.1 (hn := .nil (zn g))) ?_
       refine dq 162 rfl (fun _ g u h => LWo.int _ u.1 u.2.1 (sub_ck e122) (hn := .nil (zn g))) ?_
       refine dq 163 rfl (fun _ g u h => LWo.indexO e123 rfl u_Limpl_Version s_impl_Version u.1 u.2.1 h.1 (hn := .nil (zn g))) ?_
       refine dq 164 rfl (fun _ g u h => LWo.loadON ((e_impl_Version x124)).cells e124 g_impl_Version s_impl_Version u.1 h.1 rfl rfl (hn := .nil (zn g))) ?_
       refine dq 165 rfl (fun _ g u h => LWo.move (.own 0 0 (o0).length) u.1 (hn := .nil (zn g))) ?_
       refine dq 166 rfl (fun _ g u h => LWo.move (e_int x120) u.1 (hn := .nil (zn g))) ?_
       refine dq 167 rfl (fun _ g u h => LWo.indexO e125 rfl u_Limpl_Version s_impl_Version u.1 u.2.1 h.1 (hn := .nil (zn g))) ?_
       refine dq 168 rfl (fun _ g u h => LWo.loadON ((e_impl_Version x126)).cells e126 g_impl_Version s_impl_Version u.1 h.1 rfl rfl (hn := .nil (zn g))) ?_
       refine dq 169 rfl (fun _ g u h => LWo.vcall u.1 (avq2 u.2.1 u.2.2.1) (hf4 _ _ _ e127) .refl (hn := .nil (zn g))) ?_
       refine dq 170 rfl (fun _ g u h => LWo.int _ u.1 rfl rfl (hn := .nil (zn g))) ?_
       refine dq 171 rfl (fun _ g u h => LWo.not u.1 (hn := .nil (zn g))) ?_
       refine ⟨rfl, by kernel_rfl, hN121 _ ?_⟩
       refine LWP.cond_split rfl (fun h128 => ?_) (fun h128 => ?_)
       ·have h := bT h128 h
        refine LWP.region (l := [_,_,_]) ?_
        refine LWo.move (e_int x120) rfl (hn := ?_)
        refine bk h fun x129 e129 h => ?_
        refine LWo.int _ rfl rfl (add_ck e129) (hn := ?_)
        refine LWo.assign (e_int x129) rfl (hn := ?_)
        refine LWo.nil (hN111 (t1, t2, t3, t18, t19, x129, t21, t22, o0) _ ⟨rfl, rfl, rfl, rfl, rfl, rfl, rfl, rfl, rfl, rfl, trivial⟩ ⟨rfl, trivial⟩ h)
       ·have h := bF h128 h
        refine LWP.region (l := [_,_]) ?_
        refine LWo.move (e_int x120) rfl (hn := ?_)
        refine LWo.assign (e_int x120) rfl (hn := ?_)
        refine LWo.nil (hN111 (t1, t2, t3, t18, t19, t20, x120, t22, o0) _ ⟨rfl, rfl, rfl, rfl, rfl, rfl, rfl, rfl, rfl, rfl, trivial⟩ ⟨rfl, trivial⟩ h)
      ·have h := bF h115 h
       refine LWP.exit (hN110 (t1, t2, t3, t18, t19, t20, o0) _ ⟨rfl, rfl, rfl, rfl, rfl, rfl, rfl, rfl, trivial⟩ ⟨rfl, trivial⟩ h)
    ·intro N102 hN102
     refine LWP.seq_k fun N103 hN103 => ?_
     refine LWP.region (l := [_,_,_]) ?_
     refine LWo.move (e_int t2) rfl (hn := ?_)
     refine LWo.move (e_int x98) rfl (hn := ?_)
     refine LWo.int _ rfl rfl rfl (hn := ?_)
     refine LWo.nil (hN103 _ ?_)
     refine LWP.cond_split rfl (fun h104 => ?_) (fun h104 => ?_)
     ·have h := bT h104 h
      refine LWP.seq_k fun N105 hN105 => ?_
      refine LWP.region (l := [_,_,_,_]) ?_
      refine LWo.move (e_int x100) rfl (hn := ?_)
      refine LWo.move (e_int t3) rfl (hn := ?_)
      refine bk h fun x106 e106 h => ?_
      refine LWo.int _ rfl rfl (sub_ck e106) (hn := ?_)
      refine LWo.assign (e_int x106) rfl (hn := ?_)
      refine LWo.nil (hN105 _ ?_)
      refine LWP.region (l := [_,_]) ?_
      refine LWo.move (e_int x98) rfl (hn := ?_)
      refine LWo.assign (e_int x98) rfl (hn := ?_)
      refine LWo.nil (hN102 (t1, t2, t3, x98, x100, x106, x98, o0) _ ⟨rfl, rfl, rfl, rfl, rfl, rfl, rfl, rfl, rfl, trivial⟩ ⟨rfl, trivial⟩ h)
     ·have h := bF h104 h
      refine LWP.seq_k fun N107 hN107 => ?_
      refine LWP.region (l := [_,_]) ?_
      refine LWo.move (e_int t1) rfl (hn := ?_)
      refine LWo.assign (e_int t1) rfl (hn := ?_)
      refine LWo.nil (hN107 _ ?_)
      refine LWP.region (l := [_,_]) ?_
      refine LWo.move (e_int t2) rfl (hn := ?_)
      refine LWo.assign (e_int t2) rfl (hn := ?_)
      refine LWo.nil (hN102 (t1, t2, t3, x98, x100, t1, t2, o0) _ ⟨rfl, rfl, rfl, rfl, rfl, rfl, rfl, rfl, rfl, trivial⟩ ⟨rfl, trivial⟩ h)
   ·intro N48 hN48
    refine LWP.seq_k fun N49 hN49 => ?_
    refine LWP.region (l := [_,_,_,_]) ?_
    refine LWo.move (e_int t3) rfl (hn := ?_)
    refine LWo.move (e_int t2) rfl (hn := ?_)
    refine bk h fun x50 e50 h => ?_
    refine LWo.int _ rfl rfl (sub_ck e50) (hn := ?_)
    refine LWo.int _ rfl rfl rfl (hn := ?_)
    refine LWo.nil (hN49 _ ?_)
    refine LWP.cond_split rfl (fun h51 => ?_) (fun h51 => ?_)
    ·have h := bT h51 h
     refine LWP.seq_k fun N52 hN52 => ?_
     refine LWP.region (l := [_,_]) ?_
     refine LWo.move (e_int t1) rfl (hn := ?_)
     refine LWo.assign (e_int t1) rfl (hn := ?_)
     refine LWo.nil (hN52 _ ?_)
     refine LWP.seq_k fun N53 hN53 => ?_
     refine LWP.region (l := [_,_]) ?_
     refine LWo.move (e_int t2) rfl (hn := ?_)
     refine LWo.assign (e_int t2) rfl (hn := ?_)
     refine LWo.nil (hN53 _ ?_)
     refine LWP.join (α := Int × Int × (List S_impl_Version)) (fun z : Int × Int × (List S_impl_Version) => [(0, (.own 0 0 (z.2.2).length)), (2, (e_int z.1)), (14, (e_int z.2.1))]) (fun z : Int × Int × (List S_impl_Version) => [(0, (lob 4 e_impl_Version z.2.2))]) (fun z : Int × Int × (List S_impl_Version) => m_slices_symMergeCmpFunc_impl_Version_j4 rc p4 z.1 z.2.1 z.2.2) r (fun _ => by simp [hkeys]) ?_ ?_
     ·rintro ⟨t2, t14, o0⟩ h
      replace h : m_slices_symMergeCmpFunc_impl_Version_j4 rc p4 t2 t14 o0 = some _ := h
      refine LWP.join (α := (List S_impl_Version)) (fun z : (List S_impl_Version) => []) (fun z : (List S_impl_Version) => [(0, (lob 4 e_impl_Version z))]) (fun z : (List S_impl_Version) => m_slices_symMergeCmpFunc_impl_Version_j5 rc p4 z) r (fun _ => by simp [hkeys]) ?_ ?_
      ·rintro o0 h
       replace h : m_slices_symMergeCmpFunc_impl_Version_j5 rc p4 o0 = some _ := h
       obtain rfl := Option.some.inj h
       refine LWP.ret (QG.mk (.inr rfl) (.nil) (RetOK.many1 (.nil) (by simp) (by decide) rfl rfl rfl rfl rfl) rfl rfl)
      ·intro N73 hN73
       refine LWP.seq_k fun N74 hN74 => ?_
       refine LWP.region (l := [_,_]) ?_
       refine LWo.move (e_int t2) rfl (hn := ?_)
       refine LWo.assign (e_int t2) rfl (hn := ?_)
       refine LWo.nil (hN74 _ ?_)
       refine LWP.block ?_
       refine LWP.loopM (α := Int × Int × (List S_impl_Version)) (fun z : Int × Int × (List S_impl_Version) => [(0, (.own 0 0 (z.2.2).length)), (14, (e_int z.1)), (17, (e_int z.2.1))]) (fun z : Int × Int × (List S_impl_Version) => [(0, (lob 4 e_impl_Version z.2.2))]) (fun n4 (z : Int × Int × (List S_impl_Version)) => m_slices_symMergeCmpFunc_impl_Version_l4 rc p4 n4 z.1 z.2.1 z.2.2) r _ (t14, t2, o0) h (fun _ => rfl) (fun _ => by simp [hkeys]) ⟨rfl, rfl, rfl, trivial⟩ ⟨rfl, trivial⟩ ?_
       rintro n4 ⟨t14, t17, o0⟩ h N75 hN75
       replace h : m_slices_symMergeCmpFunc_impl_Version_l4 rc p4 (n4 + 1) t14 t17 o0 = some _ := h
       refine LWP.seq_k fun N77 hN77 => ?_
       refine LWP.seq_k fun N78 hN78 => ?_
       refine LWP.region (l := [_,_,_]) ?_
       refine LWo.move (e_int t17) rfl (hn := ?_)
       refine LWo.move (e_int t14) rfl (hn := ?_)
       refine LWo.int _ rfl rfl rfl (hn := ?_)
       refine LWo.nil (hN78 _ ?_)
       refine LWP.cond_split rfl (fun h79 => ?_) (fun h79 => ?_)
       ·have h := bT h79 h
        refine LWP.skip (hN77 _ ?_)
        refine LWP.seq_k fun N80 hN80 => ?_
        refine LWP.block ?_
        refine bk h fun x81 e81 h => ?_
        refine bk h fun x82 e82 h => ?_
        refine bk h fun x83 e83 h => ?_
        refine bk h fun x84 e84 h => ?_
        refine bk h fun x85 e85 h => ?_
        refine bk h fun x86 e86 h => ?_
        refine bk h fun x87 e87 h => ?_
        refine bk h fun x88 e88 h => ?_
        refine lk h fun y89 e89 h => ?_
        refine bk h fun x90 e90 h => ?_
        refine bk h fun x91 e91 h => ?_
        refine lk h fun y92 e92 h => ?_
        refine LWP.drawF (l := [_,_,_,_,_,_,_,_,_,_,_,_,_,_,_,_,_,_]) [] [0, 14, 17] [([0], []), ([17], []), ([0], []), ([17], []), ([116], []), ([0], []), ([17], []), ([119], []), ([118, 120], [0]), ([121], [0]), ([0], []), ([17], []), ([123, 124], [0]), ([125], [0]), ([113, 114], [0]), ([122, 127], [0]), ([115, 117], [0]), ([126, 128], [0])] [0, 14, 17] [0] mixed (by kernel_rfl) rfl (by decide) ?_
        refine dq 113 rfl (fun _ g u h => LWo.move (.own 0 0 (o0).length) u.1 (hn := .nil (zn g))) ?_
        refine dq 114 rfl (fun _ g u h => LWo.move (e_int t17) u.1 (hn := .nil (zn g))) ?_
        refine dq 115 rfl (fun _ g u h => LWo.move (.own 0 0 (o0).length) u.1 (hn := .nil (zn g))) ?_
        refine dq 116 rfl (fun _ g u h => LWo.move (e_int t17) u.1 (hn := .nil (zn g))) ?_
        refine dq 117 rfl (fun _ g u h => LWo.int _ u.1 rfl (sub_ck e81) (hn := .nil (zn g))) ?_
        refine dq 118 rfl (fun _ g u h => LWo.move (.own 0 0 (o0).length) u.1 (hn := .nil (zn g))) ?_
        refine dq 119 rfl (fun _ g u h => LWo.move (e_int t17) u.1 (hn := .nil (zn g))) ?_
        refine dq 120 rfl (fun _ g u h => LWo.int _ u.1 rfl (sub_ck e82) (hn := .nil (zn g))) ?_
        refine dq 121 rfl (fun _ g u h => LWo.indexO e83 rfl u_Limpl_Version s_impl_Version u.1 u.2.1 h.1 (hn := .nil (zn g))) ?_
        refine dq 122 rfl (fun _ g u h => LWo.loadON ((e_impl_Version x84)).cells e84 g_impl_Version s_impl_Version u.1 h.1 rfl rfl (hn := .nil (zn g))) ?_
        refine dq 123 rfl (fun _ g u h => LWo.move (.own 0 0 (o0).length) u.1 (hn := .nil (zn g))) ?_
        refine dq 124 rfl (fun _ g u h => LWo.move (e_int t17) u.1 (hn := .nil (zn g))) ?_
        refine dq 125 rfl (fun _ g u h => LWo.indexO e85 rfl u_Limpl_Version s_impl_Version u.1 u.2.1 h.1 (hn := .nil (zn g))) ?_
        refine dq 126 rfl (fun _ g u h => LWo.loadON ((e_impl_Version x86)).cells e86 g_impl_Version s_impl_Version u.1 h.1 rfl rfl (hn := .nil (zn g))) ?_
        refine dq 127 rfl (fun _ g u h => LWo.indexO e87 rfl u_Limpl_Version s_impl_Version u.1 u.2.1 h.1 (hn := .nil (zn g))) ?_
        refine ⟨rfl, .upd none .junk 0 _, (fun _ h => by cases h), fun _ g u h => LWo.storeO y89 e88 s_impl_Version u.2.1 u.1 rfl rfl rfl h.1 rfl (by rw [e89]; rfl) (hn := LWo.nil ⟨rfl, .inl rfl, Ef.good_ok (e := .upd none .junk 0 _) (fun _ h => by cases h) g⟩), ?_⟩
        refine dq 128 rfl (fun _ g u h => LWo.indexO e90 List.length_set.symm u_Limpl_Version s_impl_Version u.1 u.2.1 h.1 (hn := .nil (zn g))) ?_
        refine ⟨rfl, .upd none .junk 0 _, (fun _ h => by cases h), fun _ g u h => LWo.storeO y92 e91 s_impl_Version u.2.1 u.1 rfl rfl rfl h.1 rfl (by rw [e92]; rfl) (hn := LWo.nil ⟨rfl, .inl rfl, Ef.good_ok (e := .upd none .junk 0 _) (fun _ h => by cases h) g⟩), ?_⟩
        refine ⟨rfl, by kernel_rfl, hN80 _ ?_⟩
        refine LWP.region (l := [_,_,_]) ?_
        refine LWo.move (e_int t17) rfl (hn := ?_)
        refine bk h fun x93 e93 h => ?_
        refine LWo.int _ rfl rfl (sub_ck e93) (hn := ?_)
        refine LWo.assign (e_int x93) rfl (hn := ?_)
        refine LWo.nil (hN75 (t14, x93, ((o0.set (t17).toNat y89).set (x81).toNat y92)) _ ⟨(congrArg (LV.own 0 0) (List.length_set.symm.trans List.length_set.symm)), rfl, rfl, trivial⟩ ⟨rfl, trivial⟩ h)
       ·have h := bF h79 h
        refine LWP.exit (hN73 o0 _ trivial ⟨rfl, trivial⟩ h)
     ·intro N54 hN54
      refine LWP.block ?_
      refine LWP.loopM (α := Int × Int × Int × (List S_impl_Version)) (fun z : Int × Int × Int × (List S_impl_Version) => [(0, (.own 0 0 (z.2.2.2).length)), (2, (e_int z.1)), (4, (.clo f4 q4)), (14, (e_int z.2.1)), (15, (e_int z.2.2.1))]) (fun z : Int × Int × Int × (List S_impl_Version) => [(0, (lob 4 e_impl_Version z.2.2.2))]) (fun n3 (z : Int × Int × Int × (List S_impl_Version)) => m_slices_symMergeCmpFunc_impl_Version_l3 rc p4 n3 z.1 z.2.1 z.2.2.1 z.2.2.2) r _ (t2, t1, t2, o0) h (fun _ => rfl) (fun _ => by simp [hkeys]) ⟨rfl, rfl, rfl, rfl, rfl, trivial⟩ ⟨rfl, trivial⟩ ?_
      rintro n3 ⟨t2, t14, t15, o0⟩ h N55 hN55
      replace h : m_slices_symMergeCmpFunc_impl_Version_l3 rc p4 (n3 + 1) t2 t14 t15 o0 = some _ := h
      refine LWP.seq_k fun N57 hN57 => ?_
      refine LWP.seq_k fun N58 hN58 => ?_
      refine LWP.region (l := [_,_,_]) ?_
      refine LWo.move (e_int t14) rfl (hn := ?_)
      refine LWo.move (e_int t15) rfl (hn := ?_)
      refine LWo.int _ rfl rfl rfl (hn := ?_)
      refine LWo.nil (hN58 _ ?_)
      refine LWP.cond_split rfl (fun h59 => ?_) (fun h59 => ?_)
      ·have h := bT h59 h
       refine LWP.skip (hN57 _ ?_)
       refine LWP.block ?_
       refine LWP.seq_k fun N60 hN60 => ?_
       refine LWP.region (l := [_,_,_,_,_,_,_]) ?_
       refine LWo.move (e_int t14) rfl (hn := ?_)
       refine LWo.move (e_int t15) rfl (hn := ?_)
       refine bk h fun x61 e61 h => ?_
       refine LWo.int _ rfl rfl (add_ck e61) (hn := ?_)
       refine bk h fun x62 e62 h => ?_
       refine LWo.convIU e62 u_int u_uint rfl (hn := ?_)
       refine bk h fun x63 e63 h => ?_
       refine LWo.shrU e63 rfl rfl (hn := ?_)
       refine bk h fun x64 e64 h => ?_
       refine LWo.convUI e64 u_uint u_int rfl (hn := ?_)
       refine LWo.assign (e_int x64) rfl (hn := ?_)
       refine LWo.nil (hN60 _ ?_)
       refine LWP.seq_k fun N65 hN65 => ?_
       refine bk h fun x66 e66 h => ?_
       refine bk h fun x67 e67 h => ?_
       refine bk h fun x68 e68 h => ?_
       refine bk h fun x69 e69 h => ?_
       refine bk h fun x70 e70 h => ?_
       refine LWP.drawF (l := [_,_,_,_,_,_,_,_,_,_,_,_]) [] [0, 2, 4, 14, 15, 16] [([4], []), ([0], []), ([2], []), ([93, 94], [0]), ([95], [0]), ([0], []), ([16], []), ([97, 98], [0]), ([99], [0]), ([92, 96, 100], []), ([101], []), ([102], [])] [0, 2, 4, 14, 15, 16, 103] [0] mixed (by kernel_rfl) rfl (by decide) ?_
       refine dq 92 rfl (fun _ g u h => LWo.move (.clo f4 q4) u.1 (hn := .nil (zn g))) ?_
       refine dq 93 rfl (fun _ g u h => LWo.move (.own 0 0 (o0).length) u.1 (hn := .nil (zn g))) ?_
       refine dq 94 rfl (fun _ g u h => LWo.move (e_int t2) u.1 (hn := .nil (zn g))) ?_
       refine dq 95 rfl (fun _ g u h => LWo.indexO e66 rfl u_Limpl_Version s_impl_Version u.1 u.2.1 h.1 (hn := .nil (zn g))) ?_
       refine dq 96 rfl (fun _ g u h => LWo.loadON ((e_impl_Version x67)).cells e67 g_impl_Version s_impl_Version u.1 h.1 rfl rfl (hn := .nil (zn g))) ?_
       refine dq 97 rfl (fun _ g u h => LWo.move (.own 0 0 (o0).length) u.1 (hn := .nil (zn g))) ?_
       refine dq 98 rfl (fun _ g u h => LWo.move (e_int x64) u.1 (hn := .nil (zn g))) ?_
       refine dq 99 rfl (fun _ g u h => LWo.indexO e68 rfl u_Limpl_Version s_impl_Version u.1 u.2.1 h.1 (hn := .nil (zn g))) ?_
       refine dq 100 rfl (fun _ g u h => LWo.loadON ((e_impl_Version x69)).cells e69 g_impl_Version s_impl_Version u.1 h.1 rfl rfl (hn := .nil (zn g))) ?_
       refine dq 101 rfl (fun _ g u h => LWo.vcall u.1 (avq2 u.2.1 u.2.2.1) (hf4 _ _ _ e70) .refl (hn := .nil (zn g))) ?_
       refine dq 102 rfl (fun _ g u h => LWo.int _ u.1 rfl rfl (hn := .nil (zn g))) ?_
       refine dq 103 rfl (fun _ g u h => LWo.not u.1 (hn := .nil (zn g))) ?_
       refine ⟨rfl, by kernel_rfl, hN65 _ ?_⟩
       refine LWP.cond_split rfl (fun h71 => ?_) (fun h71 => ?_)
       ·have h := bT h71 h
        refine LWP.region (l := [_,_,_]) ?_
        refine LWo.move (e_int x64) rfl (hn := ?_)
        refine bk h fun x72 e72 h => ?_
        refine LWo.int _ rfl rfl (add_ck e72) (hn := ?_)
        refine LWo.assign (e_int x72) rfl (hn := ?_)
        refine LWo.nil (hN55 (t2, x72, t15, o0) _ ⟨rfl, rfl, rfl, rfl, rfl, trivial⟩ ⟨rfl, trivial⟩ h)
       ·have h := bF h71 h
        refine LWP.region (l := [_,_]) ?_
        refine LWo.move (e_int x64) rfl (hn := ?_)
        refine LWo.assign (e_int x64) rfl (hn := ?_)
        refine LWo.nil (hN55 (t2, t14, x64, o0) _ ⟨rfl, rfl, rfl, rfl, rfl, trivial⟩ ⟨rfl, trivial⟩ h)
      ·have h := bF h59 h
       refine LWP.exit (hN54 (t2, t14, o0) _ ⟨rfl, rfl, rfl, trivial⟩ ⟨rfl, trivial⟩ h)
    ·have h := bF h51 h
     refine LWP.skip (hN48 (t1, t2, t3, o0) _ ⟨rfl, rfl, rfl, rfl, rfl, trivial⟩ ⟨rfl, trivial⟩ h)
  ·intro N1 hN1
   refine LWP.seq_k fun N2 hN2 => ?_
   refine LWP.region (l := [_,_,_,_]) ?_
   refine LWo.move (e_int a2) rfl (hn := ?_)
   refine LWo.move (e_int a1) rfl (hn := ?_)
   refine bk h fun x3 e3 h => ?_
   refine LWo.int _ rfl rfl (sub_ck e3) (hn := ?_)
   refine LWo.int _ rfl rfl rfl (hn := ?_)
   refine LWo.nil (hN2 _ ?_)
   refine LWP.cond_split rfl (fun h4 => ?_) (fun h4 => ?_)
   ·have h := bT h4 h
    refine LWP.seq_k fun N5 hN5 => ?_
    refine LWP.region (l := [_,_]) ?_
    refine LWo.move (e_int a2) rfl (hn := ?_)
    refine LWo.assign (e_int a2) rfl (hn := ?_)
    refine LWo.nil (hN5 _ ?_)
    refine LWP.seq_k fun N6 hN6 => ?_
    refine LWP.region (l := [_,_]) ?_
    refine LWo.move (e_int a3) rfl (hn := ?_)
    refine LWo.assign (e_int a3) rfl (hn := ?_)
    refine LWo.nil (hN6 _ ?_)
    refine LWP.join (α := Int × Int × (List S_impl_Version)) (fun z : Int × Int × (List S_impl_Version) => [(0, (.own 0 0 (z.2.2).length)), (1, (e_int z.1)), (10, (e_int z.2.1))]) (fun z : Int × Int × (List S_impl_Version) => [(0, (lob 4 e_impl_Version z.2.2))]) (fun z : Int × Int × (List S_impl_Version) => m_slices_symMergeCmpFunc_impl_Version_j1 rc p4 z.1 z.2.1 z.2.2) r (fun _ => by simp [hkeys]) ?_ ?_
    ·rintro ⟨t1, t10, o0⟩ h
     replace h : m_slices_symMergeCmpFunc_impl_Version_j1 rc p4 t1 t10 o0 = some _ := h
     refine LWP.join (α := (List S_impl_Version)) (fun z : (List S_impl_Version) => []) (fun z : (List S_impl_Version) => [(0, (lob 4 e_impl_Version z))]) (fun z : (List S_impl_Version) => m_slices_symMergeCmpFunc_impl_Version_j2 rc p4 z) r (fun _ => by simp [hkeys]) ?_ ?_
     ·rintro o0 h
      replace h : m_slices_symMergeCmpFunc_impl_Version_j2 rc p4 o0 = some _ := h
      obtain rfl := Option.some.inj h
      refine LWP.ret (QG.mk (.inr rfl) (.nil) (RetOK.many1 (.nil) (by simp) (by decide) rfl rfl rfl rfl rfl) rfl rfl)
     ·intro N26 hN26
      refine LWP.seq_k fun N27 hN27 => ?_
      refine LWP.region (l := [_,_]) ?_
      refine LWo.move (e_int t1) rfl (hn := ?_)
      refine LWo.assign (e_int t1) rfl (hn := ?_)
      refine LWo.nil (hN27 _ ?_)
      refine LWP.block ?_
      refine LWP.loopM (α := Int × Int × (List S_impl_Version)) (fun z : Int × Int × (List S_impl_Version) => [(0, (.own 0 0 (z.2.2).length)), (10, (e_int z.1)), (13, (e_int z.2.1))]) (fun z : Int × Int × (List S_impl_Version) => [(0, (lob 4 e_impl_Version z.2.2))]) (fun n2 (z : Int × Int × (List S_impl_Version)) => m_slices_symMergeCmpFunc_impl_Version_l2 rc p4 n2 z.1 z.2.1 z.2.2) r _ (t10, t1, o0) h (fun _ => rfl) (fun _ => by simp [hkeys]) ⟨rfl, rfl, rfl, trivial⟩ ⟨rfl, trivial⟩ ?_
      rintro n2 ⟨t10, t13, o0⟩ h N28 hN28
      replace h : m_slices_symMergeCmpFunc_impl_Version_l2 rc p4 (n2 + 1) t10 t13 o0 = some _ := h
      refine LWP.seq_k fun N30 hN30 => ?_
      refine LWP.seq_k fun N31 hN31 => ?_
      refine LWP.region (l := [_,_,_,_]) ?_
      refine LWo.move (e_int t13) rfl (hn := ?_)
      refine LWo.move (e_int t10) rfl (hn := ?_)
      refine bk h fun x32 e32 h => ?_
      refine LWo.int _ rfl rfl (sub_ck e32) (hn := ?_)
      refine LWo.int _ rfl rfl rfl (hn := ?_)
      refine LWo.nil (hN31 _ ?_)
      refine LWP.cond_split rfl (fun h33 => ?_) (fun h33 => ?_)
      ·have h := bT h33 h
       refine LWP.skip (hN30 _ ?_)
       refine LWP.seq_k fun N34 hN34 => ?_
       refine LWP.block ?_
       refine bk h fun x35 e35 h => ?_
       refine bk h fun x36 e36 h => ?_
       refine bk h fun x37 e37 h => ?_
       refine bk h fun x38 e38 h => ?_
       refine bk h fun x39 e39 h => ?_
       refine bk h fun x40 e40 h => ?_
       refine bk h fun x41 e41 h => ?_
       refine bk h fun x42 e42 h => ?_
       refine lk h fun y43 e43 h => ?_
       refine bk h fun x44 e44 h => ?_
       refine bk h fun x45 e45 h => ?_
       refine lk h fun y46 e46 h => ?_
       refine LWP.drawF (l := [_,_,_,_,_,_,_,_,_,_,_,_,_,_,_,_,_,_]) [] [0, 10, 13] [([0], []), ([13], []), ([0], []), ([13], []), ([64], []), ([0], []), ([13], []), ([67], []), ([66, 68], [0]), ([69], [0]), ([0], []), ([13], []), ([71, 72], [0]), ([73], [0]), ([61, 62], [0]), ([70, 75], [0]), ([63, 65], [0]), ([74, 76], [0])] [0, 10, 13] [0] mixed (by kernel_rfl) rfl (by decide) ?_
       refine dq 61 rfl (fun _ g u h => LWo.move (.own 0 0 (o0).length) u.1 (hn := .nil (zn g))) ?_
       refine dq 62 rfl (fun _ g u h => LWo.move (e_int t13) u.1 (hn := .nil (zn g))) ?_
       refine dq 63 rfl (fun _ g u h => LWo.move (.own 0 0 (o0).length) u.1 (hn := .nil (zn g))) ?_
       refine dq 64 rfl (fun _ g u h => LWo.move (e_int t13) u.1 (hn := .nil (zn g))) ?_
       refine dq 65 rfl (fun _ g u h => LWo.int _ u.1 rfl (add_ck e35) (hn := .nil (zn g))) ?_
       refine dq 66 rfl (fun _ g u h => LWo.move (.own 0 0 (o0).length) u.1 (hn := .nil (zn g))) ?_
       refine dq 67 rfl (fun _ g u h => LWo.move (e_int t13) u.1 (hn := .nil (zn g))) ?_
       refine dq 68 rfl (fun _ g u h => LWo.int _ u.1 rfl (add_ck e36) (hn := .nil (zn g))) ?_
       refine dq 69 rfl (fun _ g u h => LWo.indexO e37 rfl u_Limpl_Version s_impl_Version u.1 u.2.1 h.1 (hn := .nil (zn g))) ?_
       refine dq 70 rfl (fun _ g u h => LWo.loadON ((e_impl_Version x38)).cells e38 g_impl_Version s_impl_Version u.1 h.1 rfl rfl (hn := .nil (zn g))) ?_
       refine dq 71 rfl (fun _ g u h => LWo.move (.own 0 0 (o0).length) u.1 (hn := .nil (zn g))) ?_
       refine dq 72 rfl (fun _ g u h => LWo.move (e_int t13) u.1 (hn := .nil (zn g))) ?_
       refine dq 73 rfl (fun _ g u h => LWo.indexO e39 rfl u_Limpl_Version s_impl_Version u.1 u.2.1 h.1 (hn := .nil (zn g))) ?_
       refine dq 74 rfl (fun _ g u h => LWo.loadON ((e_impl_Version x40)).cells e40 g_impl_Version s_impl_Version u.1 h.1 rfl rfl (hn := .nil (zn g))) ?_
       refine dq 75 rfl (fun _ g u h => LWo.indexO e41 rfl u_Limpl_Version s_impl_Version u.1 u.2.1 h.1 (hn := .nil (zn g))) ?_
       refine ⟨rfl, .upd none .junk 0 _, (fun _ h => by cases h), fun _ g u h => LWo.storeO y43 e42 s_impl_Version u.2.1 u.1 rfl rfl rfl h.1 rfl (by rw [e43]; rfl) (hn := LWo.nil ⟨rfl, .inl rfl, Ef.good_ok (e := .upd none .junk 0 _) (fun _ h => by cases h) g⟩), ?_⟩
       refine dq 76 rfl (fun _ g u h => LWo.indexO e44 List.length_set.symm u_Limpl_Version s_impl_Version u.1 u.2.1 h.1 (hn := .nil (zn g))) ?_
       refine ⟨rfl, .upd none .junk 0 _, (fun _ h => by cases h), fun _ g u h => LWo.storeO y46 e45 s_impl_Version u.2.1 u.1 rfl rfl rfl h.1 rfl (by rw [e46]; rfl) (hn := LWo.nil ⟨rfl, .inl rfl, Ef.good_ok (e := .upd none .junk 0 _) (fun _ h => by cases h) g⟩), ?_⟩
       refine ⟨rfl, by kernel_rfl, hN34 _ ?_⟩
       refine LWP.region (l := [_,_,_]) ?_
       refine LWo.move (e_int t13) rfl (hn := ?_)
       refine bk h fun x47 e47 h => ?_
       refine LWo.int _ rfl rfl (add_ck e47) (hn := ?_)
       refine LWo.assign (e_int x47) rfl (hn := ?_)
       refine LWo.nil (hN28 (t10, x47, ((o0.set (t13).toNat y43).set (x35).toNat y46)) _ ⟨(congrArg (LV.own 0 0) (List.length_set.symm.trans List.length_set.symm)), rfl, rfl, trivial⟩ ⟨rfl, trivial⟩ h)
      ·have h := bF h33 h
       refine LWP.exit (hN26 o0 _ trivial ⟨rfl, trivial⟩ h)
    ·intro N7 hN7
     refine LWP.block ?_
     refine LWP.loopM (α := Int × Int × Int × (List S_impl_Version)) (fun z : Int × Int × Int × (List S_impl_Version) => [(0, (.own 0 0 (z.2.2.2).length)), (1, (e_int z.1)), (4, (.clo f4 q4)), (10, (e_int z.2.1)), (11, (e_int z.2.2.1))]) (fun z : Int × Int × Int × (List S_impl_Version) => [(0, (lob 4 e_impl_Version z.2.2.2))]) (fun n1 (z : Int × Int × Int × (List S_impl_Version)) => m_slices_symMergeCmpFunc_impl_Version_l1 rc p4 n1 z.1 z.2.1 z.2.2.1 z.2.2.2) r _ (a1, a2, a3, o0) h (fun _ => rfl) (fun _ => by simp [hkeys]) ⟨rfl, rfl, rfl, rfl, rfl, trivial⟩ ⟨rfl, trivial⟩ ?_
     rintro n1 ⟨t1, t10, t11, o0⟩ h N8 hN8
     replace h : m_slices_symMergeCmpFunc_impl_Version_l1 rc p4 (n1 + 1) t1 t10 t11 o0 = some _ := h
     refine LWP.seq_k fun N10 hN10 => ?_
     refine LWP.seq_k fun N11 hN11 => ?_
     refine LWP.region (l := [_,_,_]) ?_
     refine LWo.move (e_int t10) rfl (hn := ?_)
     refine LWo.move (e_int t11) rfl (hn := ?_)
     refine LWo.int _ rfl rfl rfl (hn := ?_)
     refine LWo.nil (hN11 _ ?_)
     refine LWP.cond_split rfl (fun h12 => ?_) (fun h12 => ?_)
     ·have h := bT h12 h
      refine LWP.skip (hN10 _ ?_)
      refine LWP.block ?_
      refine LWP.seq_k fun N13 hN13 => ?_
      refine LWP.region (l := [_,_,_,_,_,_,_]) ?_
      refine LWo.move (e_int t10) rfl (hn := ?_)
      refine LWo.move (e_int t11) rfl (hn := ?_)
      refine bk h fun x14 e14 h => ?_
      refine LWo.int _ rfl rfl (add_ck e14) (hn := ?_)
      refine bk h fun x15 e15 h => ?_
      refine LWo.convIU e15 u_int u_uint rfl (hn := ?_)
      refine bk h fun x16 e16 h => ?_
      refine LWo.shrU e16 rfl rfl (hn := ?_)
      refine bk h fun x17 e17 h => ?_
      refine LWo.convUI e17 u_uint u_int rfl (hn := ?_)
      refine LWo.assign (e_int x17) rfl (hn := ?_)
      refine LWo.nil (hN13 _ ?_)
      refine LWP.seq_k fun N18 hN18 => ?_
      refine bk h fun x19 e19 h => ?_
      refine bk h fun x20 e20 h => ?_
      refine bk h fun x21 e21 h => ?_
      refine bk h fun x22 e22 h => ?_
      refine bk h fun x23 e23 h => ?_
      refine LWP.drawF (l := [_,_,_,_,_,_,_,_,_,_,_]) [] [0, 1, 4, 10, 11, 12] [([4], []), ([0], []), ([12], []), ([41, 42], [0]), ([43], [0]), ([0], []), ([1], []), ([45, 46], [0]), ([47], [0]), ([40, 44, 48], []), ([49], [])] [0, 1, 4, 10, 11, 12, 50] [0] mixed (by kernel_rfl) rfl (by decide) ?_
      refine dq 40 rfl (fun _ g u h => LWo.move (.clo f4 q4) u.1 (hn := .nil (zn g))) ?_
      refine dq 41 rfl (fun _ g u h => LWo.move (.own 0 0 (o0).length) u.1 (hn := .nil (zn g))) ?_
      refine dq 42 rfl (fun _ g u h => LWo.move (e_int x17) u.1 (hn := .nil (zn g))) ?_
      refine dq 43 rfl (fun _ g u h => LWo.indexO e19 rfl u_Limpl_Version s_impl_Version u.1 u.2.1 h.1 (hn := .nil (zn g))) ?_
      refine dq 44 rfl (fun _ g u h => LWo.loadON ((e_impl_Version x20)).cells e20 g_impl_Version s_impl_Version u.1 h.1 rfl rfl (hn := .nil (zn g))) ?_
      refine dq 45 rfl (fun _ g u h => LWo.move (.own 0 0 (o0).length) u.1 (hn := .nil (zn g))) ?_
      refine dq 46 rfl (fun _ g u h => LWo.move (e_int t1) u.1 (hn := .nil (zn g))) ?_
      refine dq 47 rfl (fun _ g u h => LWo.indexO e21 rfl u_Limpl_Version s_impl_Version u.1 u.2.1 h.1 (hn := .nil (zn g))) ?_
      refine dq 48 rfl (fun _ g u h => LWo.loadON ((e_impl_Version x22)).cells e22 g_impl_Version s_impl_Version u.1 h.1 rfl rfl (hn := .nil (zn g))) ?_
      refine dq 49 rfl (fun _ g u h => LWo.vcall u.1 (avq2 u.2.1 u.2.2.1) (hf4 _ _ _ e23) .refl (hn := .nil (zn g))) ?_
      refine dq 50 rfl (fun _ g u h => LWo.int _ u.1 rfl rfl (hn := .nil (zn g))) ?_
      refine ⟨rfl, by kernel_rfl, hN18 _ ?_⟩
      refine LWP.cond_split rfl (fun h24 => ?_) (fun h24 => ?_)
      ·have h := bT h24 h
       refine LWP.region (l := [_,_,_]) ?_
       refine LWo.move (e_int x17) rfl (hn := ?_)
       refine bk h fun x25 e25 h => ?_
       refine LWo.int _ rfl rfl (add_ck e25) (hn := ?_)
       refine LWo.assign (e_int x25) rfl (hn := ?_)
       refine LWo.nil (hN8 (t1, x25, t11, o0) _ ⟨rfl, rfl, rfl, rfl, rfl, trivial⟩ ⟨rfl, trivial⟩ h)
      ·have h := bF h24 h
       refine LWP.region (l := [_,_]) ?_
       refine LWo.move (e_int x17) rfl (hn := ?_)
       refine LWo.assign (e_int x17) rfl (hn := ?_)
       refine LWo.nil (hN8 (t1, t10, x17, o0) _ ⟨rfl, rfl, rfl, rfl, rfl, trivial⟩ ⟨rfl, trivial⟩ h)
     ·have h := bF h12 h
      refine LWP.exit (hN7 (t1, t10, o0) _ ⟨rfl, rfl, rfl, trivial⟩ ⟨rfl, trivial⟩ h)
   ·have h := bF h4 h
    refine LWP.skip (hN1 (a1, a2, a3, o0) _ ⟨rfl, rfl, rfl, rfl, rfl, trivial⟩ ⟨rfl, trivial⟩ h)
theorem c_slices_symMergeCmpFunc_impl_Version (fu : Nat) : ∀ (o0 : (List S_impl_Version)) (a1 : Int) (a2 : Int) (a3 : Int) (p4 : S_impl_Version → S_impl_Version → Option Int) (f4 : FuncId) (q4 : List LV) (hq4 : ∀ k, LV.at?.atL k q4 = false) (hf4 : ∀ a0 a1 v, p4 a0 a1 = some v → Ret Try.prog f4 (e_impl_Version a0 :: e_impl_Version a1 :: q4) (e_int v)) (r : (List S_impl_Version)) (h : m_slices_symMergeCmpFunc_impl_Version fu o0 a1 a2 a3 p4 = some r), Does Try.prog f_slices_symMergeCmpFunc_impl_Version [.own 0 0 o0.length, e_int a1, e_int a2, e_int a3, .clo f4 q4] [(0, (lob 4 e_impl_Version o0))] (fun x hh => x = .tup [] ∧ hh = [(0, (lob 4 e_impl_Version r))]) := by
  induction fu with
  | zero => intro o0 a1 a2 a3 p4 f4 q4 hq4 hf4 r h; cases h
  | succ fu ih => intro o0 a1 a2 a3 p4 f4 q4 hq4 hf4 r h; exact cb_slices_symMergeCmpFunc_impl_Version (m_slices_symMergeCmpFunc_impl_Version fu) ih o0 a1 a2 a3 p4 f4 q4 hq4 hf4 r h
theorem k_slices_symMergeCmpFunc_impl_Version (fu : Nat) (o0 : (List S_impl_Version)) (a1 : Int) (a2 : Int) (a3 : Int) (p4 : S_impl_Version → S_impl_Version → Option Int) (f4 : FuncId) (q4 : List LV) (hq4 : ∀ k, LV.at?.atL k q4 = false) (hf4 : ∀ a0 a1 v, p4 a0 a1 = some v → Ret Try.prog f4 (e_impl_Version a0 :: e_impl_Version a1 :: q4) (e_int v)) (r : (List S_impl_Version)) (h : m_slices_symMergeCmpFunc_impl_Version fu o0 a1 a2 a3 p4 = some r) (k : Nat) : Does Try.prog f_slices_symMergeCmpFunc_impl_Version [.own k 0 o0.length, e_int a1, e_int a2, e_int a3, .clo f4 q4] [(k, (lob 4 e_impl_Version o0))] (fun x hh => x = .tup [] ∧ hh = [(k, (lob 4 e_impl_Version r))]) :=
  Does.nameO (c_slices_symMergeCmpFunc_impl_Version fu o0 a1 a2 a3 p4 f4 q4 hq4 hf4 r h) (fun k => (atC rfl (atC rfl (atC rfl (atC (hq4 k) (atN _)))))) k

def m_slices_stableCmpFunc_impl_Version_j3 (p2 : S_impl_Version → S_impl_Version → Option Int) (k2 : Int → Int → (List S_impl_Version) → Option (List S_impl_Version)) (t1 : Int) (t6 : Int) (o0 : (List S_impl_Version)) : Option (List S_impl_Version) :=
  (ckI (t6 * (2 : Int))).bind fun x44 =>
  k2 t1 x44 o0
def m_slices_stableCmpFunc_impl_Version_j2 (p2 : S_impl_Version → S_impl_Version → Option Int) (k2 : Int → Int → (List S_impl_Version) → Option (List S_impl_Version)) (t1 : Int) (t6 : Int) (t7 : Int) (o0 : (List S_impl_Version)) : Option (List S_impl_Version) :=
  (ckI (t7 + t6)).bind fun x39 =>
  bif decide (x39 < t1) then ((m_slices_symMergeCmpFunc_impl_Version 1000000000 o0 t7 x39 t1 p2).bind fun x42 =>
    (lenQ x42.length o0.length ()).bind fun u43 =>
    m_slices_stableCmpFunc_impl_Version_j3 p2 k2 t1 t6 x42)
  else (m_slices_stableCmpFunc_impl_Version_j3 p2 k2 t1 t6 o0)
def m_slices_stableCmpFunc_impl_Version_l3 (p2 : S_impl_Version → S_impl_Version → Option Int) (k2 : Int → Int → (List S_impl_Version) → Option (List S_impl_Version)) : Nat → Int → Int → Int → Int → (List S_impl_Version) → Option (List S_impl_Version)
  | 0, _, _, _, _, _ => none
  | n3 + 1, t1, t6, t7, t8, o0 =>
    bif decide (t8 ≤ t1) then ((ckI (t7 + t6)).bind fun x31 =>
    (m_slices_symMergeCmpFunc_impl_Version 1000000000 o0 t7 x31 t8 p2).bind fun x32 =>
    (lenQ x32.length o0.length ()).bind fun u33 =>
    (ckI ((2 : Int) * t6)).bind fun x35 =>
    (ckI (t8 + x35)).bind fun x36 =>
    (m_slices_stableCmpFunc_impl_Version_l3 p2 k2 n3) t1 t6 t8 x36 x32)
    else (m_slices_stableCmpFunc_impl_Version_j2 p2 k2 t1 t6 t7 o0)
def m_slices_stableCmpFunc_impl_Version_l2 (p2 : S_impl_Version → S_impl_Version → Option Int) : Nat → Int → Int → (List S_impl_Version) → Option (List S_impl_Version)
  | 0, _, _, _ => none
  | n2 + 1, t1, t6, o0 =>
    bif decide (t6 < t1) then ((ckI ((2 : Int) * t6)).bind fun x23 =>
    m_slices_stableCmpFunc_impl_Version_l3 p2 (m_slices_stableCmpFunc_impl_Version_l2 p2 n2) ((t1 - x23).toNat + 2) t1 t6 (0 : Int) x23 o0)
    else (some o0)
def m_slices_stableCmpFunc_impl_Version_j1 (p2 : S_impl_Version → S_impl_Version → Option Int) (t1 : Int) (t6 : Int) (t7 : Int) (o0 : (List S_impl_Version)) : Option (List S_impl_Version) :=
  (m_slices_insertionSortCmpFunc_impl_Version o0 t7 t1 p2).bind fun x15 =>
  (lenQ x15.length o0.length ()).bind fun u16 =>
  m_slices_stableCmpFunc_impl_Version_l2 p2 ((t1 - t6).toNat + 1) t1 t6 x15
def m_slices_stableCmpFunc_impl_Version_l1 (p2 : S_impl_Version → S_impl_Version → Option Int) : Nat → Int → Int → Int → Int → (List S_impl_Version) → Option (List S_impl_Version)
  | 0, _, _, _, _, _ => none
  | n1 + 1, t1, t6, t7, t8, o0 =>
    bif decide (t8 ≤ t1) then ((m_slices_insertionSortCmpFunc_impl_Version o0 t7 t8 p2).bind fun x10 =>
    (lenQ x10.length o0.length ()).bind fun u11 =>
    (ckI (t8 + t6)).bind fun x13 =>
    (m_slices_stableCmpFunc_impl_Version_l1 p2 n1) t1 t6 t8 x13 x10)
    else (m_slices_stableCmpFunc_impl_Version_j1 p2 t1 t6 t7 o0)
def m_slices_stableCmpFunc_impl_Version (o0 : (List S_impl_Version)) (a1 : Int) (p2 : S_impl_Version → S_impl_Version → Option Int) : Option (List S_impl_Version) :=
  m_slices_stableCmpFunc_impl_Version_l1 p2 ((a1 - (20 : Int)).toNat + 2) a1 (20 : Int) (0 : Int) (20 : Int) o0
theorem c_slices_stableCmpFunc_impl_Version (o0 : (List S_impl_Version)) (a1 : Int) (p2 : S_impl_Version → S_impl_Version → Option Int) (f2 : FuncId) (q2 : List LV) (hq2 : ∀ k, LV.at?.atL k q2 = false) (hf2 : ∀ a0 a1 v, p2 a0 a1 = some v → Ret Try.prog f2 (e_impl_Version a0 :: e_impl_Version a1 :: q2) (e_int v)) (r : (List S_impl_Version)) (h : m_slices_stableCmpFunc_impl_Version o0 a1 p2 = some r) : Does Try.prog f_slices_stableCmpFunc_impl_Version [.own 0 0 o0.length, e_int a1, .clo f2 q2] [(0, (lob 4 e_impl_Version o0))] (fun x hh => x = .tup [] ∧ hh = [(0, (lob 4 e_impl_Version r))]) := by
  refine Does.goG [0] F_slices_stableCmpFunc_impl_Version rfl e_slices_stableCmpFunc_impl_Version n_slices_stableCmpFunc_impl_Version rfl (rvs := []) rfl rfl ?_
  intro w0 ok0 lent ρ0
  refine LWP.seq_k fun N1 hN1 => ?_
  refine LWP.region (l := [_]) ?_
  refine LWo.assign (e_int (20 : Int)) rfl (hn := ?_)
  refine LWo.nil (hN1 _ ?_)
  refine LWP.seq_k fun N2 hN2 => ?_
  refine LWP.region (l := [_,_,_]) ?_
  refine LWo.move (e_int (20 : Int)) rfl (hn := ?_)
  refine LWo.assign (e_int (0 : Int)) rfl (hn := ?_)
  refine LWo.assign (e_int (20 : Int)) rfl (hn := ?_)
  refine LWo.nil (hN2 _ ?_)
  refine LWP.join (α := Int × Int × Int × (List S_impl_Version)) (fun z : Int × Int × Int × (List S_impl_Version) => [(0, (.own 0 0 (z.2.2.2).length)), (1, (e_int z.1)), (2, (.clo f2 q2)), (6, (e_int z.2.1)), (7, (e_int z.2.2.1))]) (fun z : Int × Int × Int × (List S_impl_Version) => [(0, (lob 4 e_impl_Version z.2.2.2))]) (fun z : Int × Int × Int × (List S_impl_Version) => m_slices_stableCmpFunc_impl_Version_j1 p2 z.1 z.2.1 z.2.2.1 z.2.2.2) r (fun _ => by simp [hkeys]) ?_ ?_
  ·rintro ⟨t1, t6, t7, o0⟩ h
   replace h : m_slices_stableCmpFunc_impl_Version_j1 p2 t1 t6 t7 o0 = some _ := h
   refine LWP.seq_k fun N14 hN14 => ?_
   refine LWP.region (l := [_,_,_,_,_]) ?_
   refine LWo.move (.own 0 0 (o0).length) rfl (hn := ?_)
   refine LWo.move (e_int t7) rfl (hn := ?_)
   refine LWo.move (e_int t1) rfl (hn := ?_)
   refine LWo.move (.clo f2 q2) rfl (hn := ?_)
   refine bk h fun x15 e15 h => ?_
   refine bk h fun u16 e16 h => ?_
   refine LWo.ucallM (e := e_impl_Version) rfl rfl (k_slices_insertionSortCmpFunc_impl_Version _ _ _ _ f2 q2 hq2 hf2 _ e15 0) rfl rfl (some 27) rfl (hn := ?_)
   refine LWo.nil (hN14 _ ?_)
   refine LWP.block ?_
   refine LWP.loopM (α := Int × Int × (List S_impl_Version)) (fun z : Int × Int × (List S_impl_Version) => [(0, (.own 0 0 (z.2.2).length)), (1, (e_int z.1)), (2, (.clo f2 q2)), (6, (e_int z.2.1))]) (fun z : Int × Int × (List S_impl_Version) => [(0, (lob 4 e_impl_Version z.2.2))]) (fun n2 (z : Int × Int × (List S_impl_Version)) => m_slices_stableCmpFunc_impl_Version_l2 p2 n2 z.1 z.2.1 z.2.2) r _ (t1, t6, x15) h (fun _ => rfl) (fun _ => by simp [hkeys]) ⟨(congrArg (LV.own 0 0) ((lenQ_some e16).1.symm)), rfl, rfl, rfl, trivial⟩ ⟨rfl, trivial⟩ ?_
   rintro n2 ⟨t1, t6, o0⟩ h N17 hN17
   replace h : m_slices_stableCmpFunc_impl_Version_l2 p2 (n2 + 1) t1 t6 o0 = some _ := h
   refine LWP.seq_k fun N19 hN19 => ?_
   refine LWP.seq_k fun N20 hN20 => ?_
   refine LWP.region (l := [_,_,_]) ?_
   refine LWo.move (e_int t6) rfl (hn := ?_)
   refine LWo.move (e_int t1) rfl (hn := ?_)
   refine LWo.int _ rfl rfl rfl (hn := ?_)
   refine LWo.nil (hN20 _ ?_)
   refine LWP.cond_split rfl (fun h21 => ?_) (fun h21 => ?_)
   ·have h := bT h21 h
    refine LWP.skip (hN19 _ ?_)
    refine LWP.block ?_
    refine LWP.seq_k fun N22 hN22 => ?_
    refine LWP.region (l := [_,_,_,_]) ?_
    refine LWo.move (e_int t6) rfl (hn := ?_)
    refine bk h fun x23 e23 h => ?_
    refine LWo.int _ rfl rfl (mul_ck e23) (hn := ?_)
    refine LWo.assign (e_int (0 : Int)) rfl (hn := ?_)
    refine LWo.assign (e_int x23) rfl (hn := ?_)
    refine LWo.nil (hN22 _ ?_)
    refine LWP.join (α := Int × Int × Int × (List S_impl_Version)) (fun z : Int × Int × Int × (List S_impl_Version) => [(0, (.own 0 0 (z.2.2.2).length)), (1, (e_int z.1)), (2, (.clo f2 q2)), (6, (e_int z.2.1)), (7, (e_int z.2.2.1))]) (fun z : Int × Int × Int × (List S_impl_Version) => [(0, (lob 4 e_impl_Version z.2.2.2))]) (fun z : Int × Int × Int × (List S_impl_Version) => m_slices_stableCmpFunc_impl_Version_j2 p2 (m_slices_stableCmpFunc_impl_Version_l2 p2 n2) z.1 z.2.1 z.2.2.1 z.2.2.2) r (fun _ => by simp [hkeys]) ?_ ?_
    ·rintro ⟨t1, t6, t7, o0⟩ h
     replace h : m_slices_stableCmpFunc_impl_Version_j2 p2 (m_slices_stableCmpFunc_impl_Version_l2 p2 n2) t1 t6 t7 o0 = some _ := h
     refine LWP.join (α := Int × Int × (List S_impl_Version)) (fun z : Int × Int × (List S_impl_Version) => [(0, (.own 0 0 (z.2.2).length)), (1, (e_int z.1)), (2, (.clo f2 q2)), (6, (e_int z.2.1))]) (fun z : Int × Int × (List S_impl_Version) => [(0, (lob 4 e_impl_Version z.2.2))]) (fun z : Int × Int × (List S_impl_Version) => m_slices_stableCmpFunc_impl_Version_j3 p2 (m_slices_stableCmpFunc_impl_Version_l2 p2 n2) z.1 z.2.1 z.2.2) r (fun _ => by simp [hkeys]) ?_ ?_
     ·rintro ⟨t1, t6, o0⟩ h
      replace h : m_slices_stableCmpFunc_impl_Version_j3 p2 (m_slices_stableCmpFunc_impl_Version_l2 p2 n2) t1 t6 o0 = some _ := h
      refine LWP.region (l := [_,_,_]) ?_
      refine LWo.move (e_int t6) rfl (hn := ?_)
      refine bk h fun x44 e44 h => ?_
      refine LWo.int _ rfl rfl (mul_ck e44) (hn := ?_)
      refine LWo.assign (e_int x44) rfl (hn := ?_)
      refine LWo.nil (hN17 (t1, x44, o0) _ ⟨rfl, rfl, rfl, rfl, trivial⟩ ⟨rfl, trivial⟩ h)
     ·intro N37 hN37
      refine LWP.seq_k fun N38 hN38 => ?_
      refine LWP.region (l := [_,_,_,_]) ?_
      refine LWo.move (e_int t7) rfl (hn := ?_)
      refine LWo.move (e_int t6) rfl (hn := ?_)
      refine bk h fun x39 e39 h => ?_
      refine LWo.int _ rfl rfl (add_ck e39) (hn := ?_)
      refine LWo.assign (e_int x39) rfl (hn := ?_)
      refine LWo.nil (hN38 _ ?_)
      refine LWP.seq_k fun N40 hN40 => ?_
      refine LWP.region (l := [_,_,_]) ?_
      refine LWo.move (e_int x39) rfl (hn := ?_)
      refine LWo.move (e_int t1) rfl (hn := ?_)
      refine LWo.int _ rfl rfl rfl (hn := ?_)
      refine LWo.nil (hN40 _ ?_)
      refine LWP.cond_split rfl (fun h41 => ?_) (fun h41 => ?_)
      ·have h := bT h41 h
       refine LWP.region (l := [_,_,_,_,_,_]) ?_
       refine LWo.move (.own 0 0 (o0).length) rfl (hn := ?_)
       refine LWo.move (e_int t7) rfl (hn := ?_)
       refine LWo.move (e_int x39) rfl (hn := ?_)
       refine LWo.move (e_int t1) rfl (hn := ?_)
       refine LWo.move (.clo f2 q2) rfl (hn := ?_)
       refine bk h fun x42 e42 h => ?_
       refine bk h fun u43 e43 h => ?_
       refine LWo.ucallM (e := e_impl_Version) rfl rfl (k_slices_symMergeCmpFunc_impl_Version 1000000000 _ _ _ _ _ f2 q2 hq2 hf2 _ e42 0) rfl rfl (some 60) rfl (hn := ?_)
       refine LWo.nil (hN37 (t1, t6, x42) _ ⟨(congrArg (LV.own 0 0) ((lenQ_some e43).1.symm)), rfl, rfl, rfl, trivial⟩ ⟨rfl, trivial⟩ h)
      ·have h := bF h41 h
       refine LWP.skip (hN37 (t1, t6, o0) _ ⟨rfl, rfl, rfl, rfl, trivial⟩ ⟨rfl, trivial⟩ h)
    ·intro N24 hN24
     refine LWP.block ?_
     refine LWP.loopM (α := Int × Int × Int × Int × (List S_impl_Version)) (fun z : Int × Int × Int × Int × (List S_impl_Version) => [(0, (.own 0 0 (z.2.2.2.2).length)), (1, (e_int z.1)), (2, (.clo f2 q2)), (6, (e_int z.2.1)), (7, (e_int z.2.2.1)), (8, (e_int z.2.2.2.1))]) (fun z : Int × Int × Int × Int × (List S_impl_Version) => [(0, (lob 4 e_impl_Version z.2.2.2.2))]) (fun n3 (z : Int × Int × Int × Int × (List S_impl_Version)) => m_slices_stableCmpFunc_impl_Version_l3 p2 (m_slices_stableCmpFunc_impl_Version_l2 p2 n2) n3 z.1 z.2.1 z.2.2.1 z.2.2.2.1 z.2.2.2.2) r _ (t1, t6, (0 : Int), x23, o0) h (fun _ => rfl) (fun _ => by simp [hkeys]) ⟨rfl, rfl, rfl, rfl, rfl, rfl, trivial⟩ ⟨rfl, trivial⟩ ?_
     rintro n3 ⟨t1, t6, t7, t8, o0⟩ h N25 hN25
     replace h : m_slices_stableCmpFunc_impl_Version_l3 p2 (m_slices_stableCmpFunc_impl_Version_l2 p2 n2) (n3 + 1) t1 t6 t7 t8 o0 = some _ := h
     refine LWP.seq_k fun N27 hN27 => ?_
     refine LWP.seq_k fun N28 hN28 => ?_
     refine LWP.region (l := [_,_,_]) ?_
     refine LWo.move (e_int t8) rfl (hn := ?_)
     refine LWo.move (e_int t1) rfl (hn := ?_)
     refine LWo.int _ rfl rfl rfl (hn := ?_)
     refine LWo.nil (hN28 _ ?_)
     refine LWP.cond_split rfl (fun h29 => ?_) (fun h29 => ?_)
     ·have h := bT h29 h
      refine LWP.skip (hN27 _ ?_)
      refine LWP.block ?_
      refine LWP.seq_k fun N30 hN30 => ?_
      refine LWP.region (l := [_,_,_,_,_,_,_,_]) ?_
      refine LWo.move (.own 0 0 (o0).length) rfl (hn := ?_)
      refine LWo.move (e_int t7) rfl (hn := ?_)
      refine LWo.move (e_int t7) rfl (hn := ?_)
      refine LWo.move (e_int t6) rfl (hn := ?_)
      refine bk h fun x31 e31 h => ?_
      refine LWo.int _ rfl rfl (add_ck e31) (hn := ?_)
      refine LWo.move (e_int t8) rfl (hn := ?_)
      refine LWo.move (.clo f2 q2) rfl (hn := ?_)
      refine bk h fun x32 e32 h => ?_
      refine bk h fun u33 e33 h => ?_
      refine LWo.ucallM (e := e_impl_Version) rfl rfl (k_slices_symMergeCmpFunc_impl_Version 1000000000 _ _ _ _ _ f2 q2 hq2 hf2 _ e32 0) rfl rfl (some 43) rfl (hn := ?_)
      refine LWo.nil (hN30 _ ?_)
      refine LWP.seq_k fun N34 hN34 => ?_
      refine LWP.region (l := [_,_]) ?_
      refine LWo.move (e_int t8) rfl (hn := ?_)
      refine LWo.assign (e_int t8) rfl (hn := ?_)
      refine LWo.nil (hN34 _ ?_)
      refine LWP.region (l := [_,_,_,_,_]) ?_
      refine LWo.move (e_int t8) rfl (hn := ?_)
      refine LWo.move (e_int t6) rfl (hn := ?_)
      refine bk h fun x35 e35 h => ?_
      refine LWo.int _ rfl rfl (mul_ck e35) (hn := ?_)
      refine bk h fun x36 e36 h => ?_
      refine LWo.int _ rfl rfl (add_ck e36) (hn := ?_)
      refine LWo.assign (e_int x36) rfl (hn := ?_)
      refine LWo.nil (hN25 (t1, t6, t8, x36, x32) _ ⟨(congrArg (LV.own 0 0) ((lenQ_some e33).1.symm)), rfl, rfl, rfl, rfl, rfl, trivial⟩ ⟨rfl, trivial⟩ h)
     ·have h := bF h29 h
      refine LWP.exit (hN24 (t1, t6, t7, o0) _ ⟨rfl, rfl, rfl, rfl, rfl, trivial⟩ ⟨rfl, trivial⟩ h)
   ·have h := bF h21 h
    obtain rfl := Option.some.inj h
    refine LWP.exit (QG.mk (.inl rfl) (.nil) (RetOK.many1 (.nil) (by simp) (by decide) rfl rfl rfl rfl rfl) rfl rfl)
  ·intro N3 hN3
   refine LWP.block ?_
   refine LWP.loopM (α := Int × Int × Int × Int × (List S_impl_Version)) (fun z : Int × Int × Int × Int × (List S_impl_Version) => [(0, (.own 0 0 (z.2.2.2.2).length)), (1, (e_int z.1)), (2, (.clo f2 q2)), (6, (e_int z.2.1)), (7, (e_int z.2.2.1)), (8, (e_int z.2.2.2.1))]) (fun z : Int × Int × Int × Int × (List S_impl_Version) => [(0, (lob 4 e_impl_Version z.2.2.2.2))]) (fun n1 (z : Int × Int × Int × Int × (List S_impl_Version)) => m_slices_stableCmpFunc_impl_Version_l1 p2 n1 z.1 z.2.1 z.2.2.1 z.2.2.2.1 z.2.2.2.2) r _ (a1, (20 : Int), (0 : Int), (20 : Int), o0) h (fun _ => rfl) (fun _ => by simp [hkeys]) ⟨rfl, rfl, rfl, rfl, rfl, rfl, trivial⟩ ⟨rfl, trivial⟩ ?_
   rintro n1 ⟨t1, t6, t7, t8, o0⟩ h N4 hN4
   replace h : m_slices_stableCmpFunc_impl_Version_l1 p2 (n1 + 1) t1 t6 t7 t8 o0 = some _ := h
   refine LWP.seq_k fun N6 hN6 => ?_
   refine LWP.seq_k fun N7 hN7 => ?_
   refine LWP.region (l := [_,_,_]) ?_
   refine LWo.move (e_int t8) rfl (hn := ?_)
   refine LWo.move (e_int t1) rfl (hn := ?_)
   refine LWo.int _ rfl rfl rfl (hn := ?_)
   refine LWo.nil (hN7 _ ?_)
   refine LWP.cond_split rfl (fun h8 => ?_) (fun h8 => ?_)
   ·have h := bT h8 h
    refine LWP.skip (hN6 _ ?_)
    refine LWP.block ?_
    refine LWP.seq_k fun N9 hN9 => ?_
    refine LWP.region (l := [_,_,_,_,_]) ?_
    refine LWo.move (.own 0 0 (o0).length) rfl (hn := ?_)
    refine LWo.move (e_int t7) rfl (hn := ?_)
    refine LWo.move (e_int t8) rfl (hn := ?_)
    refine LWo.move (.clo f2 q2) rfl (hn := ?_)
    refine bk h fun x10 e10 h => ?_
    refine bk h fun u11 e11 h => ?_
    refine LWo.ucallM (e := e_impl_Version) rfl rfl (k_slices_insertionSortCmpFunc_impl_Version _ _ _ _ f2 q2 hq2 hf2 _ e10 0) rfl rfl (some 18) rfl (hn := ?_)
    refine LWo.nil (hN9 _ ?_)
    refine LWP.seq_k fun N12 hN12 => ?_
    refine LWP.region (l := [_,_]) ?_
    refine LWo.move (e_int t8) rfl (hn := ?_)
    refine LWo.assign (e_int t8) rfl (hn := ?_)
    refine LWo.nil (hN12 _ ?_)
    refine LWP.region (l := [_,_,_,_]) ?_
    refine LWo.move (e_int t8) rfl (hn := ?_)
    refine LWo.move (e_int t6) rfl (hn := ?_)
    refine bk h fun x13 e13 h => ?_
    refine LWo.int _ rfl rfl (add_ck e13) (hn := ?_)
    refine LWo.assign (e_int x13) rfl (hn := ?_)
    refine LWo.nil (hN4 (t1, t6, t8, x13, x10) _ ⟨(congrArg (LV.own 0 0) ((lenQ_some e11).1.symm)), rfl, rfl, rfl, rfl, rfl, trivial⟩ ⟨rfl, trivial⟩ h)
   ·have h := bF h8 h
    refine LWP.exit (hN3 (t1, t6, t7, o0) _ ⟨rfl, rfl, rfl, rfl, rfl, trivial⟩ ⟨rfl, trivial⟩ h)
theorem k_slices_stableCmpFunc_impl_Version (o0 : (List S_impl_Version)) (a1 : Int) (p2 : S_impl_Version → S_impl_Version → Option Int) (f2 : FuncId) (q2 : List LV) (hq2 : ∀ k, LV.at?.atL k q2 = false) (hf2 : ∀ a0 a1 v, p2 a0 a1 = some v → Ret Try.prog f2 (e_impl_Version a0 :: e_impl_Version a1 :: q2) (e_int v)) (r : (List S_impl_Version)) (h : m_slices_stableCmpFunc_impl_Version o0 a1 p2 = some r) (k : Nat) : Does Try.prog f_slices_stableCmpFunc_impl_Version [.own k 0 o0.length, e_int a1, .clo f2 q2] [(k, (lob 4 e_impl_Version o0))] (fun x hh => x = .tup [] ∧ hh = [(k, (lob 4 e_impl_Version r))]) :=
  Does.nameO (c_slices_stableCmpFunc_impl_Version o0 a1 p2 f2 q2 hq2 hf2 r h) (fun k => (atC rfl (atC (hq2 k) (atN _)))) k

def m_slices_SortStableFunc_Limpl_Version_impl_Version (o0 : (List S_impl_Version)) (p1 : S_impl_Version → S_impl_Version → Option Int) : Option (List S_impl_Version) :=
  (m_slices_stableCmpFunc_impl_Version o0 (o0.length : Int) p1).bind fun x1 =>
  (lenQ x1.length o0.length ()).bind fun u2 =>
  some x1
theorem c_slices_SortStableFunc_Limpl_Version_impl_Version (o0 : (List S_impl_Version)) (p1 : S_impl_Version → S_impl_Version → Option Int) (f1 : FuncId) (q1 : List LV) (hq1 : ∀ k, LV.at?.atL k q1 = false) (hf1 : ∀ a0 a1 v, p1 a0 a1 = some v → Ret Try.prog f1 (e_impl_Version a0 :: e_impl_Version a1 :: q1) (e_int v)) (r : (List S_impl_Version)) (h : m_slices_SortStableFunc_Limpl_Version_impl_Version o0 p1 = some r) : Does Try.prog f_slices_SortStableFunc_Limpl_Version_impl_Version [.own 0 0 o0.length, .clo f1 q1] [(0, (lob 4 e_impl_Version o0))] (fun x hh => x = .tup [] ∧ hh = [(0, (lob 4 e_impl_Version r))]) := by
  refine Does.goG [0] F_slices_SortStableFunc_Limpl_Version_impl_Version rfl e_slices_SortStableFunc_Limpl_Version_impl_Version n_slices_SortStableFunc_Limpl_Version_impl_Version rfl (rvs := []) rfl rfl ?_
  intro w0 ok0 lent ρ0
  refine LWP.region (l := [_,_,_,_,_]) ?_
  refine LWo.move (.own 0 0 (o0).length) rfl (hn := ?_)
  refine LWo.move (.own 0 0 (o0).length) rfl (hn := ?_)
  refine LWo.lenO u_Limpl_Version rfl (hn := ?_)
  refine LWo.move (.clo f1 q1) rfl (hn := ?_)
  refine bk h fun x1 e1 h => ?_
  refine bk h fun u2 e2 h => ?_
  refine LWo.ucallM (e := e_impl_Version) rfl rfl (k_slices_stableCmpFunc_impl_Version _ _ _ f1 q1 hq1 hf1 _ e1 0) rfl rfl (some 8) rfl (hn := ?_)
  obtain rfl := Option.some.inj h
  refine LWo.nil (QG.mk (.inl rfl) (.nil) (RetOK.many1 (.nil) (by simp) (by decide) rfl rfl rfl rfl rfl) rfl rfl)
theorem k_slices_SortStableFunc_Limpl_Version_impl_Version (o0 : (List S_impl_Version)) (p1 : S_impl_Version → S_impl_Version → Option Int) (f1 : FuncId) (q1 : List LV) (hq1 : ∀ k, LV.at?.atL k q1 = false) (hf1 : ∀ a0 a1 v, p1 a0 a1 = some v → Ret Try.prog f1 (e_impl_Version a0 :: e_impl_Version a1 :: q1) (e_int v)) (r : (List S_impl_Version)) (h : m_slices_SortStableFunc_Limpl_Version_impl_Version o0 p1 = some r) (k : Nat) : Does Try.prog f_slices_SortStableFunc_Limpl_Version_impl_Version [.own k 0 o0.length, .clo f1 q1] [(k, (lob 4 e_impl_Version o0))] (fun x hh => x = .tup [] ∧ hh = [(k, (lob 4 e_impl_Version r))]) :=
  Does.nameO (c_slices_SortStableFunc_Limpl_Version_impl_Version o0 p1 f1 q1 hq1 hf1 r h) (fun k => (atC (hq1 k) (atN _))) k

def m_cmp_isNaN_int (a0 : Int) : Option Bool :=
  some (a0 != a0)
theorem c_cmp_isNaN_int (a0 : Int) (r : Bool) (h : m_cmp_isNaN_int a0 = some r) : Ret Try.prog f_cmp_isNaN_int [e_int a0] (e_bool r) := by
  refine Does.goG [] F_cmp_isNaN_int rfl e_cmp_isNaN_int n_cmp_isNaN_int rfl (rvs := [.tmp 2]) rfl rfl ?_
  intro w0 ok0 lent ρ0
  refine LWP.seq_k fun N1 hN1 => ?_
  refine LWP.region (l := [_]) ?_
  refine LWo.assign (e_bool false) rfl (hn := ?_)
  refine LWo.nil (hN1 _ ?_)
  refine LWP.seq_k fun N2 hN2 => ?_
  refine LWP.region (l := [_,_,_,_]) ?_
  refine LWo.move (e_int a0) rfl (hn := ?_)
  refine LWo.move (e_int a0) rfl (hn := ?_)
  refine LWo.int _ rfl rfl rfl (hn := ?_)
  refine LWo.assign (e_bool (a0 != a0)) rfl (hn := ?_)
  refine LWo.nil (hN2 _ ?_)
  obtain rfl := Option.some.inj h
  refine LWP.ret (QG.mk (.inr rfl) (.cons (.tmp (x := (e_bool (a0 != a0))) rfl) (.nil)) (RetOK.one0 (.pure rfl) (by decide)) rfl rfl)

def m_cmp_Compare_int (a0 : Int) (a1 : Int) : Option Int :=
  (m_cmp_isNaN_int a0).bind fun x3 =>
  (m_cmp_isNaN_int a1).bind fun x5 =>
  bif x3 then (bif x5 then (some (0 : Int))
    else (some (-1 : Int)))
  else (bif x5 then (some (1 : Int))
  else (bif decide (a0 < a1) then (some (-1 : Int))
  else (bif decide (a0 > a1) then (some (1 : Int))
  else (some (0 : Int)))))
theorem c_cmp_Compare_int (a0 : Int) (a1 : Int) (r : Int) (h : m_cmp_Compare_int a0 a1 = some r) : Ret Try.prog f_cmp_Compare_int [e_int a0, e_int a1] (e_int r) := by
  refine Does.goG [] F_cmp_Compare_int rfl e_cmp_Compare_int n_cmp_Compare_int rfl (rvs := [.tmp 4]) rfl rfl ?_
  intro w0 ok0 lent ρ0
  refine LWP.seq_k fun N1 hN1 => ?_
  refine LWP.region (l := [_]) ?_
  refine LWo.assign (e_int (0 : Int)) rfl (hn := ?_)
  refine LWo.nil (hN1 _ ?_)
  refine LWP.seq_k fun N2 hN2 => ?_
  refine LWP.region (l := [_,_,_]) ?_
  refine LWo.move (e_int a0) rfl (hn := ?_)
  refine bk h fun x3 e3 h => ?_
  refine LWo.vcall rfl rfl (c_cmp_isNaN_int _ _ e3) (.same (.nil)) (hn := ?_)
  refine LWo.assign (e_bool x3) rfl (hn := ?_)
  refine LWo.nil (hN2 _ ?_)
  refine LWP.seq_k fun N4 hN4 => ?_
  refine LWP.region (l := [_,_,_]) ?_
  refine LWo.move (e_int a1) rfl (hn := ?_)
  refine bk h fun x5 e5 h => ?_
  refine LWo.vcall rfl rfl (c_cmp_isNaN_int _ _ e5) (.same (.nil)) (hn := ?_)
  refine LWo.assign (e_bool x5) rfl (hn := ?_)
  refine LWo.nil (hN4 _ ?_)
  refine LWP.seq_k fun N6 hN6 => ?_
  refine LWP.seq_k fun N7 hN7 => ?_
  refine LWP.region (l := [_]) ?_
  refine LWo.move (e_bool x3) rfl (hn := ?_)
  refine LWo.nil (hN7 _ ?_)
  refine LWP.cond_split rfl (fun h8 => ?_) (fun h8 => ?_)
  ·have h := bT h8 h
   refine LWP.seq_k fun N9 hN9 => ?_
   refine LWP.seq_k fun N10 hN10 => ?_
   refine LWP.region (l := [_]) ?_
   refine LWo.move (e_bool x5) rfl (hn := ?_)
   refine LWo.nil (hN10 _ ?_)
   refine LWP.cond_split rfl (fun h11 => ?_) (fun h11 => ?_)
   ·have h := bT h11 h
    refine LWP.seq_k fun N12 hN12 => ?_
    refine LWP.region (l := [_]) ?_
    refine LWo.assign (e_int (0 : Int)) rfl (hn := ?_)
    refine LWo.nil (hN12 _ ?_)
    obtain rfl := Option.some.inj h
    refine LWP.ret (QG.mk (.inr rfl) (.cons (.tmp (x := (e_int (0 : Int))) rfl) (.nil)) (RetOK.one0 (.pure rfl) (by decide)) rfl rfl)
   ·have h := bF h11 h
    refine LWP.skip (hN9 _ ?_)
    refine LWP.seq_k fun N13 hN13 => ?_
    refine LWP.region (l := [_]) ?_
    refine LWo.assign (e_int (-1 : Int)) rfl (hn := ?_)
    refine LWo.nil (hN13 _ ?_)
    obtain rfl := Option.some.inj h
    refine LWP.ret (QG.mk (.inr rfl) (.cons (.tmp (x := (e_int (-1 : Int))) rfl) (.nil)) (RetOK.one0 (.pure rfl) (by decide)) rfl rfl)
  ·have h := bF h8 h
   refine LWP.skip (hN6 _ ?_)
   refine LWP.seq_k fun N14 hN14 => ?_
   refine LWP.seq_k fun N15 hN15 => ?_
   refine LWP.region (l := [_]) ?_
   refine LWo.move (e_bool x5) rfl (hn := ?_)
   refine LWo.nil (hN15 _ ?_)
   refine LWP.cond_split rfl (fun h16 => ?_) (fun h16 => ?_)
   ·have h := bT h16 h
    refine LWP.seq_k fun N17 hN17 => ?_
    refine LWP.region (l := [_]) ?_
    refine LWo.assign (e_int (1 : Int)) rfl (hn := ?_)
    refine LWo.nil (hN17 _ ?_)
    obtain rfl := Option.some.inj h
    refine LWP.ret (QG.mk (.inr rfl) (.cons (.tmp (x := (e_int (1 : Int))) rfl) (.nil)) (RetOK.one0 (.pure rfl) (by decide)) rfl rfl)
   ·have h := bF h16 h
    refine LWP.skip (hN14 _ ?_)
    refine LWP.seq_k fun N18 hN18 => ?_
    refine LWP.seq_k fun N19 hN19 => ?_
    refine LWP.region (l := [_,_,_]) ?_
    refine LWo.move (e_int a0) rfl (hn := ?_)
    refine LWo.move (e_int a1) rfl (hn := ?_)
    refine LWo.int _ rfl rfl rfl (hn := ?_)
    refine LWo.nil (hN19 _ ?_)
    refine LWP.cond_split rfl (fun h20 => ?_) (fun h20 => ?_)
    ·have h := bT h20 h
     refine LWP.seq_k fun N21 hN21 => ?_
     refine LWP.region (l := [_]) ?_
     refine LWo.assign (e_int (-1 : Int)) rfl (hn := ?_)
     refine LWo.nil (hN21 _ ?_)
     obtain rfl := Option.some.inj h
     refine LWP.ret (QG.mk (.inr rfl) (.cons (.tmp (x := (e_int (-1 : Int))) rfl) (.nil)) (RetOK.one0 (.pure rfl) (by decide)) rfl rfl)
    ·have h := bF h20 h
     refine LWP.skip (hN18 _ ?_)
     refine LWP.seq_k fun N22 hN22 => ?_
     refine LWP.seq_k fun N23 hN23 => ?_
     refine LWP.region (l := [_,_,_]) ?_
     refine LWo.move (e_int a0) rfl (hn := ?_)
     refine LWo.move (e_int a1) rfl (hn := ?_)
     refine LWo.int _ rfl rfl rfl (hn := ?_)
     refine LWo.nil (hN23 _ ?_)
     refine LWP.cond_split rfl (fun h24 => ?_) (fun h24 => ?_)
     ·have h := bT h24 h
      refine LWP.seq_k fun N25 hN25 => ?_
      refine LWP.region (l := [_]) ?_
      refine LWo.assign (e_int (1 : Int)) rfl (hn := ?_)
      refine LWo.nil (hN25 _ ?_)
      obtain rfl := Option.some.inj h
      refine LWP.ret (QG.mk (.inr rfl) (.cons (.tmp (x := (e_int (1 : Int))) rfl) (.nil)) (RetOK.one0 (.pure rfl) (by decide)) rfl rfl)
     ·have h := bF h24 h
      refine LWP.skip (hN22 _ ?_)
      refine LWP.seq_k fun N26 hN26 => ?_
      refine LWP.region (l := [_]) ?_
      refine LWo.assign (e_int (0 : Int)) rfl (hn := ?_)
      refine LWo.nil (hN26 _ ?_)
      obtain rfl := Option.some.inj h
      refine LWP.ret (QG.mk (.inr rfl) (.cons (.tmp (x := (e_int (0 : Int))) rfl) (.nil)) (RetOK.one0 (.pure rfl) (by decide)) rfl rfl)

def m_cmp_Or_int_j1 (t3 : Int) : Option Int :=
  some t3
def m_cmp_Or_int_l1 : Nat → Int → (List Int) → Int → Int → Option Int
  | 0, _, _, _, _ => none
  | n1 + 1, t3, t6, t7, t8 =>
    bif decide (t8 < t7) then ((at? t6 t8).bind fun x12 =>
    bif (x12 != t3) then (some x12)
    else ((ckI (t8 + (1 : Int))).bind fun x16 =>
    (m_cmp_Or_int_l1  n1) t3 t6 t7 x16))
    else (m_cmp_Or_int_j1  t3)
def m_cmp_Or_int (a0 : (List Int)) : Option Int :=
  m_cmp_Or_int_l1  (((a0.length : Int) - (0 : Int)).toNat + 1) (0 : Int) a0 (a0.length : Int) (0 : Int)
theorem c_cmp_Or_int (a0 : (List Int)) (r : Int) (h : m_cmp_Or_int a0 = some r) : Ret Try.prog f_cmp_Or_int [e_Lint a0] (e_int r) := by
  refine Does.goG [] F_cmp_Or_int rfl e_cmp_Or_int n_cmp_Or_int rfl (rvs := [.tmp 2]) rfl rfl ?_
  intro w0 ok0 lent ρ0
  refine LWP.seq_k fun N1 hN1 => ?_
  refine LWP.region (l := [_]) ?_
  refine LWo.assign (e_int (0 : Int)) rfl (hn := ?_)
  refine LWo.nil (hN1 _ ?_)
  refine LWP.seq_k fun N2 hN2 => ?_
  refine LWP.region (l := [_]) ?_
  refine LWo.assign (e_int (0 : Int)) rfl (hn := ?_)
  refine LWo.nil (hN2 _ ?_)
  refine LWP.join (α := Int) (fun z : Int => [(3, (e_int z))]) (fun z : Int => []) (fun z : Int => m_cmp_Or_int_j1  z) r (fun _ => by simp [hkeys]) ?_ ?_
  ·rintro t3 h
   replace h : m_cmp_Or_int_j1  t3 = some _ := h
   refine LWP.seq_k fun N17 hN17 => ?_
   refine LWP.region (l := [_,_]) ?_
   refine LWo.move (e_int t3) rfl (hn := ?_)
   refine LWo.assign (e_int t3) rfl (hn := ?_)
   refine LWo.nil (hN17 _ ?_)
   obtain rfl := Option.some.inj h
   refine LWP.ret (QG.mk (.inr rfl) (.cons (.tmp (x := (e_int t3)) rfl) (.nil)) (RetOK.one0 (.pure rfl) (by decide)) rfl rfl)
  ·intro N3 hN3
   refine LWP.seq_k fun N4 hN4 => ?_
   refine LWP.region (l := [_,_,_]) ?_
   refine LWo.move (e_Lint a0) rfl (hn := ?_)
   refine LWo.lenM (f := e_int) (l := a0) u_Lint rfl (hn := ?_)
   refine LWo.move (e_int (0 : Int)) rfl (hn := ?_)
   refine LWo.nil (hN4 _ ?_)
   refine LWP.block ?_
   refine LWP.loopM (α := Int × (List Int) × Int × Int) (fun z : Int × (List Int) × Int × Int => [(3, (e_int z.1)), (6, (e_Lint z.2.1)), (7, (e_int z.2.2.1)), (8, (e_int z.2.2.2))]) (fun z : Int × (List Int) × Int × Int => []) (fun n1 (z : Int × (List Int) × Int × Int) => m_cmp_Or_int_l1  n1 z.1 z.2.1 z.2.2.1 z.2.2.2) r _ ((0 : Int), a0, (a0.length : Int), (0 : Int)) h (fun _ => rfl) (fun _ => by simp [hkeys]) ⟨rfl, rfl, rfl, rfl, trivial⟩ trivial ?_
   rintro n1 ⟨t3, t6, t7, t8⟩ h N5 hN5
   replace h : m_cmp_Or_int_l1  (n1 + 1) t3 t6 t7 t8 = some _ := h
   refine LWP.seq_k fun N7 hN7 => ?_
   refine LWP.region (l := [_]) ?_
   refine LWo.int _ rfl rfl rfl (hn := ?_)
   refine LWo.nil (hN7 _ ?_)
   refine LWP.seq_k fun N8 hN8 => ?_
   refine LWP.cond_split rfl (fun h9 => ?_) (fun h9 => ?_)
   ·have h := bT h9 h
    refine LWP.skip (hN8 _ ?_)
    refine LWP.seq_k fun N10 hN10 => ?_
    refine LWP.block ?_
    refine LWP.seq_k fun N11 hN11 => ?_
    refine LWP.region (l := [_,_,_]) ?_
    refine bk h fun x12 e12 h => ?_
    refine LWo.indexM (f := e_int) e12 u_Lint s_int rfl rfl (hn := ?_)
    refine LWo.load1 (c := (e_int x12)) g_int rfl (hn := ?_)
    refine LWo.assign (e_int x12) rfl (hn := ?_)
    refine LWo.nil (hN11 _ ?_)
    refine LWP.seq_k fun N13 hN13 => ?_
    refine LWP.region (l := [_,_,_]) ?_
    refine LWo.move (e_int x12) rfl (hn := ?_)
    refine LWo.move (e_int t3) rfl (hn := ?_)
    refine LWo.int _ rfl rfl rfl (hn := ?_)
    refine LWo.nil (hN13 _ ?_)
    refine LWP.cond_split rfl (fun h14 => ?_) (fun h14 => ?_)
    ·have h := bT h14 h
     refine LWP.seq_k fun N15 hN15 => ?_
     refine LWP.region (l := [_,_]) ?_
     refine LWo.move (e_int x12) rfl (hn := ?_)
     refine LWo.assign (e_int x12) rfl (hn := ?_)
     refine LWo.nil (hN15 _ ?_)
     obtain rfl := Option.some.inj h
     refine LWP.ret (QG.mk (.inr rfl) (.cons (.tmp (x := (e_int x12)) rfl) (.nil)) (RetOK.one0 (.pure rfl) (by decide)) rfl rfl)
    ·have h := bF h14 h
     refine LWP.skip (hN10 _ ?_)
     refine LWP.region (l := [_,_]) ?_
     refine bk h fun x16 e16 h => ?_
     refine LWo.int _ rfl rfl (add_ck e16) (hn := ?_)
     refine LWo.move (e_int x16) rfl (hn := ?_)
     refine LWo.nil (hN5 (t3, t6, t7, x16) _ ⟨rfl, rfl, rfl, rfl, trivial⟩ trivial h)
   ·have h := bF h9 h
    refine LWP.exit (hN3 t3 _ ⟨rfl, trivial⟩ trivial h)

def m_impl_written_1 (a0 : S_impl_Version) (a1 : S_impl_Version) : Option Int :=
  (m_cmp_Compare_int a0.Key a1.Key).bind fun x3 =>
  (m_cmp_Compare_int a0.Born a1.Born).bind fun x4 =>
  (m_cmp_Or_int ([x3, x4] : (List Int))).bind fun x5 =>
  some x5
theorem c_impl_written_1 (a0 : S_impl_Version) (a1 : S_impl_Version) (r : Int) (h : m_impl_written_1 a0 a1 = some r) : Ret Try.prog f_impl_written_1 [e_impl_Version a0, e_impl_Version a1] (e_int r) := by
  refine Does.goG [] F_impl_written_1 rfl e_impl_written_1 n_impl_written_1 rfl (rvs := [.tmp 4]) rfl rfl ?_
  intro w0 ok0 lent ρ0
  refine LWP.seq_k fun N1 hN1 => ?_
  refine LWP.region (l := [_,_,_]) ?_
  refine LWo.boxF (e_impl_Version a0) rfl rfl rfl (hn := ?_)
  refine LWo.boxF (e_impl_Version a1) rfl rfl rfl (hn := ?_)
  refine LWo.assign (e_int (0 : Int)) rfl (hn := ?_)
  refine LWo.nil (hN1 _ ?_)
  refine LWP.seq_k fun N2 hN2 => ?_
  refine bk h fun x3 e3 h => ?_
  refine bk h fun x4 e4 h => ?_
  refine bk h fun x5 e5 h => ?_
  refine LWP.drawF (l := [_,_,_,_,_,_,_,_,_,_,_,_,_]) [] [2, 3] [([2], []), ([5], []), ([3], []), ([7], []), ([6, 8], []), ([2], []), ([10], []), ([3], []), ([12], []), ([11, 13], []), ([9, 14], []), ([15], []), ([16], [])] [4] [] mixed (by kernel_rfl) rfl (by decide) ?_
  refine dq 5 rfl (fun _ g u h => LWo.fieldAddr _ u_impl_Version rfl s_int u.1 rfl (hn := .nil (zn g))) ?_
  refine dq 6 rfl (fun _ g u h => LWo.load1 (c := (e_int a0.Key)) g_int u.1 (hn := .nil (zn g))) ?_
  refine dq 7 rfl (fun _ g u h => LWo.fieldAddr _ u_impl_Version rfl s_int u.1 rfl (hn := .nil (zn g))) ?_
  refine dq 8 rfl (fun _ g u h => LWo.load1 (c := (e_int a1.Key)) g_int u.1 (hn := .nil (zn g))) ?_
  refine dq 9 rfl (fun _ g u h => LWo.vcall rfl (av2 u.1 u.2.1) (c_cmp_Compare_int _ _ _ e3) (.same (.same (.nil))) (hn := .nil (zn g))) ?_
  refine dq 10 rfl (fun _ g u h => LWo.fieldAddr _ u_impl_Version rfl s_int u.1 rfl (hn := .nil (zn g))) ?_
  refine dq 11 rfl (fun _ g u h => LWo.load1 (c := (e_int a0.Born)) g_int u.1 (hn := .nil (zn g))) ?_
  refine dq 12 rfl (fun _ g u h => LWo.fieldAddr _ u_impl_Version rfl s_int u.1 rfl (hn := .nil (zn g))) ?_
  refine dq 13 rfl (fun _ g u h => LWo.load1 (c := (e_int a1.Born)) g_int u.1 (hn := .nil (zn g))) ?_
  refine dq 14 rfl (fun _ g u h => LWo.vcall rfl (av2 u.1 u.2.1) (c_cmp_Compare_int _ _ _ e4) (.same (.same (.nil))) (hn := .nil (zn g))) ?_
  refine dq 15 rfl (fun _ g u h => LWo.lit (ops := [_, _]) [(e_int x3), (e_int x4)] u_Lint s_int z_int (lv2 u.1 u.2.1) rfl rfl rfl rfl rfl (hn := .nil (zn g))) ?_
  refine dq 16 rfl (fun _ g u h => LWo.vcall rfl (av1 u.1) (c_cmp_Or_int _ _ e5) (.same (.nil)) (hn := .nil (zn g))) ?_
  refine dq 4 rfl (fun _ g u h => LWo.assign (e_int x5) u.1 (hn := .nil (zn g))) ?_
  refine ⟨rfl, by kernel_rfl, hN2 _ ?_⟩
  obtain rfl := Option.some.inj h
  refine LWP.ret (QG.mk (.inr rfl) (.cons (.tmp (x := (e_int x5)) rfl) (.nil)) (RetOK.one0 (.pure rfl) (by decide)) rfl rfl)

def m_impl_written_j5 (o1012 : (List S_impl_Version)) : Option (List S_impl_Version) :=
  (m_slices_SortStableFunc_Limpl_Version_impl_Version o1012 (fun b0_ b1_ => m_impl_written_1 b0_ b1_ )).bind fun x41 =>
  (lenQ x41.length o1012.length ()).bind fun u42 =>
  (m_slices_Clip_Limpl_Version_impl_Version_o x41).bind fun x44 =>
  some x44
def m_impl_written_j4 (k1 : Int → (List S_impl_Write) → Int → Int → (List S_impl_Version) → Option (List S_impl_Version)) (t2 : Int) (t13 : (List S_impl_Write)) (t14 : Int) (t15 : Int) (o1012 : (List S_impl_Version)) : Option (List S_impl_Version) :=
  (ckI (t15 + (1 : Int))).bind fun x39 =>
  k1 t2 t13 t14 x39 o1012
def m_impl_written_j3 (k1 : Int → (List S_impl_Write) → Int → Int → (List S_impl_Version) → Option (List S_impl_Version)) (t2 : Int) (t13 : (List S_impl_Write)) (t14 : Int) (t15 : Int) (o9 : S_impl_Write) (o1012 : (List S_impl_Version)) : Option (List S_impl_Version) :=
  bif (!o9.Gone) then ((m_impl_clone_impl_Value o9.Row).bind fun x37 =>
    (app? o1012 ([(⟨o9.Key, t2, (0 : Int), x37⟩ : S_impl_Version)] : (List S_impl_Version))).bind fun x38 =>
    m_impl_written_j4  k1 t2 t13 t14 t15 x38)
  else (m_impl_written_j4  k1 t2 t13 t14 t15 o1012)
def m_impl_written_j2 (k1 : Int → (List S_impl_Write) → Int → Int → (List S_impl_Version) → Option (List S_impl_Version)) (k2 : Int → (List S_impl_Write) → Int → Int → Int → Int → S_impl_Write → (List S_impl_Version) → Option (List S_impl_Version)) (t2 : Int) (t13 : (List S_impl_Write)) (t14 : Int) (t15 : Int) (t20 : Int) (t21 : Int) (o9 : S_impl_Write) (o1012 : (List S_impl_Version)) : Option (List S_impl_Version) :=
  (ckI (t21 + (1 : Int))).bind fun x34 =>
  k2 t2 t13 t14 t15 t20 x34 o9 o1012
def m_impl_written_j1 (k1 : Int → (List S_impl_Write) → Int → Int → (List S_impl_Version) → Option (List S_impl_Version)) (k2 : Int → (List S_impl_Write) → Int → Int → Int → Int → S_impl_Write → (List S_impl_Version) → Option (List S_impl_Version)) (t2 : Int) (t10 : Int) (t13 : (List S_impl_Write)) (t14 : Int) (t15 : Int) (t20 : Int) (t21 : Int) (t39 : Bool) (o9 : S_impl_Write) (o1012 : (List S_impl_Version)) : Option (List S_impl_Version) :=
  bif t39 then ((at? o1012 t10).bind fun x31 =>
    (at? o1012 t10).bind fun x32 =>
    lt ({ x32 with Died := t2 }) fun y33 =>
    m_impl_written_j2  k1 k2 t2 t13 t14 t15 t20 t21 o9 (o1012.set (t10).toNat y33))
  else (m_impl_written_j2  k1 k2 t2 t13 t14 t15 t20 t21 o9 o1012)
def m_impl_written_l2 (k1 : Int → (List S_impl_Write) → Int → Int → (List S_impl_Version) → Option (List S_impl_Version)) : Nat → Int → (List S_impl_Write) → Int → Int → Int → Int → S_impl_Write → (List S_impl_Version) → Option (List S_impl_Version)
  | 0, _, _, _, _, _, _, _, _ => none
  | n2 + 1, t2, t13, t14, t15, t20, t21, o9, o1012 =>
    bif decide (t21 < t20) then ((at? o1012 t21).bind fun x25 =>
    (at? o1012 t21).bind fun x26 =>
    bif (x26.Key == o9.Key) then ((at? o1012 t21).bind fun x28 =>
      (at? o1012 t21).bind fun x29 =>
      m_impl_written_j1  k1 (m_impl_written_l2  k1 n2) t2 t21 t13 t14 t15 t20 t21 (x29.Died == (0 : Int)) o9 o1012)
    else (m_impl_written_j1  k1 (m_impl_written_l2  k1 n2) t2 t21 t13 t14 t15 t20 t21 false o9 o1012))
    else (m_impl_written_j3  k1 t2 t13 t14 t15 o9 o1012)
def m_impl_written_l1 : Nat → Int → (List S_impl_Write) → Int → Int → (List S_impl_Version) → Option (List S_impl_Version)
  | 0, _, _, _, _, _ => none
  | n1 + 1, t2, t13, t14, t15, o1012 =>
    bif decide (t15 < t14) then ((at? t13 t15).bind fun x13 =>
    lt (x13) fun y14 =>
    m_impl_written_l2  (m_impl_written_l1  n1) (((o1012.length : Int) - (0 : Int)).toNat + 1) t2 t13 t14 t15 (o1012.length : Int) (0 : Int) y14 o1012)
    else (m_impl_written_j5  o1012)
def m_impl_written (a0 : (List S_impl_Version)) (a1 : (List S_impl_Write)) (a2 : Int) : Option (List S_impl_Version) :=
  (m_impl_versionsCopy a0).bind fun x3 =>
  m_impl_written_l1  (((a1.length : Int) - (0 : Int)).toNat + 1) a2 a1 (a1.length : Int) (0 : Int) x3
theorem c_impl_written (a0 : (List S_impl_Version)) (a1 : (List S_impl_Write)) (a2 : Int) (r : (List S_impl_Version)) (h : m_impl_written a0 a1 a2 = some r) : Ret Try.prog f_impl_written [e_Limpl_Version a0, e_Limpl_Write a1, e_int a2] (.nw 4 (r.map e_impl_Version) false) := by
  refine Does.goG [] F_impl_written rfl e_impl_written n_impl_written rfl (rvs := [.tmp 6]) rfl rfl ?_
  intro w0 ok0 lent ρ0
  refine LWP.seq_k fun N1 hN1 => ?_
  refine LWP.region (l := [_]) ?_
  refine LWo.assign _ rfl (hn := ?_)
  refine LWo.ownNil 6 1006 4 rfl rfl rfl ?_
  refine LWo.known 6 (.own 1006 0 ([] : (List S_impl_Version)).length) rfl ?_
  refine LWo.nil (hN1 _ ?_)
  refine LWP.seq_k fun N2 hN2 => ?_
  refine LWP.region (l := [_,_,_]) ?_
  refine LWo.move (e_Limpl_Version a0) rfl (hn := ?_)
  refine bk h fun x3 e3 h => ?_
  refine LWo.ncallSoft (e := e_impl_Version) 1012 rfl rfl (c_impl_versionsCopy _ _ e3) (.same (.nil)) rfl (hn := ?_)
  refine LWo.assign (.own 1012 0 (x3).length) rfl (hn := ?_)
  refine LWo.nil (hN2 _ ?_)
  refine LWP.join (α := (List S_impl_Version)) (fun z : (List S_impl_Version) => [(7, (.own 1012 0 (z).length))]) (fun z : (List S_impl_Version) => [(1012, (lob 4 e_impl_Version z))]) (fun z : (List S_impl_Version) => m_impl_written_j5  z) r (fun _ => by simp [hkeys]) ?_ ?_
  ·rintro o1012 h
   replace h : m_impl_written_j5  o1012 = some _ := h
   refine LWP.seq_k fun N40 hN40 => ?_
   refine LWP.region (l := [_,_]) ?_
   refine LWo.move (.own 1012 0 (o1012).length) rfl (hn := ?_)
   refine bk h fun x41 e41 h => ?_
   refine bk h fun u42 e42 h => ?_
   refine LWo.ucallM (e := e_impl_Version) rfl rfl (k_slices_SortStableFunc_Limpl_Version_impl_Version _ _ f_impl_written_1 [] (fun _ => rfl) (fun b0_ b1_ v hv => c_impl_written_1 b0_ b1_  v hv) _ e41 1012) rfl rfl (some 61) rfl (hn := ?_)
   refine LWo.nil (hN40 _ ?_)
   refine LWP.seq_k fun N43 hN43 => ?_
   refine LWP.region (l := [_,_,_]) ?_
   refine LWo.move (.own 1012 0 (o1012).length) rfl (hn := ?_)
   refine bk h fun x44 e44 h => ?_
   refine LWo.tcallN (e := e_impl_Version) (e' := e_impl_Version) 1063 rfl rfl (c_slices_Clip_Limpl_Version_impl_Version_o _ _ e44) (fun _ => rfl) rfl ((lenQ_some e42).1.symm) rfl rfl (hn := ?_)
   refine LWo.assign (.own 1063 0 (x44).length) rfl (hn := ?_)
   refine LWo.nil (hN43 _ ?_)
   obtain rfl := Option.some.inj h
   refine LWP.ret (QG.mk (.inr rfl) (.cons (.tmp (x := (.own 1063 0 (x44).length)) rfl) (.nil)) (RetOK.one0 (.nwM rfl rfl) (by decide)) rfl rfl)
  ·intro N4 hN4
   refine LWP.seq_k fun N5 hN5 => ?_
   refine LWP.region (l := [_,_,_]) ?_
   refine LWo.move (e_Limpl_Write a1) rfl (hn := ?_)
   refine LWo.lenM (f := e_impl_Write) (l := a1) u_Limpl_Write rfl (hn := ?_)
   refine LWo.move (e_int (0 : Int)) rfl (hn := ?_)
   refine LWo.nil (hN5 _ ?_)
   refine LWP.block ?_
   refine LWP.loopM (α := Int × (List S_impl_Write) × Int × Int × (List S_impl_Version)) (fun z : Int × (List S_impl_Write) × Int × Int × (List S_impl_Version) => [(2, (e_int z.1)), (7, (.own 1012 0 (z.2.2.2.2).length)), (13, (e_Limpl_Write z.2.1)), (14, (e_int z.2.2.1)), (15, (e_int z.2.2.2.1))]) (fun z : Int × (List S_impl_Write) × Int × Int × (List S_impl_Version) => [(1012, (lob 4 e_impl_Version z.2.2.2.2))]) (fun n1 (z : Int × (List S_impl_Write) × Int × Int × (List S_impl_Version)) => m_impl_written_l1  n1 z.1 z.2.1 z.2.2.1 z.2.2.2.1 z.2.2.2.2) r _ (a2, a1, (a1.length : Int), (0 : Int), x3) h (fun _ => rfl) (fun _ => by simp [hkeys]) ⟨rfl, rfl, rfl, rfl, rfl, trivial⟩ ⟨rfl, trivial⟩ ?_
   rintro n1 ⟨t2, t13, t14, t15, o1012⟩ h N6 hN6
   replace h : m_impl_written_l1  (n1 + 1) t2 t13 t14 t15 o1012 = some _ := h
   refine LWP.seq_k fun N8 hN8 => ?_
   refine LWP.region (l := [_]) ?_
   refine LWo.int _ rfl rfl rfl (hn := ?_)
   refine LWo.nil (hN8 _ ?_)
   refine LWP.seq_k fun N9 hN9 => ?_
   refine LWP.cond_split rfl (fun h10 => ?_) (fun h10 => ?_)
   ·have h := bT h10 h
    refine LWP.skip (hN9 _ ?_)
    refine LWP.join (α := Int × (List S_impl_Write) × Int × Int × (List S_impl_Version)) (fun z : Int × (List S_impl_Write) × Int × Int × (List S_impl_Version) => [(2, (e_int z.1)), (7, (.own 1012 0 (z.2.2.2.2).length)), (13, (e_Limpl_Write z.2.1)), (14, (e_int z.2.2.1)), (15, (e_int z.2.2.2.1))]) (fun z : Int × (List S_impl_Write) × Int × Int × (List S_impl_Version) => [(1012, (lob 4 e_impl_Version z.2.2.2.2))]) (fun z : Int × (List S_impl_Write) × Int × Int × (List S_impl_Version) => m_impl_written_j4  (m_impl_written_l1  n1) z.1 z.2.1 z.2.2.1 z.2.2.2.1 z.2.2.2.2) r (fun _ => by simp [hkeys]) ?_ ?_
    ·rintro ⟨t2, t13, t14, t15, o1012⟩ h
     replace h : m_impl_written_j4  (m_impl_written_l1  n1) t2 t13 t14 t15 o1012 = some _ := h
     refine LWP.region (l := [_,_]) ?_
     refine bk h fun x39 e39 h => ?_
     refine LWo.int _ rfl rfl (add_ck e39) (hn := ?_)
     refine LWo.move (e_int x39) rfl (hn := ?_)
     refine LWo.nil (hN6 (t2, t13, t14, x39, o1012) _ ⟨rfl, rfl, rfl, rfl, rfl, trivial⟩ ⟨rfl, trivial⟩ h)
    ·intro N11 hN11
     refine LWP.block ?_
     refine LWP.seq_k fun N12 hN12 => ?_
     refine LWP.region (l := [_,_,_,_]) ?_
     refine bk h fun x13 e13 h => ?_
     refine LWo.indexM (f := e_impl_Write) e13 u_Limpl_Write s_impl_Write rfl rfl (hn := ?_)
     refine LWo.loadN ((e_impl_Write x13)).cells g_impl_Write s_impl_Write rfl (Nat.le_of_ble_eq_true rfl) rfl (hn := ?_)
     refine LWo.alloc_impl_Write 9 rfl (hn := ?_)
     refine lk h fun y14 e14 h => ?_
     refine LWo.storeW (y := (⟨(0 : Int), [], false⟩ : S_impl_Write)) y14 s_impl_Write rfl rfl rfl rfl rfl rfl (by rw [e14]; exact .refl) rfl (hn := ?_)
     refine LWo.nil (hN12 _ ?_)
     refine LWP.join (α := Int × (List S_impl_Write) × Int × Int × S_impl_Write × (List S_impl_Version)) (fun z : Int × (List S_impl_Write) × Int × Int × S_impl_Write × (List S_impl_Version) => [(2, (e_int z.1)), (7, (.own 1012 0 (z.2.2.2.2.2).length)), (9, (.ptr 9 0 0)), (13, (e_Limpl_Write z.2.1)), (14, (e_int z.2.2.1)), (15, (e_int z.2.2.2.1))]) (fun z : Int × (List S_impl_Write) × Int × Int × S_impl_Write × (List S_impl_Version) => [(9, (vob 3 e_impl_Write z.2.2.2.2.1)), (1012, (lob 4 e_impl_Version z.2.2.2.2.2))]) (fun z : Int × (List S_impl_Write) × Int × Int × S_impl_Write × (List S_impl_Version) => m_impl_written_j3  (m_impl_written_l1  n1) z.1 z.2.1 z.2.2.1 z.2.2.2.1 z.2.2.2.2.1 z.2.2.2.2.2) r (fun _ => by simp [hkeys]) ?_ ?_
     ·rintro ⟨t2, t13, t14, t15, o9, o1012⟩ h
      replace h : m_impl_written_j3  (m_impl_written_l1  n1) t2 t13 t14 t15 o9 o1012 = some _ := h
      refine LWP.seq_k fun N35 hN35 => ?_
      refine LWP.region (l := [_,_,_]) ?_
      refine LWo.fieldPtr u_impl_Write rfl s_bool rfl rfl (hn := ?_)
      refine LWo.loadV1 (e_bool o9.Gone)  g_bool rfl rfl rfl (hn := ?_)
      refine LWo.not rfl (hn := ?_)
      refine LWo.nil (hN35 _ ?_)
      refine LWP.cond_split rfl (fun h36 => ?_) (fun h36 => ?_)
      ·have h := bT h36 h
       refine bk h fun x37 e37 h => ?_
       refine bk h fun x38 e38 h => ?_
       refine LWP.drawF (l := [_,_,_,_,_,_,_,_,_,_,_]) [(1012, 1012)] [2, 7, 9, 13, 14, 15] [([7], []), ([9], []), ([50], [9]), ([2], []), ([9], []), ([53], [9]), ([54], []), ([51, 52, 55], []), ([56], []), ([49, 57], [1012]), ([58], [])] [2, 7, 13, 14, 15] [1012] mixed (by kernel_rfl) rfl (by decide) ?_
       refine dq 49 rfl (fun _ g u h => LWo.move (.own 1012 0 (o1012).length) u.1 (hn := .nil (zn g))) ?_
       refine dq 50 rfl (fun _ g u h => LWo.fieldPtr u_impl_Write rfl s_int u.1 rfl (hn := .nil (zn g))) ?_
       refine dq 51 rfl (fun _ g u h => LWo.loadV1 (e_int o9.Key)  g_int u.1 h.1 rfl (hn := .nil (zn g))) ?_
       refine dq 52 rfl (fun _ g u h => LWo.move (e_int t2) u.1 (hn := .nil (zn g))) ?_
       refine dq 53 rfl (fun _ g u h => LWo.fieldPtr u_impl_Write rfl s_Limpl_Value u.1 rfl (hn := .nil (zn g))) ?_
       refine dq 54 rfl (fun _ g u h => LWo.loadV1 (e_Limpl_Value o9.Row)  g_Limpl_Value u.1 h.1 rfl (hn := .nil (zn g))) ?_
       refine dq 55 rfl (fun _ g u h => LWo.vcall rfl (av1 u.1) (c_impl_clone_impl_Value _ _ e37) (.same (.nil)) (hn := .nil (zn g))) ?_
       refine dq 56 rfl (fun _ g u h => LWo.build_impl_Version (parts := [_, _, _, _]) (⟨o9.Key, t2, (0 : Int), x37⟩ : S_impl_Version) (pv4 u.1 u.2.1 rfl u.2.2.1) rfl rfl .refl (hn := .nil (zn g))) ?_
       refine dq 57 rfl (fun _ g u h => LWo.lit (ops := [_]) [(e_impl_Version (⟨o9.Key, t2, (0 : Int), x37⟩ : S_impl_Version))] u_Limpl_Version s_impl_Version z_impl_Version (lv1 u.1) rfl rfl rfl rfl rfl (hn := .nil (zn g))) ?_
       refine ⟨rfl, .make 58 _ 1012 _, (by exact (goodC rfl goodN)), fun _ g u h => LWo.appendM (f := e_impl_Version) e38 rfl u_Limpl_Version u_Limpl_Version (fun _ h => by cases h) s_impl_Version i_impl_Version rfl u.1 h.1 (.sl u.2.1) (lone_of g rfl) rfl (hn := LWo.nil ⟨rfl, .inl rfl, Ef.good_ok (e := .make 58 _ 1012 _) (by exact (goodC rfl goodN)) g⟩), ?_⟩
       refine dq 7 rfl (fun _ g u h => LWo.assign (.own 1012 0 (x38).length) u.1 (hn := .nil (zn g))) ?_
       refine ⟨rfl, by kernel_rfl, hN11 (t2, t13, t14, t15, x38) _ ⟨rfl, rfl, rfl, rfl, rfl, trivial⟩ ⟨rfl, trivial⟩ h⟩
      ·have h := bF h36 h
       refine LWP.skip (hN11 (t2, t13, t14, t15, o1012) _ ⟨rfl, rfl, rfl, rfl, rfl, trivial⟩ ⟨rfl, trivial⟩ h)
     ·intro N15 hN15
      refine LWP.seq_k fun N16 hN16 => ?_
      refine LWP.region (l := [_,_,_]) ?_
      refine LWo.move (.own 1012 0 (o1012).length) rfl (hn := ?_)
      refine LWo.lenO u_Limpl_Version rfl (hn := ?_)
      refine LWo.move (e_int (0 : Int)) rfl (hn := ?_)
      refine LWo.nil (hN16 _ ?_)
      refine LWP.block ?_
      refine LWP.loopM (α := Int × (List S_impl_Write) × Int × Int × Int × Int × S_impl_Write × (List S_impl_Version)) (fun z : Int × (List S_impl_Write) × Int × Int × Int × Int × S_impl_Write × (List S_impl_Version) => [(2, (e_int z.1)), (7, (.own 1012 0 (z.2.2.2.2.2.2.2).length)), (9, (.ptr 9 0 0)), (13, (e_Limpl_Write z.2.1)), (14, (e_int z.2.2.1)), (15, (e_int z.2.2.2.1)), (20, (e_int z.2.2.2.2.1)), (21, (e_int z.2.2.2.2.2.1))]) (fun z : Int × (List S_impl_Write) × Int × Int × Int × Int × S_impl_Write × (List S_impl_Version) => [(9, (vob 3 e_impl_Write z.2.2.2.2.2.2.1)), (1012, (lob 4 e_impl_Version z.2.2.2.2.2.2.2))]) (fun n2 (z : Int × (List S_impl_Write) × Int × Int × Int × Int × S_impl_Write × (List S_impl_Version)) => m_impl_written_l2  (m_impl_written_l1  n1) n2 z.1 z.2.1 z.2.2.1 z.2.2.2.1 z.2.2.2.2.1 z.2.2.2.2.2.1 z.2.2.2.2.2.2.1 z.2.2.2.2.2.2.2) r _ (t2, t13, t14, t15, (o1012.length : Int), (0 : Int), y14, o1012) h (fun _ => rfl) (fun _ => by simp [hkeys]) ⟨rfl, rfl, rfl, rfl, rfl, rfl, rfl, rfl, trivial⟩ ⟨rfl, rfl, trivial⟩ ?_
      rintro n2 ⟨t2, t13, t14, t15, t20, t21, o9, o1012⟩ h N17 hN17
      replace h : m_impl_written_l2  (m_impl_written_l1  n1) (n2 + 1) t2 t13 t14 t15 t20 t21 o9 o1012 = some _ := h
      refine LWP.seq_k fun N19 hN19 => ?_
      refine LWP.region (l := [_]) ?_
      refine LWo.int _ rfl rfl rfl (hn := ?_)
      refine LWo.nil (hN19 _ ?_)
      refine LWP.seq_k fun N20 hN20 => ?_
      refine LWP.cond_split rfl (fun h21 => ?_) (fun h21 => ?_)
      ·have h := bT h21 h
       refine LWP.skip (hN20 _ ?_)
       refine LWP.join (α := Int × (List S_impl_Write) × Int × Int × Int × Int × S_impl_Write × (List S_impl_Version)) (fun z : Int × (List S_impl_Write) × Int × Int × Int × Int × S_impl_Write × (List S_impl_Version) => [(2, (e_int z.1)), (7, (.own 1012 0 (z.2.2.2.2.2.2.2).length)), (9, (.ptr 9 0 0)), (13, (e_Limpl_Write z.2.1)), (14, (e_int z.2.2.1)), (15, (e_int z.2.2.2.1)), (20, (e_int z.2.2.2.2.1)), (21, (e_int z.2.2.2.2.2.1))]) (fun z : Int × (List S_impl_Write) × Int × Int × Int × Int × S_impl_Write × (List S_impl_Version) => [(9, (vob 3 e_impl_Write z.2.2.2.2.2.2.1)), (1012, (lob 4 e_impl_Version z.2.2.2.2.2.2.2))]) (fun z : Int × (List S_impl_Write) × Int × Int × Int × Int × S_impl_Write × (List S_impl_Version) => m_impl_written_j2  (m_impl_written_l1  n1) (m_impl_written_l2  (m_impl_written_l1  n1) n2) z.1 z.2.1 z.2.2.1 z.2.2.2.1 z.2.2.2.2.1 z.2.2.2.2.2.1 z.2.2.2.2.2.2.1 z.2.2.2.2.2.2.2) r (fun _ => by simp [hkeys]) ?_ ?_
       ·rintro ⟨t2, t13, t14, t15, t20, t21, o9, o1012⟩ h
        replace h : m_impl_written_j2  (m_impl_written_l1  n1) (m_impl_written_l2  (m_impl_written_l1  n1) n2) t2 t13 t14 t15 t20 t21 o9 o1012 = some _ := h
        refine LWP.region (l := [_,_]) ?_
        refine bk h fun x34 e34 h => ?_
        refine LWo.int _ rfl rfl (add_ck e34) (hn := ?_)
        refine LWo.move (e_int x34) rfl (hn := ?_)
        refine LWo.nil (hN17 (t2, t13, t14, t15, t20, x34, o9, o1012) _ ⟨rfl, rfl, rfl, rfl, rfl, rfl, rfl, rfl, trivial⟩ ⟨rfl, rfl, trivial⟩ h)
       ·intro N22 hN22
        refine LWP.block ?_
        refine LWP.seq_k fun N23 hN23 => ?_
        refine LWP.region (l := [_,_]) ?_
        refine LWo.move (e_int t21) rfl (hn := ?_)
        refine LWo.assign (e_int t21) rfl (hn := ?_)
        refine LWo.nil (hN23 _ ?_)
        refine LWP.join (α := Int × Int × (List S_impl_Write) × Int × Int × Int × Int × Bool × S_impl_Write × (List S_impl_Version)) (fun z : Int × Int × (List S_impl_Write) × Int × Int × Int × Int × Bool × S_impl_Write × (List S_impl_Version) => [(2, (e_int z.1)), (7, (.own 1012 0 (z.2.2.2.2.2.2.2.2.2).length)), (9, (.ptr 9 0 0)), (10, (e_int z.2.1)), (13, (e_Limpl_Write z.2.2.1)), (14, (e_int z.2.2.2.1)), (15, (e_int z.2.2.2.2.1)), (20, (e_int z.2.2.2.2.2.1)), (21, (e_int z.2.2.2.2.2.2.1)), (39, (e_bool z.2.2.2.2.2.2.2.1))]) (fun z : Int × Int × (List S_impl_Write) × Int × Int × Int × Int × Bool × S_impl_Write × (List S_impl_Version) => [(9, (vob 3 e_impl_Write z.2.2.2.2.2.2.2.2.1)), (1012, (lob 4 e_impl_Version z.2.2.2.2.2.2.2.2.2))]) (fun z : Int × Int × (List S_impl_Write) × Int × Int × Int × Int × Bool × S_impl_Write × (List S_impl_Version) => m_impl_written_j1  (m_impl_written_l1  n1) (m_impl_written_l2  (m_impl_written_l1  n1) n2) z.1 z.2.1 z.2.2.1 z.2.2.2.1 z.2.2.2.2.1 z.2.2.2.2.2.1 z.2.2.2.2.2.2.1 z.2.2.2.2.2.2.2.1 z.2.2.2.2.2.2.2.2.1 z.2.2.2.2.2.2.2.2.2) r (fun _ => by simp [hkeys]) ?_ ?_
        ·rintro ⟨t2, t10, t13, t14, t15, t20, t21, t39, o9, o1012⟩ h
         replace h : m_impl_written_j1  (m_impl_written_l1  n1) (m_impl_written_l2  (m_impl_written_l1  n1) n2) t2 t10 t13 t14 t15 t20 t21 t39 o9 o1012 = some _ := h
         refine LWP.cond_split rfl (fun h30 => ?_) (fun h30 => ?_)
         ·have h := bT h30 h
          refine LWP.region (l := [_,_,_,_,_,_]) ?_
          refine LWo.move (.own 1012 0 (o1012).length) rfl (hn := ?_)
          refine LWo.move (e_int t10) rfl (hn := ?_)
          refine LWo.move (e_int t2) rfl (hn := ?_)
          refine bk h fun x31 e31 h => ?_
          refine LWo.indexO e31 rfl u_Limpl_Version s_impl_Version rfl rfl rfl (hn := ?_)
          refine LWo.fieldPtr u_impl_Version rfl s_int rfl rfl (hn := ?_)
          refine bk h fun x32 e32 h => ?_
          refine lk h fun y33 e33 h => ?_
          refine LWo.storeO y33 e32 s_int rfl rfl rfl rfl rfl rfl rfl (by rw [e33]; rfl) (hn := ?_)
          refine LWo.nil (hN22 (t2, t13, t14, t15, t20, t21, o9, (o1012.set (t10).toNat y33)) _ ⟨rfl, (congrArg (LV.own 1012 0) List.length_set.symm), rfl, rfl, rfl, rfl, rfl, rfl, trivial⟩ ⟨rfl, rfl, trivial⟩ h)
         ·have h := bF h30 h
          refine LWP.skip (hN22 (t2, t13, t14, t15, t20, t21, o9, o1012) _ ⟨rfl, rfl, rfl, rfl, rfl, rfl, rfl, rfl, trivial⟩ ⟨rfl, rfl, trivial⟩ h)
        ·intro N24 hN24
         refine bk h fun x25 e25 h => ?_
         refine bk h fun x26 e26 h => ?_
         refine bS ((x26.Key == o9.Key)) (fun h27 => ?_) (fun h27 => ?_)
         ·have h := bT h27 h
          refine bk h fun x28 e28 h => ?_
          refine bk h fun x29 e29 h => ?_
          refine LWP.drawF (l := [_,_,_,_,_,_,_,_,_,_,_,_,_,_,_,_]) [] [2, 7, 9, 10, 13, 14, 15, 20, 21] [([7], []), ([10], []), ([24, 25], [1012]), ([26], []), ([27], [1012]), ([9], []), ([29], [9]), ([28, 30], []), ([31], []), ([7, 32], []), ([10, 32], []), ([32, 33, 34], [1012]), ([32, 35], []), ([32, 36], [1012]), ([32, 37], []), ([32, 38], [])] [2, 7, 9, 10, 13, 14, 15, 20, 21, 39] [9, 1012] mixed (by kernel_rfl) rfl (by decide) ?_
          refine dq 24 rfl (fun _ g u h => LWo.move (.own 1012 0 (o1012).length) u.1 (hn := .nil (zn g))) ?_
          refine dq 25 rfl (fun _ g u h => LWo.move (e_int t21) u.1 (hn := .nil (zn g))) ?_
          refine dq 26 rfl (fun _ g u h => LWo.indexO e25 rfl u_Limpl_Version s_impl_Version u.1 u.2.1 h.1 (hn := .nil (zn g))) ?_
          refine dq 27 rfl (fun _ g u h => LWo.fieldPtr u_impl_Version rfl s_int u.1 rfl (hn := .nil (zn g))) ?_
          refine dq 28 rfl (fun _ g u h => LWo.loadO1 (e_int x26.Key) e26 g_int u.1 h.1 rfl (hn := .nil (zn g))) ?_
          refine dq 29 rfl (fun _ g u h => LWo.fieldPtr u_impl_Write rfl s_int u.1 rfl (hn := .nil (zn g))) ?_
          refine dq 30 rfl (fun _ g u h => LWo.loadV1 (e_int o9.Key)  g_int u.1 h.1 rfl (hn := .nil (zn g))) ?_
          refine dq 31 rfl (fun _ g u h => LWo.int _ u.1 u.2.1 rfl (hn := .nil (zn g))) ?_
          refine dq 32 rfl (fun _ g u h => LWo.move (e_bool (x26.Key == o9.Key)) u.1 (hn := .nil (zn g))) ?_
          refine dq 33 rfl (fun _ g u h => LWo.guardY (t := 32) u.2.1 h27 rfl rfl (LWo.move (.own 1012 0 (o1012).length) u.1 (hn := .nil (zn g)))) ?_
          refine dq 34 rfl (fun _ g u h => LWo.guardY (t := 32) u.2.1 h27 rfl rfl (LWo.move (e_int t21) u.1 (hn := .nil (zn g)))) ?_
          refine dq 35 rfl (fun _ g u h => LWo.guardY (t := 32) u.1 h27 rfl rfl (LWo.indexO e28 rfl u_Limpl_Version s_impl_Version u.2.1 u.2.2.1 h.1 (hn := .nil (zn g)))) ?_
          refine dq 36 rfl (fun _ g u h => LWo.guardY (t := 32) u.1 h27 rfl rfl (LWo.fieldPtr u_impl_Version rfl s_int u.2.1 rfl (hn := .nil (zn g)))) ?_
          refine dq 37 rfl (fun _ g u h => LWo.guardY (t := 32) u.1 h27 rfl rfl (LWo.loadO1 (e_int x29.Died) e29 g_int u.2.1 h.1 rfl (hn := .nil (zn g)))) ?_
          refine dq 38 rfl (fun _ g u h => LWo.guardY (t := 32) u.1 h27 rfl rfl (LWo.int _ u.2.1 rfl rfl (hn := .nil (zn g)))) ?_
          refine dq 39 rfl (fun _ g u h => LWo.pickTM (e_bool (x29.Died == (0 : Int))) u.1 h27 u.2.1 (hn := .nil (zn g))) ?_
          refine ⟨rfl, by kernel_rfl, hN24 (t2, t21, t13, t14, t15, t20, t21, (x29.Died == (0 : Int)), o9, o1012) _ ⟨rfl, rfl, rfl, rfl, rfl, rfl, rfl, rfl, rfl, rfl, trivial⟩ ⟨rfl, rfl, trivial⟩ h⟩
         ·have h := bF h27 h
          refine LWP.drawF (l := [_,_,_,_,_,_,_,_,_,_,_,_,_,_,_,_]) [] [2, 7, 9, 10, 13, 14, 15, 20, 21] [([7], []), ([10], []), ([24, 25], [1012]), ([26], []), ([27], [1012]), ([9], []), ([29], [9]), ([28, 30], []), ([31], []), ([7, 32], []), ([10, 32], []), ([32, 33, 34], []), ([32, 35], []), ([32, 36], []), ([32, 37], []), ([32, 38], [])] [2, 7, 9, 10, 13, 14, 15, 20, 21, 39] [9, 1012] mixed (by kernel_rfl) rfl (by decide) ?_
          refine dq 24 rfl (fun _ g u h => LWo.move (.own 1012 0 (o1012).length) u.1 (hn := .nil (zn g))) ?_
          refine dq 25 rfl (fun _ g u h => LWo.move (e_int t21) u.1 (hn := .nil (zn g))) ?_
          refine dq 26 rfl (fun _ g u h => LWo.indexO e25 rfl u_Limpl_Version s_impl_Version u.1 u.2.1 h.1 (hn := .nil (zn g))) ?_
          refine dq 27 rfl (fun _ g u h => LWo.fieldPtr u_impl_Version rfl s_int u.1 rfl (hn := .nil (zn g))) ?_
          refine dq 28 rfl (fun _ g u h => LWo.loadO1 (e_int x26.Key) e26 g_int u.1 h.1 rfl (hn := .nil (zn g))) ?_
          refine dq 29 rfl (fun _ g u h => LWo.fieldPtr u_impl_Write rfl s_int u.1 rfl (hn := .nil (zn g))) ?_
          refine dq 30 rfl (fun _ g u h => LWo.loadV1 (e_int o9.Key)  g_int u.1 h.1 rfl (hn := .nil (zn g))) ?_
          refine dq 31 rfl (fun _ g u h => LWo.int _ u.1 u.2.1 rfl (hn := .nil (zn g))) ?_
          refine dq 32 rfl (fun _ g u h => LWo.move (e_bool (x26.Key == o9.Key)) u.1 (hn := .nil (zn g))) ?_
          refine dq 33 rfl (fun _ g u h => LWo.guardNU (t := 32) u.2.1 h27 rfl rfl rfl rfl rfl (.nil (zn g))) ?_
          refine dq 34 rfl (fun _ g u h => LWo.guardNU (t := 32) u.2.1 h27 rfl rfl rfl rfl rfl (.nil (zn g))) ?_
          refine dq 35 rfl (fun _ g u h => LWo.guardNU (t := 32) u.1 h27 rfl rfl rfl rfl rfl (.nil (zn g))) ?_
          refine dq 36 rfl (fun _ g u h => LWo.guardNU (t := 32) u.1 h27 rfl rfl rfl rfl rfl (.nil (zn g))) ?_
          refine dq 37 rfl (fun _ g u h => LWo.guardNU (t := 32) u.1 h27 rfl rfl rfl rfl rfl (.nil (zn g))) ?_
          refine dq 38 rfl (fun _ g u h => LWo.guardNU (t := 32) u.1 h27 rfl rfl rfl rfl rfl (.nil (zn g))) ?_
          refine dq 39 rfl (fun _ g u h => LWo.pickFM (e_bool false) u.1 h27 rfl (hn := .nil (zn g))) ?_
          refine ⟨rfl, by kernel_rfl, hN24 (t2, t21, t13, t14, t15, t20, t21, false, o9, o1012) _ ⟨rfl, rfl, rfl, rfl, rfl, rfl, rfl, rfl, rfl, rfl, trivial⟩ ⟨rfl, rfl, trivial⟩ h⟩
      ·have h := bF h21 h
       refine LWP.exit (hN15 (t2, t13, t14, t15, o9, o1012) _ ⟨rfl, rfl, rfl, rfl, rfl, rfl, trivial⟩ ⟨rfl, rfl, trivial⟩ h)
   ·have h := bF h10 h
    refine LWP.exit (hN4 o1012 _ ⟨rfl, trivial⟩ ⟨rfl, trivial⟩ h)
end Go.Proofs.Ytkgmomocjkmipaa
