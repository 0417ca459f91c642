/- Mirrors of functions, and that the functions return what the mirrors say. -/
import Derived.Test.YtijihchddhikhaaXW4
set_option linter.unusedVariables false
set_option linter.unusedSimpArgs false
set_option linter.unnecessarySimpa false
namespace Go.Proofs.Ytijihchddhikhaa
open Go.Proofs Go.Lift Go.RowKit
def m_slices_stableCmpFunc_impl_Version_j3 (p2 : S_impl_Version → S_impl_Version → Option Int) (k2 : Int → Int → (List S_impl_Version) → Option (List S_impl_Version)) (t1 : Int) (t6 : Int) (o0 : (List S_impl_Version)) : Option (List S_impl_Version) :=
  (ckI (t6 * (2 : Int))).bind fun x44 =>
  k2 t1 x44 o0
def m_slices_stableCmpFunc_impl_Version_j2 (p2 : S_impl_Version → S_impl_Version → Option Int) (k2 : Int → Int → (List S_impl_Version) → Option (List S_impl_Version)) (t1 : Int) (t6 : Int) (t7 : Int) (o0 : (List S_impl_Version)) : Option (List S_impl_Version) :=
  (ckI (t7 + t6)).bind fun x39 =>
  bif decide (x39 < t1) then ((m_slices_symMergeCmpFunc_impl_Version 1000000000 o0 t7 x39 t1 p2).bind fun x42 =>
    (lenQ x42.length o0.length ()).bind fun u43 =>
    m_slices_stableCmpFunc_impl_Version_j3 p2 k2 t1 t6 x42)
  else (m_slices_stableCmpFunc_impl_Version_j3 p2 k2 t1 t6 o0)
def m_slices_stableCmpFunc_impl_Version_l3 (p2 : S_impl_Version → S_impl_Version → Option Int) (k2 : Int → Int → (List S_impl_Version) → Option (List S_impl_Version)) : Nat → Int → Int → Int → Int → (List S_impl_Version) → Option (List S_impl_Version)
  | 0, _, _, _, _, _ => none
  | n3 + 1, t1, t6, t7, t8, o0 =>
    bif decide (t8 ≤ t1) then ((ckI (t7 + t6)).bind fun x31 =>
    (m_slices_symMergeCmpFunc_impl_Version 1000000000 o0 t7 x31 t8 p2).bind fun x32 =>
    (lenQ x32.length o0.length ()).bind fun u33 =>
    (ckI ((2 : Int) * t6)).bind fun x35 =>
    (ckI (t8 + x35)).bind fun x36 =>
    (m_slices_stableCmpFunc_impl_Version_l3 p2 k2 n3) t1 t6 t8 x36 x32)
    else (m_slices_stableCmpFunc_impl_Version_j2 p2 k2 t1 t6 t7 o0)
def m_slices_stableCmpFunc_impl_Version_l2 (p2 : S_impl_Version → S_impl_Version → Option Int) : Nat → Int → Int → (List S_impl_Version) → Option (List S_impl_Version)
  | 0, _, _, _ => none
  | n2 + 1, t1, t6, o0 =>
    bif decide (t6 < t1) then ((ckI ((2 : Int) * t6)).bind fun x23 =>
    m_slices_stableCmpFunc_impl_Version_l3 p2 (m_slices_stableCmpFunc_impl_Version_l2 p2 n2) ((t1 - x23).toNat + 2) t1 t6 (0 : Int) x23 o0)
    else (some o0)
def m_slices_stableCmpFunc_impl_Version_j1 (p2 : S_impl_Version → S_impl_Version → Option Int) (t1 : Int) (t6 : Int) (t7 : Int) (o0 : (List S_impl_Version)) : Option (List S_impl_Version) :=
  (m_slices_insertionSortCmpFunc_impl_Version o0 t7 t1 p2).bind fun x15 =>
  (lenQ x15.length o0.length ()).bind fun u16 =>
  m_slices_stableCmpFunc_impl_Version_l2 p2 ((t1 - t6).toNat + 1) t1 t6 x15
def m_slices_stableCmpFunc_impl_Version_l1 (p2 : S_impl_Version → S_impl_Version → Option Int) : Nat → Int → Int → Int → Int → (List S_impl_Version) → Option (List S_impl_Version)
  | 0, _, _, _, _, _ => none
  | n1 + 1, t1, t6, t7, t8, o0 =>
    bif decide (t8 ≤ t1) then ((m_slices_insertionSortCmpFunc_impl_Version o0 t7 t8 p2).bind fun x10 =>
    (lenQ x10.length o0.length ()).bind fun u11 =>
    (ckI (t8 + t6)).bind fun x13 =>
    (m_slices_stableCmpFunc_impl_Version_l1 p2 n1) t1 t6 t8 x13 x10)
    else (m_slices_stableCmpFunc_impl_Version_j1 p2 t1 t6 t7 o0)
def m_slices_stableCmpFunc_impl_Version (o0 : (List S_impl_Version)) (a1 : Int) (p2 : S_impl_Version → S_impl_Version → Option Int) : Option (List S_impl_Version) :=
  m_slices_stableCmpFunc_impl_Version_l1 p2 ((a1 - (20 : Int)).toNat + 2) a1 (20 : Int) (0 : Int) (20 : Int) o0
theorem c_slices_stableCmpFunc_impl_Version (o0 : (List S_impl_Version)) (a1 : Int) (p2 : S_impl_Version → S_impl_Version → Option Int) (f2 : FuncId) (q2 : List LV) (hq2 : ∀ k, LV.at?.atL k q2 = false) (hf2 : ∀ a0 a1 v, p2 a0 a1 = some v → Ret Try.prog f2 (e_impl_Version a0 :: e_impl_Version a1 :: q2) (e_int v)) (r : (List S_impl_Version)) (h : m_slices_stableCmpFunc_impl_Version o0 a1 p2 = some r) : Does Try.prog f_slices_stableCmpFunc_impl_Version [.own 0 0 o0.length, e_int a1, .clo f2 q2] [(0, (lob 4 e_impl_Version o0))] (fun x hh => x = .tup [] ∧ hh = [(0, (lob 4 e_impl_Version r))]) := by
  refine Does.goG [0] F_slices_stableCmpFunc_impl_Version rfl e_slices_stableCmpFunc_impl_Version n_slices_stableCmpFunc_impl_Version rfl (rvs := []) rfl rfl ?_
  intro w0 ok0 lent ρ0
  refine LWP.seq_k fun N1 hN1 => ?_
  refine LWP.region (l := [_]) ?_
  refine LWo.assign (e_int (20 : Int)) rfl (hn := ?_)
  refine LWo.nil (hN1 _ ?_)
  refine LWP.seq_k fun N2 hN2 => ?_
  refine LWP.region (l := [_,_,_]) ?_
  refine LWo.move (e_int (20 : Int)) rfl (hn := ?_)
  refine LWo.assign (e_int (0 : Int)) rfl (hn := ?_)
  refine LWo.assign (e_int (20 : Int)) rfl (hn := ?_)
  refine LWo.nil (hN2 _ ?_)
  refine LWP.join (α := Int × Int × Int × (List S_impl_Version)) (fun z : Int × Int × Int × (List S_impl_Version) => [(0, (.own 0 0 (z.2.2.2).length)), (1, (e_int z.1)), (2, (.clo f2 q2)), (6, (e_int z.2.1)), (7, (e_int z.2.2.1))]) (fun z : Int × Int × Int × (List S_impl_Version) => [(0, (lob 4 e_impl_Version z.2.2.2))]) (fun z : Int × Int × Int × (List S_impl_Version) => m_slices_stableCmpFunc_impl_Version_j1 p2 z.1 z.2.1 z.2.2.1 z.2.2.2) r (fun _ => by simp [hkeys]) ?_ ?_
  ·rintro ⟨t1, t6, t7, o0⟩ h
   replace h : m_slices_stableCmpFunc_impl_Version_j1 p2 t1 t6 t7 o0 = some _ := h
   refine LWP.seq_k fun N14 hN14 => ?_
   refine LWP.region (l := [_,_,_,_,_]) ?_
   refine LWo.move (.own 0 0 (o0).length) rfl (hn := ?_)
   refine LWo.move (e_int t7) rfl (hn := ?_)
   refine LWo.move (e_int t1) rfl (hn := ?_)
   refine LWo.move (.clo f2 q2) rfl (hn := ?_)
   refine bk h fun x15 e15 h => ?_
   refine bk h fun u16 e16 h => ?_
   refine LWo.ucallM (e := e_impl_Version) rfl rfl (k_slices_insertionSortCmpFunc_impl_Version _ _ _ _ f2 q2 hq2 hf2 _ e15 0) rfl rfl (some 27) rfl (hn := ?_)
   refine LWo.nil (hN14 _ ?_)
   refine LWP.block ?_
   refine LWP.loopM (α := Int × Int × (List S_impl_Version)) (fun z : Int × Int × (List S_impl_Version) => [(0, (.own 0 0 (z.2.2).length)), (1, (e_int z.1)), (2, (.clo f2 q2)), (6, (e_int z.2.1))]) (fun z : Int × Int × (List S_impl_Version) => [(0, (lob 4 e_impl_Version z.2.2))]) (fun n2 (z : Int × Int × (List S_impl_Version)) => m_slices_stableCmpFunc_impl_Version_l2 p2 n2 z.1 z.2.1 z.2.2) r _ (t1, t6, x15) h (fun _ => rfl) (fun _ => by simp [hkeys]) ⟨(congrArg (LV.own 0 0) ((lenQ_some e16).1.symm)), rfl, rfl, rfl, trivial⟩ ⟨rfl, trivial⟩ ?_
   rintro n2 ⟨t1, t6, o0⟩ h N17 hN17
   replace h : m_slices_stableCmpFunc_impl_Version_l2 p2 (n2 + 1) t1 t6 o0 = some _ := h
   refine LWP.seq_k fun N19 hN19 => ?_
   refine LWP.seq_k fun N20 hN20 => ?_
   refine LWP.region (l := [_,_,_]) ?_
   refine LWo.move (e_int t6) rfl (hn := ?_)
   refine LWo.move (e_int t1) rfl (hn := ?_)
   refine LWo.int _ rfl rfl rfl (hn := ?_)
   refine LWo.nil (hN20 _ ?_)
   refine LWP.cond_split rfl (fun h21 => ?_) (fun h21 => ?_)
   ·have h := bT h21 h
    refine LWP.skip (hN19 _ ?_)
    refine LWP.block ?_
    refine LWP.seq_k fun N22 hN22 => ?_
    refine LWP.region (l := [_,_,_,_]) ?_
    refine LWo.move (e_int t6) rfl (hn := ?_)
    refine bk h fun x23 e23 h => ?_
    refine LWo.int _ rfl rfl (mul_ck e23) (hn := ?_)
    refine LWo.assign (e_int (0 : Int)) rfl (hn := ?_)
    refine LWo.assign (e_int x23) rfl (hn := ?_)
    refine LWo.nil (hN22 _ ?_)
    refine LWP.join (α := Int × Int × Int × (List S_impl_Version)) (fun z : Int × Int × Int × (List S_impl_Version) => [(0, (.own 0 0 (z.2.2.2).length)), (1, (e_int z.1)), (2, (.clo f2 q2)), (6, (e_int z.2.1)), (7, (e_int z.2.2.1))]) (fun z : Int × Int × Int × (List S_impl_Version) => [(0, (lob 4 e_impl_Version z.2.2.2))]) (fun z : Int × Int × Int × (List S_impl_Version) => m_slices_stableCmpFunc_impl_Version_j2 p2 (m_slices_stableCmpFunc_impl_Version_l2 p2 n2) z.1 z.2.1 z.2.2.1 z.2.2.2) r (fun _ => by simp [hkeys]) ?_ ?_
    ·rintro ⟨t1, t6, t7, o0⟩ h
     replace h : m_slices_stableCmpFunc_impl_Version_j2 p2 (m_slices_stableCmpFunc_impl_Version_l2 p2 n2) t1 t6 t7 o0 = some _ := h
     refine LWP.join (α := Int × Int × (List S_impl_Version)) (fun z : Int × Int × (List S_impl_Version) => [(0, (.own 0 0 (z.2.2).length)), (1, (e_int z.1)), (2, (.clo f2 q2)), (6, (e_int z.2.1))]) (fun z : Int × Int × (List S_impl_Version) => [(0, (lob 4 e_impl_Version z.2.2))]) (fun z : Int × Int × (List S_impl_Version) => m_slices_stableCmpFunc_impl_Version_j3 p2 (m_slices_stableCmpFunc_impl_Version_l2 p2 n2) z.1 z.2.1 z.2.2) r (fun _ => by simp [hkeys]) ?_ ?_
     ·rintro ⟨t1, t6, o0⟩ h
      replace h : m_slices_stableCmpFunc_impl_Version_j3 p2 (m_slices_stableCmpFunc_impl_Version_l2 p2 n2) t1 t6 o0 = some _ := h
      refine LWP.region (l := [_,_,_]) ?_
      refine LWo.move (e_int t6) rfl (hn := ?_)
      refine bk h fun x44 e44 h => ?_
      refine LWo.int _ rfl rfl (mul_ck e44) (hn := ?_)
      refine LWo.assign (e_int x44) rfl (hn := ?_)
      refine LWo.nil (hN17 (t1, x44, o0) _ ⟨rfl, rfl, rfl, rfl, trivial⟩ ⟨rfl, trivial⟩ h)
     ·intro N37 hN37
      refine LWP.seq_k fun N38 hN38 => ?_
      refine LWP.region (l := [_,_,_,_]) ?_
      refine LWo.move (e_int t7) rfl (hn := ?_)
      refine LWo.move (e_int t6) rfl (hn := ?_)
      refine bk h fun x39 e39 h => ?_
      refine LWo.int _ rfl rfl (add_ck e39) (hn := ?_)
      refine LWo.assign (e_int x39) rfl (hn := ?_)
      refine LWo.nil (hN38 _ ?_)
      refine LWP.seq_k fun N40 hN40 => ?_
      refine LWP.region (l := [_,_,_]) ?_
      refine LWo.move (e_int x39) rfl (hn := ?_)
      refine LWo.move (e_int t1) rfl (hn := ?_)
      refine LWo.int _ rfl rfl rfl (hn := ?_)
      refine LWo.nil (hN40 _ ?_)
      refine LWP.cond_split rfl (fun h41 => ?_) (fun h41 => ?_)
      ·have h := bT h41 h
       refine LWP.region (l := [_,_,_,_,_,_]) ?_
       refine LWo.move (.own 0 0 (o0).length) rfl (hn := ?_)
       refine LWo.move (e_int t7) rfl (hn := ?_)
       refine LWo.move (e_int x39) rfl (hn := ?_)
       refine LWo.move (e_int t1) rfl (hn := ?_)
       refine LWo.move (.clo f2 q2) rfl (hn := ?_)
       refine bk h fun x42 e42 h => ?_
       refine bk h fun u43 e43 h => ?_
       refine LWo.ucallM (e := e_impl_Version) rfl rfl (k_slices_symMergeCmpFunc_impl_Version 1000000000 _ _ _ _ _ f2 q2 hq2 hf2 _ e42 0) rfl rfl (some 60) rfl (hn := ?_)
       refine LWo.nil (hN37 (t1, t6, x42) _ ⟨(congrArg (LV.own 0 0) ((lenQ_some e43).1.symm)), rfl, rfl, rfl, trivial⟩ ⟨rfl, trivial⟩ h)
      ·have h := bF h41 h
       refine LWP.skip (hN37 (t1, t6, o0) _ ⟨rfl, rfl, rfl, rfl, trivial⟩ ⟨rfl, trivial⟩ h)
    ·intro N24 hN24
     refine LWP.block ?_
     refine LWP.loopM (α := Int × Int × Int × Int × (List S_impl_Version)) (fun z : Int × Int × Int × Int × (List S_impl_Version) => [(0, (.own 0 0 (z.2.2.2.2).length)), (1, (e_int z.1)), (2, (.clo f2 q2)), (6, (e_int z.2.1)), (7, (e_int z.2.2.1)), (8, (e_int z.2.2.2.1))]) (fun z : Int × Int × Int × Int × (List S_impl_Version) => [(0, (lob 4 e_impl_Version z.2.2.2.2))]) (fun n3 (z : Int × Int × Int × Int × (List S_impl_Version)) => m_slices_stableCmpFunc_impl_Version_l3 p2 (m_slices_stableCmpFunc_impl_Version_l2 p2 n2) n3 z.1 z.2.1 z.2.2.1 z.2.2.2.1 z.2.2.2.2) r _ (t1, t6, (0 : Int), x23, o0) h (fun _ => rfl) (fun _ => by simp [hkeys]) ⟨rfl, rfl, rfl, rfl, rfl, rfl, trivial⟩ ⟨rfl, trivial⟩ ?_
     rintro n3 ⟨t1, t6, t7, t8, o0⟩ h N25 hN25
     replace h : m_slices_stableCmpFunc_impl_Version_l3 p2 (m_slices_stableCmpFunc_impl_Version_l2 p2 n2) (n3 + 1) t1 t6 t7 t8 o0 = some _ := h
     refine LWP.seq_k fun N27 hN27 => ?_
     refine LWP.seq_k fun N28 hN28 => ?_
     refine LWP.region (l := [_,_,_]) ?_
     refine LWo.move (e_int t8) rfl (hn := ?_)
     refine LWo.move (e_int t1) rfl (hn := ?_)
     refine LWo.int _ rfl rfl rfl (hn := ?_)
     refine LWo.nil (hN28 _ ?_)
     refine LWP.cond_split rfl (fun h29 => ?_) (fun h29 => ?_)
     ·have h := bT h29 h
      refine LWP.skip (hN27 _ ?_)
      refine LWP.block ?_
      refine LWP.seq_k fun N30 hN30 => ?_
      refine LWP.region (l := [_,_,_,_,_,_,_,_]) ?_
      refine LWo.move (.own 0 0 (o0).length) rfl (hn := ?_)
      refine LWo.move (e_int t7) rfl (hn := ?_)
      refine LWo.move (e_int t7) rfl (hn := ?_)
      refine LWo.move (e_int t6) rfl (hn := ?_)
      refine bk h fun x31 e31 h => ?_
      refine LWo.int _ rfl rfl (add_ck e31) (hn := ?_)
      refine LWo.move (e_int t8) rfl (hn := ?_)
      refine LWo.move (.clo f2 q2) rfl (hn := ?_)
      refine bk h fun x32 e32 h => ?_
      refine bk h fun u33 e33 h => ?_
      refine LWo.ucallM (e := e_impl_Version) rfl rfl (k_slices_symMergeCmpFunc_impl_Version 1000000000 _ _ _ _ _ f2 q2 hq2 hf2 _ e32 0) rfl rfl (some 43) rfl (hn := ?_)
      refine LWo.nil (hN30 _ ?_)
      refine LWP.seq_k fun N34 hN34 => ?_
      refine LWP.region (l := [_,_]) ?_
      refine LWo.move (e_int t8) rfl (hn := ?_)
      refine LWo.assign (e_int t8) rfl (hn := ?_)
      refine LWo.nil (hN34 _ ?_)
      refine LWP.region (l := [_,_,_,_,_]) ?_
      refine LWo.move (e_int t8) rfl (hn := ?_)
      refine LWo.move (e_int t6) rfl (hn := ?_)
      refine bk h fun x35 e35 h => ?_
      refine LWo.int _ rfl rfl (mul_ck e35) (hn := ?_)
      refine bk h fun x36 e36 h => ?_
      refine LWo.int _ rfl rfl (add_ck e36) (hn := ?_)
      refine LWo.assign (e_int x36) rfl (hn := ?_)
      refine LWo.nil (hN25 (t1, t6, t8, x36, x32) _ ⟨(congrArg (LV.own 0 0) ((lenQ_some e33).1.symm)), rfl, rfl, rfl, rfl, rfl, trivial⟩ ⟨rfl, trivial⟩ h)
     ·have h := bF h29 h
      refine LWP.exit (hN24 (t1, t6, t7, o0) _ ⟨rfl, rfl, rfl, rfl, rfl, trivial⟩ ⟨rfl, trivial⟩ h)
   ·have h := bF h21 h
    obtain rfl := Option.some.inj h
    refine LWP.exit (QG.mk (.inl rfl) (.nil) (RetOK.many1 (.nil) (by simp) (by decide) rfl rfl rfl rfl rfl) rfl rfl)
  ·intro N3 hN3
   refine LWP.block ?_
   refine LWP.loopM (α := Int × Int × Int × Int × (List S_impl_Version)) (fun z : Int × Int × Int × Int × (List S_impl_Version) => [(0, (.own 0 0 (z.2.2.2.2).length)), (1, (e_int z.1)), (2, (.clo f2 q2)), (6, (e_int z.2.1)), (7, (e_int z.2.2.1)), (8, (e_int z.2.2.2.1))]) (fun z : Int × Int × Int × Int × (List S_impl_Version) => [(0, (lob 4 e_impl_Version z.2.2.2.2))]) (fun n1 (z : Int × Int × Int × Int × (List S_impl_Version)) => m_slices_stableCmpFunc_impl_Version_l1 p2 n1 z.1 z.2.1 z.2.2.1 z.2.2.2.1 z.2.2.2.2) r _ (a1, (20 : Int), (0 : Int), (20 : Int), o0) h (fun _ => rfl) (fun _ => by simp [hkeys]) ⟨rfl, rfl, rfl, rfl, rfl, rfl, trivial⟩ ⟨rfl, trivial⟩ ?_
   rintro n1 ⟨t1, t6, t7, t8, o0⟩ h N4 hN4
   replace h : m_slices_stableCmpFunc_impl_Version_l1 p2 (n1 + 1) t1 t6 t7 t8 o0 = some _ := h
   refine LWP.seq_k fun N6 hN6 => ?_
   refine LWP.seq_k fun N7 hN7 => ?_
   refine LWP.region (l := [_,_,_]) ?_
   refine LWo.move (e_int t8) rfl (hn := ?_)
   refine LWo.move (e_int t1) rfl (hn := ?_)
   refine LWo.int _ rfl rfl rfl (hn := ?_)
   refine LWo.nil (hN7 _ ?_)
   refine LWP.cond_split rfl (fun h8 => ?_) (fun h8 => ?_)
   ·have h := bT h8 h
    refine LWP.skip (hN6 _ ?_)
    refine LWP.block ?_
    refine LWP.seq_k fun N9 hN9 => ?_
    refine LWP.region (l := [_,_,_,_,_]) ?_
    refine LWo.move (.own 0 0 (o0).length) rfl (hn := ?_)
    refine LWo.move (e_int t7) rfl (hn := ?_)
    refine LWo.move (e_int t8) rfl (hn := ?_)
    refine LWo.move (.clo f2 q2) rfl (hn := ?_)
    refine bk h fun x10 e10 h => ?_
    refine bk h fun u11 e11 h => ?_
    refine LWo.ucallM (e := e_impl_Version) rfl rfl (k_slices_insertionSortCmpFunc_impl_Version _ _ _ _ f2 q2 hq2 hf2 _ e10 0) rfl rfl (some 18) rfl (hn := ?_)
    refine LWo.nil (hN9 _ ?_)
    refine LWP.seq_k fun N12 hN12 => ?_
    refine LWP.region (l := [_,_]) ?_
    refine LWo.move (e_int t8) rfl (hn := ?_)
    refine LWo.assign (e_int t8) rfl (hn := ?_)
    refine LWo.nil (hN12 _ ?_)
    refine LWP.region (l := [_,_,_,_]) ?_
    refine LWo.move (e_int t8) rfl (hn := ?_)
    refine LWo.move (e_int t6) rfl (hn := ?_)
    refine bk h fun x13 e13 h => ?_
    refine LWo.int _ rfl rfl (add_ck e13) (hn := ?_)
    refine LWo.assign (e_int x13) rfl (hn := ?_)
    refine LWo.nil (hN4 (t1, t6, t8, x13, x10) _ ⟨(congrArg (LV.own 0 0) ((lenQ_some e11).1.symm)), rfl, rfl, rfl, rfl, rfl, trivial⟩ ⟨rfl, trivial⟩ h)
   ·have h := bF h8 h
    refine LWP.exit (hN3 (t1, t6, t7, o0) _ ⟨rfl, rfl, rfl, rfl, rfl, trivial⟩ ⟨rfl, trivial⟩ h)
theorem k_slices_stableCmpFunc_impl_Version (o0 : (List S_impl_Version)) (a1 : Int) (p2 : S_impl_Version → S_impl_Version → Option Int) (f2 : FuncId) (q2 : List LV) (hq2 : ∀ k, LV.at?.atL k q2 = false) (hf2 : ∀ a0 a1 v, p2 a0 a1 = some v → Ret Try.prog f2 (e_impl_Version a0 :: e_impl_Version a1 :: q2) (e_int v)) (r : (List S_impl_Version)) (h : m_slices_stableCmpFunc_impl_Version o0 a1 p2 = some r) (k : Nat) : Does Try.prog f_slices_stableCmpFunc_impl_Version [.own k 0 o0.length, e_int a1, .clo f2 q2] [(k, (lob 4 e_impl_Version o0))] (fun x hh => x = .tup [] ∧ hh = [(k, (lob 4 e_impl_Version r))]) :=
  Does.nameO (c_slices_stableCmpFunc_impl_Version o0 a1 p2 f2 q2 hq2 hf2 r h) (fun k => (atC rfl (atC (hq2 k) (atN _)))) k

def m_slices_SortStableFunc_Limpl_Version_impl_Version (o0 : (List S_impl_Version)) (p1 : S_impl_Version → S_impl_Version → Option Int) : Option (List S_impl_Version) :=
  (m_slices_stableCmpFunc_impl_Version o0 (o0.length : Int) p1).bind fun x1 =>
  (lenQ x1.length o0.length ()).bind fun u2 =>
  some x1
theorem c_slices_SortStableFunc_Limpl_Version_impl_Version (o0 : (List S_impl_Version)) (p1 : S_impl_Version → S_impl_Version → Option Int) (f1 : FuncId) (q1 : List LV) (hq1 : ∀ k, LV.at?.atL k q1 = false) (hf1 : ∀ a0 a1 v, p1 a0 a1 = some v → Ret Try.prog f1 (e_impl_Version a0 :: e_impl_Version a1 :: q1) (e_int v)) (r : (List S_impl_Version)) (h : m_slices_SortStableFunc_Limpl_Version_impl_Version o0 p1 = some r) : Does Try.prog f_slices_SortStableFunc_Limpl_Version_impl_Version [.own 0 0 o0.length, .clo f1 q1] [(0, (lob 4 e_impl_Version o0))] (fun x hh => x = .tup [] ∧ hh = [(0, (lob 4 e_impl_Version r))]) := by
  refine Does.goG [0] F_slices_SortStableFunc_Limpl_Version_impl_Version rfl e_slices_SortStableFunc_Limpl_Version_impl_Version n_slices_SortStableFunc_Limpl_Version_impl_Version rfl (rvs := []) rfl rfl ?_
  intro w0 ok0 lent ρ0
  refine LWP.region (l := [_,_,_,_,_]) ?_
  refine LWo.move (.own 0 0 (o0).length) rfl (hn := ?_)
  refine LWo.move (.own 0 0 (o0).length) rfl (hn := ?_)
  refine LWo.lenO u_Limpl_Version rfl (hn := ?_)
  refine LWo.move (.clo f1 q1) rfl (hn := ?_)
  refine bk h fun x1 e1 h => ?_
  refine bk h fun u2 e2 h => ?_
  refine LWo.ucallM (e := e_impl_Version) rfl rfl (k_slices_stableCmpFunc_impl_Version _ _ _ f1 q1 hq1 hf1 _ e1 0) rfl rfl (some 8) rfl (hn := ?_)
  obtain rfl := Option.some.inj h
  refine LWo.nil (QG.mk (.inl rfl) (.nil) (RetOK.many1 (.nil) (by simp) (by decide) rfl rfl rfl rfl rfl) rfl rfl)
theorem k_slices_SortStableFunc_Limpl_Version_impl_Version (o0 : (List S_impl_Version)) (p1 : S_impl_Version → S_impl_Version → Option Int) (f1 : FuncId) (q1 : List LV) (hq1 : ∀ k, LV.at?.atL k q1 = false) (hf1 : ∀ a0 a1 v, p1 a0 a1 = some v → Ret Try.prog f1 (e_impl_Version a0 :: e_impl_Version a1 :: q1) (e_int v)) (r : (List S_impl_Version)) (h : m_slices_SortStableFunc_Limpl_Version_impl_Version o0 p1 = some r) (k : Nat) : Does Try.prog f_slices_SortStableFunc_Limpl_Version_impl_Version [.own k 0 o0.length, .clo f1 q1] [(k, (lob 4 e_impl_Version o0))] (fun x hh => x = .tup [] ∧ hh = [(k, (lob 4 e_impl_Version r))]) :=
  Does.nameO (c_slices_SortStableFunc_Limpl_Version_impl_Version o0 p1 f1 q1 hq1 hf1 r h) (fun k => (atC (hq1 k) (atN _))) k

def m_cmp_isNaN_int (a0 : Int) : Option Bool :=
  some (a0 != a0)
theorem c_cmp_isNaN_int (a0 : Int) (r : Bool) (h : m_cmp_isNaN_int a0 = some r) : Ret Try.prog f_cmp_isNaN_int [e_int a0] (e_bool r) := by
  refine Does.goG [] F_cmp_isNaN_int rfl e_cmp_isNaN_int n_cmp_isNaN_int rfl (rvs := [.tmp 2]) rfl rfl ?_
  intro w0 ok0 lent ρ0
  refine LWP.seq_k fun N1 hN1 => ?_
  refine LWP.region (l := [_]) ?_
  refine LWo.assign (e_bool false) rfl (hn := ?_)
  refine LWo.nil (hN1 _ ?_)
  refine LWP.seq_k fun N2 hN2 => ?_
  refine LWP.region (l := [_,_,_,_]) ?_
  refine LWo.move (e_int a0) rfl (hn := ?_)
  refine LWo.move (e_int a0) rfl (hn := ?_)
  refine LWo.int _ rfl rfl rfl (hn := ?_)
  refine LWo.assign (e_bool (a0 != a0)) rfl (hn := ?_)
  refine LWo.nil (hN2 _ ?_)
  obtain rfl := Option.some.inj h
  refine LWP.ret (QG.mk (.inr rfl) (.cons (.tmp (x := (e_bool (a0 != a0))) rfl) (.nil)) (RetOK.one0 (.pure rfl) (by decide)) rfl rfl)

def m_cmp_Compare_int (a0 : Int) (a1 : Int) : Option Int :=
  (m_cmp_isNaN_int a0).bind fun x3 =>
  (m_cmp_isNaN_int a1).bind fun x5 =>
  bif x3 then (bif x5 then (some (0 : Int))
    else (some (-1 : Int)))
  else (bif x5 then (some (1 : Int))
  else (bif decide (a0 < a1) then (some (-1 : Int))
  else (bif decide (a0 > a1) then (some (1 : Int))
  else (some (0 : Int)))))
theorem c_cmp_Compare_int (a0 : Int) (a1 : Int) (r : Int) (h : m_cmp_Compare_int a0 a1 = some r) : Ret Try.prog f_cmp_Compare_int [e_int a0, e_int a1] (e_int r) := by
  refine Does.goG [] F_cmp_Compare_int rfl e_cmp_Compare_int n_cmp_Compare_int rfl (rvs := [.tmp 4]) rfl rfl ?_
  intro w0 ok0 lent ρ0
  refine LWP.seq_k fun N1 hN1 => ?_
  refine LWP.region (l := [_]) ?_
  refine LWo.assign (e_int (0 : Int)) rfl (hn := ?_)
  refine LWo.nil (hN1 _ ?_)
  refine LWP.seq_k fun N2 hN2 => ?_
  refine LWP.region (l := [_,_,_]) ?_
  refine LWo.move (e_int a0) rfl (hn := ?_)
  refine bk h fun x3 e3 h => ?_
  refine LWo.vcall rfl rfl (c_cmp_isNaN_int _ _ e3) (.same (.nil)) (hn := ?_)
  refine LWo.assign (e_bool x3) rfl (hn := ?_)
  refine LWo.nil (hN2 _ ?_)
  refine LWP.seq_k fun N4 hN4 => ?_
  refine LWP.region (l := [_,_,_]) ?_
  refine LWo.move (e_int a1) rfl (hn := ?_)
  refine bk h fun x5 e5 h => ?_
  refine LWo.vcall rfl rfl (c_cmp_isNaN_int _ _ e5) (.same (.nil)) (hn := ?_)
  refine LWo.assign (e_bool x5) rfl (hn := ?_)
  refine LWo.nil (hN4 _ ?_)
  refine LWP.seq_k fun N6 hN6 => ?_
  refine LWP.seq_k fun N7 hN7 => ?_
  refine LWP.region (l := [_]) ?_
  refine LWo.move (e_bool x3) rfl (hn := ?_)
  refine LWo.nil (hN7 _ ?_)
  refine LWP.cond_split rfl (fun h8 => ?_) (fun h8 => ?_)
  ·have h := bT h8 h
   refine LWP.seq_k fun N9 hN9 => ?_
   refine LWP.seq_k fun N10 hN10 => ?_
   refine LWP.region (l := [_]) ?_
   refine LWo.move (e_bool x5) rfl (hn := ?_)
   refine LWo.nil (hN10 _ ?_)
   refine LWP.cond_split rfl (fun h11 => ?_) (fun h11 => ?_)
   ·have h := bT h11 h
    refine LWP.seq_k fun N12 hN12 => ?_
    refine LWP.region (l := [_]) ?_
    refine LWo.assign (e_int (0 : Int)) rfl (hn := ?_)
    refine LWo.nil (hN12 _ ?_)
    obtain rfl := Option.some.inj h
    refine LWP.ret (QG.mk (.inr rfl) (.cons (.tmp (x := (e_int (0 : Int))) rfl) (.nil)) (RetOK.one0 (.pure rfl) (by decide)) rfl rfl)
   ·have h := bF h11 h
    refine LWP.skip (hN9 _ ?_)
    refine LWP.seq_k fun N13 hN13 => ?_
    refine LWP.region (l := [_]) ?_
    refine LWo.assign (e_int (-1 : Int)) rfl (hn := ?_)
    refine LWo.nil (hN13 _ ?_)
    obtain rfl := Option.some.inj h
    refine LWP.ret (QG.mk (.inr rfl) (.cons (.tmp (x := (e_int (-1 : Int))) rfl) (.nil)) (RetOK.one0 (.pure rfl) (by decide)) rfl rfl)
  ·have h := bF h8 h
   refine LWP.skip (hN6 _ ?_)
   refine LWP.seq_k fun N14 hN14 => ?_
   refine LWP.seq_k fun N15 hN15 => ?_
   refine LWP.region (l := [_]) ?_
   refine LWo.move (e_bool x5) rfl (hn := ?_)
   refine LWo.nil (hN15 _ ?_)
   refine LWP.cond_split rfl (fun h16 => ?_) (fun h16 => ?_)
   ·have h := bT h16 h
    refine LWP.seq_k fun N17 hN17 => ?_
    refine LWP.region (l := [_]) ?_
    refine LWo.assign (e_int (1 : Int)) rfl (hn := ?_)
    refine LWo.nil (hN17 _ ?_)
    obtain rfl := Option.some.inj h
    refine LWP.ret (QG.mk (.inr rfl) (.cons (.tmp (x := (e_int (1 : Int))) rfl) (.nil)) (RetOK.one0 (.pure rfl) (by decide)) rfl rfl)
   ·have h := bF h16 h
    refine LWP.skip (hN14 _ ?_)
    refine LWP.seq_k fun N18 hN18 => ?_
    refine LWP.seq_k fun N19 hN19 => ?_
    refine LWP.region (l := [_,_,_]) ?_
    refine LWo.move (e_int a0) rfl (hn := ?_)
    refine LWo.move (e_int a1) rfl (hn := ?_)
    refine LWo.int _ rfl rfl rfl (hn := ?_)
    refine LWo.nil (hN19 _ ?_)
    refine LWP.cond_split rfl (fun h20 => ?_) (fun h20 => ?_)
    ·have h := bT h20 h
     refine LWP.seq_k fun N21 hN21 => ?_
     refine LWP.region (l := [_]) ?_
     refine LWo.assign (e_int (-1 : Int)) rfl (hn := ?_)
     refine LWo.nil (hN21 _ ?_)
     obtain rfl := Option.some.inj h
     refine LWP.ret (QG.mk (.inr rfl) (.cons (.tmp (x := (e_int (-1 : Int))) rfl) (.nil)) (RetOK.one0 (.pure rfl) (by decide)) rfl rfl)
    ·have h := bF h20 h
     refine LWP.skip (hN18 _ ?_)
     refine LWP.seq_k fun N22 hN22 => ?_
     refine LWP.seq_k fun N23 hN23 => ?_
     refine LWP.region (l := [_,_,_]) ?_
     refine LWo.move (e_int a0) rfl (hn := ?_)
     refine LWo.move (e_int a1) rfl (hn := ?_)
     refine LWo.int _ rfl rfl rfl (hn := ?_)
     refine LWo.nil (hN23 _ ?_)
     refine LWP.cond_split rfl (fun h24 => ?_) (fun h24 => ?_)
     ·have h := bT h24 h
      refine LWP.seq_k fun N25 hN25 => ?_
      refine LWP.region (l := [_]) ?_
      refine LWo.assign (e_int (1 : Int)) rfl (hn := ?_)
      refine LWo.nil (hN25 _ ?_)
      obtain rfl := Option.some.inj h
      refine LWP.ret (QG.mk (.inr rfl) (.cons (.tmp (x := (e_int (1 : Int))) rfl) (.nil)) (RetOK.one0 (.pure rfl) (by decide)) rfl rfl)
     ·have h := bF h24 h
      refine LWP.skip (hN22 _ ?_)
      refine LWP.seq_k fun N26 hN26 => ?_
      refine LWP.region (l := [_]) ?_
      refine LWo.assign (e_int (0 : Int)) rfl (hn := ?_)
      refine LWo.nil (hN26 _ ?_)
      obtain rfl := Option.some.inj h
      refine LWP.ret (QG.mk (.inr rfl) (.cons (.tmp (x := (e_int (0 : Int))) rfl) (.nil)) (RetOK.one0 (.pure rfl) (by decide)) rfl rfl)

def m_cmp_Or_int_j1 (t3 : Int) : Option Int :=
  some t3
def m_cmp_Or_int_l1 : Nat → Int → (List Int) → Int → Int → Option Int
  | 0, _, _, _, _ => none
  | n1 + 1, t3, t6, t7, t8 =>
    bif decide (t8 < t7) then ((at? t6 t8).bind fun x12 =>
    bif (x12 != t3) then (some x12)
    else ((ckI (t8 + (1 : Int))).bind fun x16 =>
    (m_cmp_Or_int_l1  n1) t3 t6 t7 x16))
    else (m_cmp_Or_int_j1  t3)
def m_cmp_Or_int (a0 : (List Int)) : Option Int :=
  m_cmp_Or_int_l1  (((a0.length : Int) - (0 : Int)).toNat + 1) (0 : Int) a0 (a0.length : Int) (0 : Int)
theorem c_cmp_Or_int (a0 : (List Int)) (r : Int) (h : m_cmp_Or_int a0 = some r) : Ret Try.prog f_cmp_Or_int [e_Lint a0] (e_int r) := by
  refine Does.goG [] F_cmp_Or_int rfl e_cmp_Or_int n_cmp_Or_int rfl (rvs := [.tmp 2]) rfl rfl ?_
  intro w0 ok0 lent ρ0
  refine LWP.seq_k fun N1 hN1 => ?_
  refine LWP.region (l := [_]) ?_
  refine LWo.assign (e_int (0 : Int)) rfl (hn := ?_)
  refine LWo.nil (hN1 _ ?_)
  refine LWP.seq_k fun N2 hN2 => ?_
  refine LWP.region (l := [_]) ?_
  refine LWo.assign (e_int (0 : Int)) rfl (hn := ?_)
  refine LWo.nil (hN2 _ ?_)
  refine LWP.join (α := Int) (fun z : Int => [(3, (e_int z))]) (fun z : Int => []) (fun z : Int => m_cmp_Or_int_j1  z) r (fun _ => by simp [hkeys]) ?_ ?_
  ·rintro t3 h
   replace h : m_cmp_Or_int_j1  t3 = some _ := h
   refine LWP.seq_k fun N17 hN17 => ?_
   refine LWP.region (l := [_,_]) ?_
   refine LWo.move (e_int t3) rfl (hn := ?_)
   refine LWo.assign (e_int t3) rfl (hn := ?_)
   refine LWo.nil (hN17 _ ?_)
   obtain rfl := Option.some.inj h
   refine LWP.ret (QG.mk (.inr rfl) (.cons (.tmp (x := (e_int t3)) rfl) (.nil)) (RetOK.one0 (.pure rfl) (by decide)) rfl rfl)
  ·intro N3 hN3
   refine LWP.seq_k fun N4 hN4 => ?_
   refine LWP.region (l := [_,_,_]) ?_
   refine LWo.move (e_Lint a0) rfl (hn := ?_)
   refine LWo.lenM (f := e_int) (l := a0) u_Lint rfl (hn := ?_)
   refine LWo.move (e_int (0 : Int)) rfl (hn := ?_)
   refine LWo.nil (hN4 _ ?_)
   refine LWP.block ?_
   refine LWP.loopM (α := Int × (List Int) × Int × Int) (fun z : Int × (List Int) × Int × Int => [(3, (e_int z.1)), (6, (e_Lint z.2.1)), (7, (e_int z.2.2.1)), (8, (e_int z.2.2.2))]) (fun z : Int × (List Int) × Int × Int => []) (fun n1 (z : Int × (List Int) × Int × Int) => m_cmp_Or_int_l1  n1 z.1 z.2.1 z.2.2.1 z.2.2.2) r _ ((0 : Int), a0, (a0.length : Int), (0 : Int)) h (fun _ => rfl) (fun _ => by simp [hkeys]) ⟨rfl, rfl, rfl, rfl, trivial⟩ trivial ?_
   rintro n1 ⟨t3, t6, t7, t8⟩ h N5 hN5
   replace h : m_cmp_Or_int_l1  (n1 + 1) t3 t6 t7 t8 = some _ := h
   refine LWP.seq_k fun N7 hN7 => ?_
   refine LWP.region (l := [_]) ?_
   refine LWo.int _ rfl rfl rfl (hn := ?_)
   refine LWo.nil (hN7 _ ?_)
   refine LWP.seq_k fun N8 hN8 => ?_
   refine LWP.cond_split rfl (fun h9 => ?_) (fun h9 => ?_)
   ·have h := bT h9 h
    refine LWP.skip (hN8 _ ?_)
    refine LWP.seq_k fun N10 hN10 => ?_
    refine LWP.block ?_
    refine LWP.seq_k fun N11 hN11 => ?_
    refine LWP.region (l := [_,_,_]) ?_
    refine bk h fun x12 e12 h => ?_
    refine LWo.indexM (f := e_int) e12 u_Lint s_int rfl rfl (hn := ?_)
    refine LWo.load1 (c := (e_int x12)) g_int rfl (hn := ?_)
    refine LWo.assign (e_int x12) rfl (hn := ?_)
    refine LWo.nil (hN11 _ ?_)
    refine LWP.seq_k fun N13 hN13 => ?_
    refine LWP.region (l := [_,_,_]) ?_
    refine LWo.move (e_int x12) rfl (hn := ?_)
    refine LWo.move (e_int t3) rfl (hn := ?_)
    refine LWo.int _ rfl rfl rfl (hn := ?_)
    refine LWo.nil (hN13 _ ?_)
    refine LWP.cond_split rfl (fun h14 => ?_) (fun h14 => ?_)
    ·have h := bT h14 h
     refine LWP.seq_k fun N15 hN15 => ?_
     refine LWP.region (l := [_,_]) ?_
     refine LWo.move (e_int x12) rfl (hn := ?_)
     refine LWo.assign (e_int x12) rfl (hn := ?_)
     refine LWo.nil (hN15 _ ?_)
     obtain rfl := Option.some.inj h
     refine LWP.ret (QG.mk (.inr rfl) (.cons (.tmp (x := (e_int x12)) rfl) (.nil)) (RetOK.one0 (.pure rfl) (by decide)) rfl rfl)
    ·have h := bF h14 h
     refine LWP.skip (hN10 _ ?_)
     refine LWP.region (l := [_,_]) ?_
     refine bk h fun x16 e16 h => ?_
     refine LWo.int _ rfl rfl (add_ck e16) (hn := ?_)
     refine LWo.move (e_int x16) rfl (hn := ?_)
     refine LWo.nil (hN5 (t3, t6, t7, x16) _ ⟨rfl, rfl, rfl, rfl, trivial⟩ trivial h)
   ·have h := bF h9 h
    refine LWP.exit (hN3 t3 _ ⟨rfl, trivial⟩ trivial h)

def m_impl_written_1 (a0 : S_impl_Version) (a1 : S_impl_Version) : Option Int :=
  (m_cmp_Compare_int a0.Key a1.Key).bind fun x3 =>
  (m_cmp_Compare_int a0.Born a1.Born).bind fun x4 =>
  (m_cmp_Or_int ([x3, x4] : (List Int))).bind fun x5 =>
  some x5
theorem c_impl_written_1 (a0 : S_impl_Version) (a1 : S_impl_Version) (r : Int) (h : m_impl_written_1 a0 a1 = some r) : Ret Try.prog f_impl_written_1 [e_impl_Version a0, e_impl_Version a1] (e_int r) := by
  refine Does.goG [] F_impl_written_1 rfl e_impl_written_1 n_impl_written_1 rfl (rvs := [.tmp 4]) rfl rfl ?_
  intro w0 ok0 lent ρ0
  refine LWP.seq_k fun N1 hN1 => ?_
  refine LWP.region (l := [_,_,_]) ?_
  refine LWo.boxF (e_impl_Version a0) rfl rfl rfl (hn := ?_)
  refine LWo.boxF (e_impl_Version a1) rfl rfl rfl (hn := ?_)
  refine LWo.assign (e_int (0 : Int)) rfl (hn := ?_)
  refine LWo.nil (hN1 _ ?_)
  refine LWP.seq_k fun N2 hN2 => ?_
  refine bk h fun x3 e3 h => ?_
  refine bk h fun x4 e4 h => ?_
  refine bk h fun x5 e5 h => ?_
  refine LWP.drawF (l := [_,_,_,_,_,_,_,_,_,_,_,_,_]) [] [2, 3] [([2], []), ([5], []), ([3], []), ([7], []), ([6, 8], []), ([2], []), ([10], []), ([3], []), ([12], []), ([11, 13], []), ([9, 14], []), ([15], []), ([16], [])] [4] [] mixed (by kernel_rfl) rfl (by decide) ?_
  refine dq 5 rfl (fun _ g u h => LWo.fieldAddr _ u_impl_Version rfl s_int u.1 rfl (hn := .nil (zn g))) ?_
  refine dq 6 rfl (fun _ g u h => LWo.load1 (c := (e_int a0.Key)) g_int u.1 (hn := .nil (zn g))) ?_
  refine dq 7 rfl (fun _ g u h => LWo.fieldAddr _ u_impl_Version rfl s_int u.1 rfl (hn := .nil (zn g))) ?_
  refine dq 8 rfl (fun _ g u h => LWo.load1 (c := (e_int a1.Key)) g_int u.1 (hn := .nil (zn g))) ?_
  refine dq 9 rfl (fun _ g u h => LWo.vcall rfl (av2 u.1 u.2.1) (c_cmp_Compare_int _ _ _ e3) (.same (.same (.nil))) (hn := .nil (zn g))) ?_
  refine dq 10 rfl (fun _ g u h => LWo.fieldAddr _ u_impl_Version rfl s_int u.1 rfl (hn := .nil (zn g))) ?_
  refine dq 11 rfl (fun _ g u h => LWo.load1 (c := (e_int a0.Born)) g_int u.1 (hn := .nil (zn g))) ?_
  refine dq 12 rfl (fun _ g u h => LWo.fieldAddr _ u_impl_Version rfl s_int u.1 rfl (hn := .nil (zn g))) ?_
  refine dq 13 rfl (fun _ g u h => LWo.load1 (c := (e_int a1.Born)) g_int u.1 (hn := .nil (zn g))) ?_
  refine dq 14 rfl (fun _ g u h => LWo.vcall rfl (av2 u.1 u.2.1) (c_cmp_Compare_int _ _ _ e4) (.same (.same (.nil))) (hn := .nil (zn g))) ?_
  refine dq 15 rfl (fun _ g u h => LWo.lit (ops := [_, _]) [(e_int x3), (e_int x4)] u_Lint s_int z_int (lv2 u.1 u.2.1) rfl rfl rfl rfl rfl (hn := .nil (zn g))) ?_
  refine dq 16 rfl (fun _ g u h => LWo.vcall rfl (av1 u.1) (c_cmp_Or_int _ _ e5) (.same (.nil)) (hn := .nil (zn g))) ?_
  refine dq 4 rfl (fun _ g u h => LWo.assign (e_int x5) u.1 (hn := .nil (zn g))) ?_
  refine ⟨rfl, by kernel_rfl, hN2 _ ?_⟩
  obtain rfl := Option.some.inj h
  refine LWP.ret (QG.mk (.inr rfl) (.cons (.tmp (x := (e_int x5)) rfl) (.nil)) (RetOK.one0 (.pure rfl) (by decide)) rfl rfl)

def m_impl_written_j5 (o1012 : (List S_impl_Version)) : Option (List S_impl_Version) :=
  (m_slices_SortStableFunc_Limpl_Version_impl_Version o1012 (fun b0_ b1_ => m_impl_written_1 b0_ b1_ )).bind fun x41 =>
  (lenQ x41.length o1012.length ()).bind fun u42 =>
  (m_slices_Clip_Limpl_Version_impl_Version_o x41).bind fun x44 =>
  some x44
def m_impl_written_j4 (k1 : Int → (List S_impl_Write) → Int → Int → (List S_impl_Version) → Option (List S_impl_Version)) (t2 : Int) (t13 : (List S_impl_Write)) (t14 : Int) (t15 : Int) (o1012 : (List S_impl_Version)) : Option (List S_impl_Version) :=
  (ckI (t15 + (1 : Int))).bind fun x39 =>
  k1 t2 t13 t14 x39 o1012
def m_impl_written_j3 (k1 : Int → (List S_impl_Write) → Int → Int → (List S_impl_Version) → Option (List S_impl_Version)) (t2 : Int) (t13 : (List S_impl_Write)) (t14 : Int) (t15 : Int) (o9 : S_impl_Write) (o1012 : (List S_impl_Version)) : Option (List S_impl_Version) :=
  bif (!o9.Gone) then ((m_impl_clone_impl_Value o9.Row).bind fun x37 =>
    (app? o1012 ([(⟨o9.Key, t2, (0 : Int), x37⟩ : S_impl_Version)] : (List S_impl_Version))).bind fun x38 =>
    m_impl_written_j4  k1 t2 t13 t14 t15 x38)
  else (m_impl_written_j4  k1 t2 t13 t14 t15 o1012)
def m_impl_written_j2 (k1 : Int → (List S_impl_Write) → Int → Int → (List S_impl_Version) → Option (List S_impl_Version)) (k2 : Int → (List S_impl_Write) → Int → Int → Int → Int → S_impl_Write → (List S_impl_Version) → Option (List S_impl_Version)) (t2 : Int) (t13 : (List S_impl_Write)) (t14 : Int) (t15 : Int) (t20 : Int) (t21 : Int) (o9 : S_impl_Write) (o1012 : (List S_impl_Version)) : Option (List S_impl_Version) :=
  (ckI (t21 + (1 : Int))).bind fun x34 =>
  k2 t2 t13 t14 t15 t20 x34 o9 o1012
def m_impl_written_j1 (k1 : Int → (List S_impl_Write) → Int → Int → (List S_impl_Version) → Option (List S_impl_Version)) (k2 : Int → (List S_impl_Write) → Int → Int → Int → Int → S_impl_Write → (List S_impl_Version) → Option (List S_impl_Version)) (t2 : Int) (t10 : Int) (t13 : (List S_impl_Write)) (t14 : Int) (t15 : Int) (t20 : Int) (t21 : Int) (t39 : Bool) (o9 : S_impl_Write) (o1012 : (List S_impl_Version)) : Option (List S_impl_Version) :=
  bif t39 then ((at? o1012 t10).bind fun x31 =>
    (at? o1012 t10).bind fun x32 =>
    lt ({ x32 with Died := t2 }) fun y33 =>
    m_impl_written_j2  k1 k2 t2 t13 t14 t15 t20 t21 o9 (o1012.set (t10).toNat y33))
  else (m_impl_written_j2  k1 k2 t2 t13 t14 t15 t20 t21 o9 o1012)
def m_impl_written_l2 (k1 : Int → (List S_impl_Write) → Int → Int → (List S_impl_Version) → Option (List S_impl_Version)) : Nat → Int → (List S_impl_Write) → Int → Int → Int → Int → S_impl_Write → (List S_impl_Version) → Option (List S_impl_Version)
  | 0, _, _, _, _, _, _, _, _ => none
  | n2 + 1, t2, t13, t14, t15, t20, t21, o9, o1012 =>
    bif decide (t21 < t20) then ((at? o1012 t21).bind fun x25 =>
    (at? o1012 t21).bind fun x26 =>
    bif (x26.Key == o9.Key) then ((at? o1012 t21).bind fun x28 =>
      (at? o1012 t21).bind fun x29 =>
      m_impl_written_j1  k1 (m_impl_written_l2  k1 n2) t2 t21 t13 t14 t15 t20 t21 (x29.Died == (0 : Int)) o9 o1012)
    else (m_impl_written_j1  k1 (m_impl_written_l2  k1 n2) t2 t21 t13 t14 t15 t20 t21 false o9 o1012))
    else (m_impl_written_j3  k1 t2 t13 t14 t15 o9 o1012)
def m_impl_written_l1 : Nat → Int → (List S_impl_Write) → Int → Int → (List S_impl_Version) → Option (List S_impl_Version)
  | 0, _, _, _, _, _ => none
  | n1 + 1, t2, t13, t14, t15, o1012 =>
    bif decide (t15 < t14) then ((at? t13 t15).bind fun x13 =>
    lt (x13) fun y14 =>
    m_impl_written_l2  (m_impl_written_l1  n1) (((o1012.length : Int) - (0 : Int)).toNat + 1) t2 t13 t14 t15 (o1012.length : Int) (0 : Int) y14 o1012)
    else (m_impl_written_j5  o1012)
def m_impl_written (a0 : (List S_impl_Version)) (a1 : (List S_impl_Write)) (a2 : Int) : Option (List S_impl_Version) :=
  (m_impl_versionsCopy a0).bind fun x3 =>
  m_impl_written_l1  (((a1.length : Int) - (0 : Int)).toNat + 1) a2 a1 (a1.length : Int) (0 : Int) x3
theorem c_impl_written (a0 : (List S_impl_Version)) (a1 : (List S_impl_Write)) (a2 : Int) (r : (List S_impl_Version)) (h : m_impl_written a0 a1 a2 = some r) : Ret Try.prog f_impl_written [e_Limpl_Version a0, e_Limpl_Write a1, e_int a2] (.nw 4 (r.map e_impl_Version) false) := by
  refine Does.goG [] F_impl_written rfl e_impl_written n_impl_written rfl (rvs := [.tmp 6]) rfl rfl ?_
  intro w0 ok0 lent ρ0
  refine LWP.seq_k fun N1 hN1 => ?_
  refine LWP.region (l := [_]) ?_
  refine LWo.assign _ rfl (hn := ?_)
  refine LWo.ownNil 6 1006 4 rfl rfl rfl ?_
  refine LWo.known 6 (.own 1006 0 ([] : (List S_impl_Version)).length) rfl ?_
  refine LWo.nil (hN1 _ ?_)
  refine LWP.seq_k fun N2 hN2 => ?_
  refine LWP.region (l := [_,_,_]) ?_
  refine LWo.move (e_Limpl_Version a0) rfl (hn := ?_)
  refine bk h fun x3 e3 h => ?_
  refine LWo.ncall (e := e_impl_Version) 1012 rfl rfl (c_impl_versionsCopy _ _ e3) (.same (.nil)) rfl (hn := ?_)
  refine LWo.assign (.own 1012 0 (x3).length) rfl (hn := ?_)
  refine LWo.nil (hN2 _ ?_)
  refine LWP.join (α := (List S_impl_Version)) (fun z : (List S_impl_Version) => [(7, (.own 1012 0 (z).length))]) (fun z : (List S_impl_Version) => [(1012, (lob 4 e_impl_Version z))]) (fun z : (List S_impl_Version) => m_impl_written_j5  z) r (fun _ => by simp [hkeys]) ?_ ?_
  ·rintro o1012 h
   replace h : m_impl_written_j5  o1012 = some _ := h
   refine LWP.seq_k fun N40 hN40 => ?_
   refine LWP.region (l := [_,_]) ?_
   refine LWo.move (.own 1012 0 (o1012).length) rfl (hn := ?_)
   refine bk h fun x41 e41 h => ?_
   refine bk h fun u42 e42 h => ?_
   refine LWo.ucallM (e := e_impl_Version) rfl rfl (k_slices_SortStableFunc_Limpl_Version_impl_Version _ _ f_impl_written_1 [] (fun _ => rfl) (fun b0_ b1_ v hv => c_impl_written_1 b0_ b1_  v hv) _ e41 1012) rfl rfl (some 61) rfl (hn := ?_)
   refine LWo.nil (hN40 _ ?_)
   refine LWP.seq_k fun N43 hN43 => ?_
   refine LWP.region (l := [_,_,_]) ?_
   refine LWo.move (.own 1012 0 (o1012).length) rfl (hn := ?_)
   refine bk h fun x44 e44 h => ?_
   refine LWo.tcallN (e := e_impl_Version) (e' := e_impl_Version) 1063 rfl rfl (c_slices_Clip_Limpl_Version_impl_Version_o _ _ e44) (fun _ => rfl) rfl ((lenQ_some e42).1.symm) rfl rfl (hn := ?_)
   refine LWo.assign (.own 1063 0 (x44).length) rfl (hn := ?_)
   refine LWo.nil (hN43 _ ?_)
   obtain rfl := Option.some.inj h
   refine LWP.ret (QG.mk (.inr rfl) (.cons (.tmp (x := (.own 1063 0 (x44).length)) rfl) (.nil)) (RetOK.one0 (.nwM rfl rfl) (by decide)) rfl rfl)
  ·intro N4 hN4
   refine LWP.seq_k fun N5 hN5 => ?_
   refine LWP.region (l := [_,_,_]) ?_
   refine LWo.move (e_Limpl_Write a1) rfl (hn := ?_)
   refine LWo.lenM (f := e_impl_Write) (l := a1) u_Limpl_Write rfl (hn := ?_)
   refine LWo.move (e_int (0 : Int)) rfl (hn := ?_)
   refine LWo.nil (hN5 _ ?_)
   refine LWP.block ?_
   refine LWP.loopM (α := Int × (List S_impl_Write) × Int × Int × (List S_impl_Version)) (fun z : Int × (List S_impl_Write) × Int × Int × (List S_impl_Version) => [(2, (e_int z.1)), (7, (.own 1012 0 (z.2.2.2.2).length)), (13, (e_Limpl_Write z.2.1)), (14, (e_int z.2.2.1)), (15, (e_int z.2.2.2.1))]) (fun z : Int × (List S_impl_Write) × Int × Int × (List S_impl_Version) => [(1012, (lob 4 e_impl_Version z.2.2.2.2))]) (fun n1 (z : Int × (List S_impl_Write) × Int × Int × (List S_impl_Version)) => m_impl_written_l1  n1 z.1 z.2.1 z.2.2.1 z.2.2.2.1 z.2.2.2.2) r _ (a2, a1, (a1.length : Int), (0 : Int), x3) h (fun _ => rfl) (fun _ => by simp [hkeys]) ⟨rfl, rfl, rfl, rfl, rfl, trivial⟩ ⟨rfl, trivial⟩ ?_
   rintro n1 ⟨t2, t13, t14, t15, o1012⟩ h N6 hN6
   replace h : m_impl_written_l1  (n1 + 1) t2 t13 t14 t15 o1012 = some _ := h
   refine LWP.seq_k fun N8 hN8 => ?_
   refine LWP.region (l := [_]) ?_
   refine LWo.int _ rfl rfl rfl (hn := ?_)
   refine LWo.nil (hN8 _ ?_)
   refine LWP.seq_k fun N9 hN9 => ?_
   refine LWP.cond_split rfl (fun h10 => ?_) (fun h10 => ?_)
   ·have h := bT h10 h
    refine LWP.skip (hN9 _ ?_)
    refine LWP.join (α := Int × (List S_impl_Write) × Int × Int × (List S_impl_Version)) (fun z : Int × (List S_impl_Write) × Int × Int × (List S_impl_Version) => [(2, (e_int z.1)), (7, (.own 1012 0 (z.2.2.2.2).length)), (13, (e_Limpl_Write z.2.1)), (14, (e_int z.2.2.1)), (15, (e_int z.2.2.2.1))]) (fun z : Int × (List S_impl_Write) × Int × Int × (List S_impl_Version) => [(1012, (lob 4 e_impl_Version z.2.2.2.2))]) (fun z : Int × (List S_impl_Write) × Int × Int × (List S_impl_Version) => m_impl_written_j4  (m_impl_written_l1  n1) z.1 z.2.1 z.2.2.1 z.2.2.2.1 z.2.2.2.2) r (fun _ => by simp [hkeys]) ?_ ?_
    ·rintro ⟨t2, t13, t14, t15, o1012⟩ h
     replace h : m_impl_written_j4  (m_impl_written_l1  n1) t2 t13 t14 t15 o1012 = some _ := h
     refine LWP.region (l := [_,_]) ?_
     refine bk h fun x39 e39 h => ?_
     refine LWo.int _ rfl rfl (add_ck e39) (hn := ?_)
     refine LWo.move (e_int x39) rfl (hn := ?_)
     refine LWo.nil (hN6 (t2, t13, t14, x39, o1012) _ ⟨rfl, rfl, rfl, rfl, rfl, trivial⟩ ⟨rfl, trivial⟩ h)
    ·intro N11 hN11
     refine LWP.block ?_
     refine LWP.seq_k fun N12 hN12 => ?_
     refine LWP.region (l := [_,_,_,_]) ?_
     refine bk h fun x13 e13 h => ?_
     refine LWo.indexM (f := e_impl_Write) e13 u_Limpl_Write s_impl_Write rfl rfl (hn := ?_)
     refine LWo.loadN ((e_impl_Write x13)).cells g_impl_Write s_impl_Write rfl (Nat.le_of_ble_eq_true rfl) rfl (hn := ?_)
     refine LWo.alloc_impl_Write 9 rfl (hn := ?_)
     refine lk h fun y14 e14 h => ?_
     refine LWo.storeW (y := (⟨(0 : Int), [], false⟩ : S_impl_Write)) y14 s_impl_Write rfl rfl rfl rfl rfl rfl (by rw [e14]; exact .refl) rfl (hn := ?_)
     refine LWo.nil (hN12 _ ?_)
     refine LWP.join (α := Int × (List S_impl_Write) × Int × Int × S_impl_Write × (List S_impl_Version)) (fun z : Int × (List S_impl_Write) × Int × Int × S_impl_Write × (List S_impl_Version) => [(2, (e_int z.1)), (7, (.own 1012 0 (z.2.2.2.2.2).length)), (9, (.ptr 9 0 0)), (13, (e_Limpl_Write z.2.1)), (14, (e_int z.2.2.1)), (15, (e_int z.2.2.2.1))]) (fun z : Int × (List S_impl_Write) × Int × Int × S_impl_Write × (List S_impl_Version) => [(9, (vob 3 e_impl_Write z.2.2.2.2.1)), (1012, (lob 4 e_impl_Version z.2.2.2.2.2))]) (fun z : Int × (List S_impl_Write) × Int × Int × S_impl_Write × (List S_impl_Version) => m_impl_written_j3  (m_impl_written_l1  n1) z.1 z.2.1 z.2.2.1 z.2.2.2.1 z.2.2.2.2.1 z.2.2.2.2.2) r (fun _ => by simp [hkeys]) ?_ ?_
     ·rintro ⟨t2, t13, t14, t15, o9, o1012⟩ h
      replace h : m_impl_written_j3  (m_impl_written_l1  n1) t2 t13 t14 t15 o9 o1012 = some _ := h
      refine LWP.seq_k fun N35 hN35 => ?_
      refine LWP.region (l := [_,_,_]) ?_
      refine LWo.fieldPtr u_impl_Write rfl s_bool rfl rfl (hn := ?_)
      refine LWo.loadV1 (e_bool o9.Gone)  g_bool rfl rfl rfl (hn := ?_)
      refine LWo.not rfl (hn := ?_)
      refine LWo.nil (hN35 _ ?_)
      refine LWP.cond_split rfl (fun h36 => ?_) (fun h36 => ?_)
      ·have h := bT h36 h
       refine bk h fun x37 e37 h => ?_
       refine bk h fun x38 e38 h => ?_
       refine LWP.drawF (l := [_,_,_,_,_,_,_,_,_,_,_]) [1012] [2, 7, 9, 13, 14, 15] [([7], []), ([9], []), ([50], [9]), ([2], []), ([9], []), ([53], [9]), ([54], []), ([51, 52, 55], []), ([56], []), ([49, 57], [1012]), ([58], [])] [2, 7, 13, 14, 15] [1012] mixed (by kernel_rfl) rfl (by decide) ?_
       refine dq 49 rfl (fun _ g u h => LWo.move (.own 1012 0 (o1012).length) u.1 (hn := .nil (zn g))) ?_
       refine dq 50 rfl (fun _ g u h => LWo.fieldPtr u_impl_Write rfl s_int u.1 rfl (hn := .nil (zn g))) ?_
       refine dq 51 rfl (fun _ g u h => LWo.loadV1 (e_int o9.Key)  g_int u.1 h.1 rfl (hn := .nil (zn g))) ?_
       refine dq 52 rfl (fun _ g u h => LWo.move (e_int t2) u.1 (hn := .nil (zn g))) ?_
       refine dq 53 rfl (fun _ g u h => LWo.fieldPtr u_impl_Write rfl s_Limpl_Value u.1 rfl (hn := .nil (zn g))) ?_
       refine dq 54 rfl (fun _ g u h => LWo.loadV1 (e_Limpl_Value o9.Row)  g_Limpl_Value u.1 h.1 rfl (hn := .nil (zn g))) ?_
       refine dq 55 rfl (fun _ g u h => LWo.vcall rfl (av1 u.1) (c_impl_clone_impl_Value _ _ e37) (.same (.nil)) (hn := .nil (zn g))) ?_
       refine dq 56 rfl (fun _ g u h => LWo.build_impl_Version (parts := [_, _, _, _]) (⟨o9.Key, t2, (0 : Int), x37⟩ : S_impl_Version) (pv4 u.1 u.2.1 rfl u.2.2.1) rfl rfl .refl (hn := .nil (zn g))) ?_
       refine dq 57 rfl (fun _ g u h => LWo.lit (ops := [_]) [(e_impl_Version (⟨o9.Key, t2, (0 : Int), x37⟩ : S_impl_Version))] u_Limpl_Version s_impl_Version z_impl_Version (lv1 u.1) rfl rfl rfl rfl rfl (hn := .nil (zn g))) ?_
       refine ⟨rfl, .make 58 _ 1012 _, (by exact (goodC rfl goodN)), fun _ g u h => LWo.appendM (f := e_impl_Version) e38 rfl u_Limpl_Version u_Limpl_Version (fun _ h => by cases h) s_impl_Version i_impl_Version rfl u.1 h.1 (.sl u.2.1) (lone_of g rfl) rfl (hn := LWo.nil ⟨rfl, .inl rfl, Ef.good_ok (e := .make 58 _ 1012 _) (by exact (goodC rfl goodN)) g⟩), ?_⟩
       refine dq 7 rfl (fun _ g u h => LWo.assign (.own 1012 0 (x38).length) u.1 (hn := .nil (zn g))) ?_
       refine ⟨rfl, by kernel_rfl, hN11 (t2, t13, t14, t15, x38) _ ⟨rfl, rfl, rfl, rfl, rfl, trivial⟩ ⟨rfl, trivial⟩ h⟩
      ·have h := bF h36 h
       refine LWP.skip (hN11 (t2, t13, t14, t15, o1012) _ ⟨rfl, rfl, rfl, rfl, rfl, trivial⟩ ⟨rfl, trivial⟩ h)
     ·intro N15 hN15
      refine LWP.seq_k fun N16 hN16 => ?_
      refine LWP.region (l := [_,_,_]) ?_
      refine LWo.move (.own 1012 0 (o1012).length) rfl (hn := ?_)
      refine LWo.lenO u_Limpl_Version rfl (hn := ?_)
      refine LWo.move (e_int (0 : Int)) rfl (hn := ?_)
      refine LWo.nil (hN16 _ ?_)
      refine LWP.block ?_
      refine LWP.loopM (α := Int × (List S_impl_Write) × Int × Int × Int × Int × S_impl_Write × (List S_impl_Version)) (fun z : Int × (List S_impl_Write) × Int × Int × Int × Int × S_impl_Write × (List S_impl_Version) => [(2, (e_int z.1)), (7, (.own 1012 0 (z.2.2.2.2.2.2.2).length)), (9, (.ptr 9 0 0)), (13, (e_Limpl_Write z.2.1)), (14, (e_int z.2.2.1)), (15, (e_int z.2.2.2.1)), (20, (e_int z.2.2.2.2.1)), (21, (e_int z.2.2.2.2.2.1))]) (fun z : Int × (List S_impl_Write) × Int × Int × Int × Int × S_impl_Write × (List S_impl_Version) => [(9, (vob 3 e_impl_Write z.2.2.2.2.2.2.1)), (1012, (lob 4 e_impl_Version z.2.2.2.2.2.2.2))]) (fun n2 (z : Int × (List S_impl_Write) × Int × Int × Int × Int × S_impl_Write × (List S_impl_Version)) => m_impl_written_l2  (m_impl_written_l1  n1) n2 z.1 z.2.1 z.2.2.1 z.2.2.2.1 z.2.2.2.2.1 z.2.2.2.2.2.1 z.2.2.2.2.2.2.1 z.2.2.2.2.2.2.2) r _ (t2, t13, t14, t15, (o1012.length : Int), (0 : Int), y14, o1012) h (fun _ => rfl) (fun _ => by simp [hkeys]) ⟨rfl, rfl, rfl, rfl, rfl, rfl, rfl, rfl, trivial⟩ ⟨rfl, rfl, trivial⟩ ?_
      rintro n2 ⟨t2, t13, t14, t15, t20, t21, o9, o1012⟩ h N17 hN17
      replace h : m_impl_written_l2  (m_impl_written_l1  n1) (n2 + 1) t2 t13 t14 t15 t20 t21 o9 o1012 = some _ := h
      refine LWP.seq_k fun N19 hN19 => ?_
      refine LWP.region (l := [_]) ?_
      refine LWo.int _ rfl rfl rfl (hn := ?_)
      refine LWo.nil (hN19 _ ?_)
      refine LWP.seq_k fun N20 hN20 => ?_
      refine LWP.cond_split rfl (fun h21 => ?_) (fun h21 => ?_)
      ·have h := bT h21 h
       refine LWP.skip (hN20 _ ?_)
       refine LWP.join (α := Int × (List S_impl_Write) × Int × Int × Int × Int × S_impl_Write × (List S_impl_Version)) (fun z : Int × (List S_impl_Write) × Int × Int × Int × Int × S_impl_Write × (List S_impl_Version) => [(2, (e_int z.1)), (7, (.own 1012 0 (z.2.2.2.2.2.2.2).length)), (9, (.ptr 9 0 0)), (13, (e_Limpl_Write z.2.1)), (14, (e_int z.2.2.1)), (15, (e_int z.2.2.2.1)), (20, (e_int z.2.2.2.2.1)), (21, (e_int z.2.2.2.2.2.1))]) (fun z : Int × (List S_impl_Write) × Int × Int × Int × Int × S_impl_Write × (List S_impl_Version) => [(9, (vob 3 e_impl_Write z.2.2.2.2.2.2.1)), (1012, (lob 4 e_impl_Version z.2.2.2.2.2.2.2))]) (fun z : Int × (List S_impl_Write) × Int × Int × Int × Int × S_impl_Write × (List S_impl_Version) => m_impl_written_j2  (m_impl_written_l1  n1) (m_impl_written_l2  (m_impl_written_l1  n1) n2) z.1 z.2.1 z.2.2.1 z.2.2.2.1 z.2.2.2.2.1 z.2.2.2.2.2.1 z.2.2.2.2.2.2.1 z.2.2.2.2.2.2.2) r (fun _ => by simp [hkeys]) ?_ ?_
       ·rintro ⟨t2, t13, t14, t15, t20, t21, o9, o1012⟩ h
        replace h : m_impl_written_j2  (m_impl_written_l1  n1) (m_impl_written_l2  (m_impl_written_l1  n1) n2) t2 t13 t14 t15 t20 t21 o9 o1012 = some _ := h
        refine LWP.region (l := [_,_]) ?_
        refine bk h fun x34 e34 h => ?_
        refine LWo.int _ rfl rfl (add_ck e34) (hn := ?_)
        refine LWo.move (e_int x34) rfl (hn := ?_)
        refine LWo.nil (hN17 (t2, t13, t14, t15, t20, x34, o9, o1012) _ ⟨rfl, rfl, rfl, rfl, rfl, rfl, rfl, rfl, trivial⟩ ⟨rfl, rfl, trivial⟩ h)
       ·intro N22 hN22
        refine LWP.block ?_
        refine LWP.seq_k fun N23 hN23 => ?_
        refine LWP.region (l := [_,_]) ?_
        refine LWo.move (e_int t21) rfl (hn := ?_)
        refine LWo.assign (e_int t21) rfl (hn := ?_)
        refine LWo.nil (hN23 _ ?_)
        refine LWP.join (α := Int × Int × (List S_impl_Write) × Int × Int × Int × Int × Bool × S_impl_Write × (List S_impl_Version)) (fun z : Int × Int × (List S_impl_Write) × Int × Int × Int × Int × Bool × S_impl_Write × (List S_impl_Version) => [(2, (e_int z.1)), (7, (.own 1012 0 (z.2.2.2.2.2.2.2.2.2).length)), (9, (.ptr 9 0 0)), (10, (e_int z.2.1)), (13, (e_Limpl_Write z.2.2.1)), (14, (e_int z.2.2.2.1)), (15, (e_int z.2.2.2.2.1)), (20, (e_int z.2.2.2.2.2.1)), (21, (e_int z.2.2.2.2.2.2.1)), (39, (e_bool z.2.2.2.2.2.2.2.1))]) (fun z : Int × Int × (List S_impl_Write) × Int × Int × Int × Int × Bool × S_impl_Write × (List S_impl_Version) => [(9, (vob 3 e_impl_Write z.2.2.2.2.2.2.2.2.1)), (1012, (lob 4 e_impl_Version z.2.2.2.2.2.2.2.2.2))]) (fun z : Int × Int × (List S_impl_Write) × Int × Int × Int × Int × Bool × S_impl_Write × (List S_impl_Version) => m_impl_written_j1  (m_impl_written_l1  n1) (m_impl_written_l2  (m_impl_written_l1  n1) n2) z.1 z.2.1 z.2.2.1 z.2.2.2.1 z.2.2.2.2.1 z.2.2.2.2.2.1 z.2.2.2.2.2.2.1 z.2.2.2.2.2.2.2.1 z.2.2.2.2.2.2.2.2.1 z.2.2.2.2.2.2.2.2.2) r (fun _ => by simp [hkeys]) ?_ ?_
        ·rintro ⟨t2, t10, t13, t14, t15, t20, t21, t39, o9, o1012⟩ h
         replace h : m_impl_written_j1  (m_impl_written_l1  n1) (m_impl_written_l2  (m_impl_written_l1  n1) n2) t2 t10 t13 t14 t15 t20 t21 t39 o9 o1012 = some _ := h
         refine LWP.cond_split rfl (fun h30 => ?_) (fun h30 => ?_)
         ·have h := bT h30 h
          refine LWP.region (l := [_,_,_,_,_,_]) ?_
          refine LWo.move (.own 1012 0 (o1012).length) rfl (hn := ?_)
          refine LWo.move (e_int t10) rfl (hn := ?_)
          refine LWo.move (e_int t2) rfl (hn := ?_)
          refine bk h fun x31 e31 h => ?_
          refine LWo.indexO e31 rfl u_Limpl_Version s_impl_Version rfl rfl rfl (hn := ?_)
          refine LWo.fieldPtr u_impl_Version rfl s_int rfl rfl (hn := ?_)
          refine bk h fun x32 e32 h => ?_
          refine lk h fun y33 e33 h => ?_
          refine LWo.storeO y33 e32 s_int rfl rfl rfl rfl rfl rfl rfl (by rw [e33]; rfl) (hn := ?_)
          refine LWo.nil (hN22 (t2, t13, t14, t15, t20, t21, o9, (o1012.set (t10).toNat y33)) _ ⟨rfl, (congrArg (LV.own 1012 0) List.length_set.symm), rfl, rfl, rfl, rfl, rfl, rfl, trivial⟩ ⟨rfl, rfl, trivial⟩ h)
         ·have h := bF h30 h
          refine LWP.skip (hN22 (t2, t13, t14, t15, t20, t21, o9, o1012) _ ⟨rfl, rfl, rfl, rfl, rfl, rfl, rfl, rfl, trivial⟩ ⟨rfl, rfl, trivial⟩ h)
        ·intro N24 hN24
         refine bk h fun x25 e25 h => ?_
         refine bk h fun x26 e26 h => ?_
         refine bS ((x26.Key == o9.Key)) (fun h27 => ?_) (fun h27 => ?_)
         ·have h := bT h27 h
          refine bk h fun x28 e28 h => ?_
          refine bk h fun x29 e29 h => ?_
          refine LWP.drawF (l := [_,_,_,_,_,_,_,_,_,_,_,_,_,_,_,_]) [] [2, 7, 9, 10, 13, 14, 15, 20, 21] [([7], []), ([10], []), ([24, 25], [1012]), ([26], []), ([27], [1012]), ([9], []), ([29], [9]), ([28, 30], []), ([31], []), ([7, 32], []), ([10, 32], []), ([32, 33, 34], [1012]), ([32, 35], []), ([32, 36], [1012]), ([32, 37], []), ([32, 38], [])] [2, 7, 9, 10, 13, 14, 15, 20, 21, 39] [9, 1012] mixed (by kernel_rfl) rfl (by decide) ?_
          refine dq 24 rfl (fun _ g u h => LWo.move (.own 1012 0 (o1012).length) u.1 (hn := .nil (zn g))) ?_
          refine dq 25 rfl (fun _ g u h => LWo.move (e_int t21) u.1 (hn := .nil (zn g))) ?_
          refine dq 26 rfl (fun _ g u h => LWo.indexO e25 rfl u_Limpl_Version s_impl_Version u.1 u.2.1 h.1 (hn := .nil (zn g))) ?_
          refine dq 27 rfl (fun _ g u h => LWo.fieldPtr u_impl_Version rfl s_int u.1 rfl (hn := .nil (zn g))) ?_
          refine dq 28 rfl (fun _ g u h => LWo.loadO1 (e_int x26.Key) e26 g_int u.1 h.1 rfl (hn := .nil (zn g))) ?_
          refine dq 29 rfl (fun _ g u h => LWo.fieldPtr u_impl_Write rfl s_int u.1 rfl (hn := .nil (zn g))) ?_
          refine dq 30 rfl (fun _ g u h => LWo.loadV1 (e_int o9.Key)  g_int u.1 h.1 rfl (hn := .nil (zn g))) ?_
          refine dq 31 rfl (fun _ g u h => LWo.int _ u.1 u.2.1 rfl (hn := .nil (zn g))) ?_
          refine dq 32 rfl (fun _ g u h => LWo.move (e_bool (x26.Key == o9.Key)) u.1 (hn := .nil (zn g))) ?_
          refine dq 33 rfl (fun _ g u h => LWo.guardY (t := 32) u.2.1 h27 rfl rfl (LWo.move (.own 1012 0 (o1012).length) u.1 (hn := .nil (zn g)))) ?_
          refine dq 34 rfl (fun _ g u h => LWo.guardY (t := 32) u.2.1 h27 rfl rfl (LWo.move (e_int t21) u.1 (hn := .nil (zn g)))) ?_
          refine dq 35 rfl (fun _ g u h => LWo.guardY (t := 32) u.1 h27 rfl rfl (LWo.indexO e28 rfl u_Limpl_Version s_impl_Version u.2.1 u.2.2.1 h.1 (hn := .nil (zn g)))) ?_
          refine dq 36 rfl (fun _ g u h => LWo.guardY (t := 32) u.1 h27 rfl rfl (LWo.fieldPtr u_impl_Version rfl s_int u.2.1 rfl (hn := .nil (zn g)))) ?_
          refine dq 37 rfl (fun _ g u h => LWo.guardY (t := 32) u.1 h27 rfl rfl (LWo.loadO1 (e_int x29.Died) e29 g_int u.2.1 h.1 rfl (hn := .nil (zn g)))) ?_
          refine dq 38 rfl (fun _ g u h => LWo.guardY (t := 32) u.1 h27 rfl rfl (LWo.int _ u.2.1 rfl rfl (hn := .nil (zn g)))) ?_
          refine dq 39 rfl (fun _ g u h => LWo.pickTM (e_bool (x29.Died == (0 : Int))) u.1 h27 u.2.1 (hn := .nil (zn g))) ?_
          refine ⟨rfl, by kernel_rfl, hN24 (t2, t21, t13, t14, t15, t20, t21, (x29.Died == (0 : Int)), o9, o1012) _ ⟨rfl, rfl, rfl, rfl, rfl, rfl, rfl, rfl, rfl, rfl, trivial⟩ ⟨rfl, rfl, trivial⟩ h⟩
         ·have h := bF h27 h
          refine LWP.drawF (l := [_,_,_,_,_,_,_,_,_,_,_,_,_,_,_,_]) [] [2, 7, 9, 10, 13, 14, 15, 20, 21] [([7], []), ([10], []), ([24, 25], [1012]), ([26], []), ([27], [1012]), ([9], []), ([29], [9]), ([28, 30], []), ([31], []), ([7, 32], []), ([10, 32], []), ([32, 33, 34], []), ([32, 35], []), ([32, 36], []), ([32, 37], []), ([32, 38], [])] [2, 7, 9, 10, 13, 14, 15, 20, 21, 39] [9, 1012] mixed (by kernel_rfl) rfl (by decide) ?_
          refine dq 24 rfl (fun _ g u h => LWo.move (.own 1012 0 (o1012).length) u.1 (hn := .nil (zn g))) ?_
          refine dq 25 rfl (fun _ g u h => LWo.move (e_int t21) u.1 (hn := .nil (zn g))) ?_
          refine dq 26 rfl (fun _ g u h => LWo.indexO e25 rfl u_Limpl_Version s_impl_Version u.1 u.2.1 h.1 (hn := .nil (zn g))) ?_
          refine dq 27 rfl (fun _ g u h => LWo.fieldPtr u_impl_Version rfl s_int u.1 rfl (hn := .nil (zn g))) ?_
          refine dq 28 rfl (fun _ g u h => LWo.loadO1 (e_int x26.Key) e26 g_int u.1 h.1 rfl (hn := .nil (zn g))) ?_
          refine dq 29 rfl (fun _ g u h => LWo.fieldPtr u_impl_Write rfl s_int u.1 rfl (hn := .nil (zn g))) ?_
          refine dq 30 rfl (fun _ g u h => LWo.loadV1 (e_int o9.Key)  g_int u.1 h.1 rfl (hn := .nil (zn g))) ?_
          refine dq 31 rfl (fun _ g u h => LWo.int _ u.1 u.2.1 rfl (hn := .nil (zn g))) ?_
          refine dq 32 rfl (fun _ g u h => LWo.move (e_bool (x26.Key == o9.Key)) u.1 (hn := .nil (zn g))) ?_
          refine dq 33 rfl (fun _ g u h => LWo.guardNU (t := 32) u.2.1 h27 rfl rfl rfl rfl rfl (.nil (zn g))) ?_
          refine dq 34 rfl (fun _ g u h => LWo.guardNU (t := 32) u.2.1 h27 rfl rfl rfl rfl rfl (.nil (zn g))) ?_
          refine dq 35 rfl (fun _ g u h => LWo.guardNU (t := 32) u.1 h27 rfl rfl rfl rfl rfl (.nil (zn g))) ?_
          refine dq 36 rfl (fun _ g u h => LWo.guardNU (t := 32) u.1 h27 rfl rfl rfl rfl rfl (.nil (zn g))) ?_
          refine dq 37 rfl (fun _ g u h => LWo.guardNU (t := 32) u.1 h27 rfl rfl rfl rfl rfl (.nil (zn g))) ?_
          refine dq 38 rfl (fun _ g u h => LWo.guardNU (t := 32) u.1 h27 rfl rfl rfl rfl rfl (.nil (zn g))) ?_
          refine dq 39 rfl (fun _ g u h => LWo.pickFM (e_bool false) u.1 h27 rfl (hn := .nil (zn g))) ?_
          refine ⟨rfl, by kernel_rfl, hN24 (t2, t21, t13, t14, t15, t20, t21, false, o9, o1012) _ ⟨rfl, rfl, rfl, rfl, rfl, rfl, rfl, rfl, rfl, rfl, trivial⟩ ⟨rfl, rfl, trivial⟩ h⟩
      ·have h := bF h21 h
       refine LWP.exit (hN15 (t2, t13, t14, t15, o9, o1012) _ ⟨rfl, rfl, rfl, rfl, rfl, rfl, trivial⟩ ⟨rfl, rfl, trivial⟩ h)
   ·have h := bF h10 h
    refine LWP.exit (hN4 o1012 _ ⟨rfl, trivial⟩ ⟨rfl, trivial⟩ h)

def m_impl_logRun_j1 (t0 : (List S_impl_Version)) : Option (List S_impl_Version) :=
  (m_impl_versionsCopy t0).bind fun x16 =>
  some x16
def m_impl_logRun_l1 : Nat → (List S_impl_Version) → (List S_impl_Entry) → Int → Int → Option (List S_impl_Version)
  | 0, _, _, _, _ => none
  | n1 + 1, t0, t7, t8, t9 =>
    bif decide (t9 < t8) then ((at? t7 t9).bind fun x11 =>
    lt (x11) fun y12 =>
    (m_impl_written t0 y12.Writes y12.Time).bind fun x13 =>
    (ckI (t9 + (1 : Int))).bind fun x14 =>
    (m_impl_logRun_l1  n1) x13 t7 t8 x14)
    else (m_impl_logRun_j1  t0)
def m_impl_logRun (a0 : (List S_impl_Version)) (a1 : (List S_impl_Entry)) : Option (List S_impl_Version) :=
  m_impl_logRun_l1  (((a1.length : Int) - (0 : Int)).toNat + 1) a0 a1 (a1.length : Int) (0 : Int)
theorem c_impl_logRun (a0 : (List S_impl_Version)) (a1 : (List S_impl_Entry)) (r : (List S_impl_Version)) (h : m_impl_logRun a0 a1 = some r) : Ret Try.prog f_impl_logRun [e_Limpl_Version a0, e_Limpl_Entry a1] (.nw 4 (r.map e_impl_Version) false) := by
  refine Does.goG [] F_impl_logRun rfl e_impl_logRun n_impl_logRun rfl (rvs := [.tmp 4]) rfl rfl ?_
  intro w0 ok0 lent ρ0
  refine LWP.seq_k fun N1 hN1 => ?_
  refine LWP.region (l := [_]) ?_
  refine LWo.assign _ rfl (hn := ?_)
  refine LWo.ownNil 4 1004 4 rfl rfl rfl ?_
  refine LWo.known 4 (.own 1004 0 ([] : (List S_impl_Version)).length) rfl ?_
  refine LWo.nil (hN1 _ ?_)
  refine LWP.join (α := (List S_impl_Version)) (fun z : (List S_impl_Version) => [(0, (e_Limpl_Version z))]) (fun z : (List S_impl_Version) => []) (fun z : (List S_impl_Version) => m_impl_logRun_j1  z) r (fun _ => by simp [hkeys]) ?_ ?_
  ·rintro t0 h
   replace h : m_impl_logRun_j1  t0 = some _ := h
   refine LWP.seq_k fun N15 hN15 => ?_
   refine LWP.region (l := [_,_,_]) ?_
   refine LWo.move (e_Limpl_Version t0) rfl (hn := ?_)
   refine bk h fun x16 e16 h => ?_
   refine LWo.ncall (e := e_impl_Version) 1021 rfl rfl (c_impl_versionsCopy _ _ e16) (.same (.nil)) rfl (hn := ?_)
   refine LWo.assign (.own 1021 0 (x16).length) rfl (hn := ?_)
   refine LWo.nil (hN15 _ ?_)
   obtain rfl := Option.some.inj h
   refine LWP.ret (QG.mk (.inr rfl) (.cons (.tmp (x := (.own 1021 0 (x16).length)) rfl) (.nil)) (RetOK.one0 (.nwM rfl rfl) (by decide)) rfl rfl)
  ·intro N2 hN2
   refine LWP.seq_k fun N3 hN3 => ?_
   refine LWP.region (l := [_,_,_]) ?_
   refine LWo.move (e_Limpl_Entry a1) rfl (hn := ?_)
   refine LWo.lenM (f := e_impl_Entry) (l := a1) u_Limpl_Entry rfl (hn := ?_)
   refine LWo.move (e_int (0 : Int)) rfl (hn := ?_)
   refine LWo.nil (hN3 _ ?_)
   refine LWP.block ?_
   refine LWP.loopM (α := (List S_impl_Version) × (List S_impl_Entry) × Int × Int) (fun z : (List S_impl_Version) × (List S_impl_Entry) × Int × Int => [(0, (e_Limpl_Version z.1)), (7, (e_Limpl_Entry z.2.1)), (8, (e_int z.2.2.1)), (9, (e_int z.2.2.2))]) (fun z : (List S_impl_Version) × (List S_impl_Entry) × Int × Int => []) (fun n1 (z : (List S_impl_Version) × (List S_impl_Entry) × Int × Int) => m_impl_logRun_l1  n1 z.1 z.2.1 z.2.2.1 z.2.2.2) r _ (a0, a1, (a1.length : Int), (0 : Int)) h (fun _ => rfl) (fun _ => by simp [hkeys]) ⟨rfl, rfl, rfl, rfl, trivial⟩ trivial ?_
   rintro n1 ⟨t0, t7, t8, t9⟩ h N4 hN4
   replace h : m_impl_logRun_l1  (n1 + 1) t0 t7 t8 t9 = some _ := h
   refine LWP.seq_k fun N6 hN6 => ?_
   refine LWP.region (l := [_]) ?_
   refine LWo.int _ rfl rfl rfl (hn := ?_)
   refine LWo.nil (hN6 _ ?_)
   refine LWP.seq_k fun N7 hN7 => ?_
   refine LWP.cond_split rfl (fun h8 => ?_) (fun h8 => ?_)
   ·have h := bT h8 h
    refine LWP.skip (hN7 _ ?_)
    refine LWP.seq_k fun N9 hN9 => ?_
    refine LWP.block ?_
    refine LWP.seq_k fun N10 hN10 => ?_
    refine LWP.region (l := [_,_,_,_]) ?_
    refine bk h fun x11 e11 h => ?_
    refine LWo.indexM (f := e_impl_Entry) e11 u_Limpl_Entry s_impl_Entry rfl rfl (hn := ?_)
    refine LWo.loadN ((e_impl_Entry x11)).cells g_impl_Entry s_impl_Entry rfl (Nat.le_of_ble_eq_true rfl) rfl (hn := ?_)
    refine LWo.alloc_impl_Entry 6 rfl (hn := ?_)
    refine lk h fun y12 e12 h => ?_
    refine LWo.storeW (y := (⟨(0 : Int), []⟩ : S_impl_Entry)) y12 s_impl_Entry rfl rfl rfl rfl rfl rfl (by rw [e12]; exact .refl) rfl (hn := ?_)
    refine LWo.nil (hN10 _ ?_)
    refine LWP.region (l := [_,_,_,_,_,_,_]) ?_
    refine LWo.move (e_Limpl_Version t0) rfl (hn := ?_)
    refine LWo.fieldPtr u_impl_Entry rfl s_Limpl_Write rfl rfl (hn := ?_)
    refine LWo.loadV1 (e_Limpl_Write y12.Writes)  g_Limpl_Write rfl rfl rfl (hn := ?_)
    refine LWo.fieldPtr u_impl_Entry rfl s_int rfl rfl (hn := ?_)
    refine LWo.loadV1 (e_int y12.Time)  g_int rfl rfl rfl (hn := ?_)
    refine bk h fun x13 e13 h => ?_
    refine LWo.vcall rfl rfl (c_impl_written _ _ _ _ e13) (.same (.same (.same (.nil)))) (hn := ?_)
    refine LWo.assign (e_Limpl_Version x13) rfl (hn := ?_)
    refine LWo.nil (hN9 _ ?_)
    refine LWP.region (l := [_,_]) ?_
    refine bk h fun x14 e14 h => ?_
    refine LWo.int _ rfl rfl (add_ck e14) (hn := ?_)
    refine LWo.move (e_int x14) rfl (hn := ?_)
    refine LWo.nil (hN4 (x13, t7, t8, x14) _ ⟨rfl, rfl, rfl, rfl, trivial⟩ trivial h)
   ·have h := bF h8 h
    refine LWP.exit (hN2 t0 _ ⟨rfl, trivial⟩ trivial h)

def m_impl_LogRun (a0 : (List S_impl_Entry)) : Option (List S_impl_Version) :=
  (m_impl_LogOk a0).bind fun x4 =>
  bif (!x4) then (some ([] : (List S_impl_Version)))
  else ((m_impl_logRun ([] : (List S_impl_Version)) a0).bind fun x8 =>
  some x8)
theorem c_impl_LogRun (a0 : (List S_impl_Entry)) (r : (List S_impl_Version)) (h : m_impl_LogRun a0 = some r) : Ret Try.prog f_impl_LogRun [e_Limpl_Entry a0] (.nw 4 (r.map e_impl_Version) false) := by
  refine Does.goG [] F_impl_LogRun rfl e_impl_LogRun n_impl_LogRun rfl (rvs := [.tmp 2]) rfl rfl ?_
  intro w0 ok0 lent ρ0
  refine LWP.seq_k fun N1 hN1 => ?_
  refine LWP.region (l := [_]) ?_
  refine LWo.assign _ rfl (hn := ?_)
  refine LWo.ownNil 2 1002 4 rfl rfl rfl ?_
  refine LWo.known 2 (.own 1002 0 ([] : (List S_impl_Version)).length) rfl ?_
  refine LWo.nil (hN1 _ ?_)
  refine LWP.seq_k fun N2 hN2 => ?_
  refine LWP.seq_k fun N3 hN3 => ?_
  refine LWP.region (l := [_,_,_]) ?_
  refine LWo.move (e_Limpl_Entry a0) rfl (hn := ?_)
  refine bk h fun x4 e4 h => ?_
  refine LWo.vcall rfl rfl (c_impl_LogOk _ _ e4) (.same (.nil)) (hn := ?_)
  refine LWo.not rfl (hn := ?_)
  refine LWo.nil (hN3 _ ?_)
  refine LWP.cond_split rfl (fun h5 => ?_) (fun h5 => ?_)
  ·have h := bT h5 h
   refine LWP.seq_k fun N6 hN6 => ?_
   refine LWP.region (l := [_]) ?_
   refine LWo.assign _ rfl (hn := ?_)
   refine LWo.ownNil 2 1002 4 rfl rfl rfl ?_
   refine LWo.known 2 (.own 1002 0 ([] : (List S_impl_Version)).length) rfl ?_
   refine LWo.nil (hN6 _ ?_)
   obtain rfl := Option.some.inj h
   refine LWP.ret (QG.mk (.inr rfl) (.cons (.tmp (x := (.own 1002 0 (([] : (List S_impl_Version))).length)) rfl) (.nil)) (RetOK.one0 (.nwM rfl rfl) (by decide)) rfl rfl)
  ·have h := bF h5 h
   refine LWP.skip (hN2 _ ?_)
   refine LWP.seq_k fun N7 hN7 => ?_
   refine LWP.region (l := [_,_,_]) ?_
   refine LWo.move (e_Limpl_Entry a0) rfl (hn := ?_)
   refine bk h fun x8 e8 h => ?_
   refine LWo.ncall (e := e_impl_Version) 1007 rfl rfl (c_impl_logRun _ _ _ e8) (.none (.same (.nil))) rfl (hn := ?_)
   refine LWo.assign (.own 1007 0 (x8).length) rfl (hn := ?_)
   refine LWo.nil (hN7 _ ?_)
   obtain rfl := Option.some.inj h
   refine LWP.ret (QG.mk (.inr rfl) (.cons (.tmp (x := (.own 1007 0 (x8).length)) rfl) (.nil)) (RetOK.one0 (.nwM rfl rfl) (by decide)) rfl rfl)

def m_impl_VersionsOk_j4 (t0 : (List S_impl_Version)) : Option Bool :=
  some (decide ((t0.length : Int) ≤ (60 : Int)))
def m_impl_VersionsOk_j3 (k1 : (List S_impl_Version) → (List S_impl_Version) → Int → Int → Option Bool) (t0 : (List S_impl_Version)) (t6 : (List S_impl_Version)) (t7 : Int) (t8 : Int) : Option Bool :=
  (ckI (t8 + (1 : Int))).bind fun x41 =>
  k1 t0 t6 t7 x41
def m_impl_VersionsOk_j2 (k1 : (List S_impl_Version) → (List S_impl_Version) → Int → Int → Option Bool) (t0 : (List S_impl_Version)) (t6 : (List S_impl_Version)) (t7 : Int) (t8 : Int) (t80 : Bool) : Option Bool :=
  bif t80 then (some false)
  else (m_impl_VersionsOk_j3  k1 t0 t6 t7 t8)
def m_impl_VersionsOk_j1 (k1 : (List S_impl_Version) → (List S_impl_Version) → Int → Int → Option Bool) (t0 : (List S_impl_Version)) (t3 : Int) (t6 : (List S_impl_Version)) (t7 : Int) (t8 : Int) (t42 : Bool) (o4 : S_impl_Version) : Option Bool :=
  bif t42 then (some false)
  else (bif (t3 == (0 : Int)) then (m_impl_VersionsOk_j3  k1 t0 t6 t7 t8)
  else ((ckI (t3 - (1 : Int))).bind fun x31 =>
  (at? t0 x31).bind fun x32 =>
  lt (x32) fun y33 =>
  bif decide (y33.Key > o4.Key) then (m_impl_VersionsOk_j2  k1 t0 t6 t7 t8 true)
  else (bif (y33.Key == o4.Key) then (bif decide (y33.Born ≥ o4.Born) then (m_impl_VersionsOk_j2  k1 t0 t6 t7 t8 true)
    else (bif (y33.Died == (0 : Int)) then (m_impl_VersionsOk_j2  k1 t0 t6 t7 t8 true)
      else (m_impl_VersionsOk_j2  k1 t0 t6 t7 t8 (decide (y33.Died > o4.Born)))))
  else (m_impl_VersionsOk_j2  k1 t0 t6 t7 t8 false))))
def m_impl_VersionsOk_l1 : Nat → (List S_impl_Version) → (List S_impl_Version) → Int → Int → Option Bool
  | 0, _, _, _, _ => none
  | n1 + 1, t0, t6, t7, t8 =>
    bif decide (t8 < t7) then ((at? t6 t8).bind fun x11 =>
    lt (x11) fun y12 =>
    (m_impl_keyOk y12.Key).bind fun x15 =>
    bif (!x15) then (m_impl_VersionsOk_j1  (m_impl_VersionsOk_l1  n1) t0 t8 t6 t7 t8 true y12)
    else ((m_impl_between y12.Born (1 : Int) (40 : Int)).bind fun x17 =>
      bif (!x17) then (m_impl_VersionsOk_j1  (m_impl_VersionsOk_l1  n1) t0 t8 t6 t7 t8 true y12)
      else (bif (y12.Died != (0 : Int)) then ((ckI (y12.Born + (1 : Int))).bind fun x20 =>
          (m_impl_between y12.Died x20 (40 : Int)).bind fun x21 =>
          bif (!x21) then (m_impl_VersionsOk_j1  (m_impl_VersionsOk_l1  n1) t0 t8 t6 t7 t8 true y12)
          else ((m_impl_RowOk y12.Row).bind fun x23 =>
            m_impl_VersionsOk_j1  (m_impl_VersionsOk_l1  n1) t0 t8 t6 t7 t8 (!x23) y12))
        else ((m_impl_RowOk y12.Row).bind fun x24 =>
          m_impl_VersionsOk_j1  (m_impl_VersionsOk_l1  n1) t0 t8 t6 t7 t8 (!x24) y12))))
    else (m_impl_VersionsOk_j4  t0)
def m_impl_VersionsOk (a0 : (List S_impl_Version)) : Option Bool :=
  m_impl_VersionsOk_l1  (((a0.length : Int) - (0 : Int)).toNat + 1) a0 a0 (a0.length : Int) (0 : Int)
theorem c_impl_VersionsOk (a0 : (List S_impl_Version)) (r : Bool) (h : m_impl_VersionsOk a0 = some r) : Ret Try.prog f_impl_VersionsOk [e_Limpl_Version a0] (e_bool r) := by
  refine Does.goG [] F_impl_VersionsOk rfl e_impl_VersionsOk n_impl_VersionsOk rfl (rvs := [.tmp 2]) rfl rfl ?_
  intro w0 ok0 lent ρ0
  refine LWP.seq_k fun N1 hN1 => ?_
  refine LWP.region (l := [_]) ?_
  refine LWo.assign (e_bool false) rfl (hn := ?_)
  refine LWo.nil (hN1 _ ?_)
  refine LWP.join (α := (List S_impl_Version)) (fun z : (List S_impl_Version) => [(0, (e_Limpl_Version z))]) (fun z : (List S_impl_Version) => []) (fun z : (List S_impl_Version) => m_impl_VersionsOk_j4  z) r (fun _ => by simp [hkeys]) ?_ ?_
  ·rintro t0 h
   replace h : m_impl_VersionsOk_j4  t0 = some _ := h
   refine LWP.seq_k fun N42 hN42 => ?_
   refine LWP.region (l := [_,_,_,_]) ?_
   refine LWo.move (e_Limpl_Version t0) rfl (hn := ?_)
   refine LWo.lenM (f := e_impl_Version) (l := t0) u_Limpl_Version rfl (hn := ?_)
   refine LWo.int _ rfl rfl rfl (hn := ?_)
   refine LWo.assign (e_bool (decide ((t0.length : Int) ≤ (60 : Int)))) rfl (hn := ?_)
   refine LWo.nil (hN42 _ ?_)
   obtain rfl := Option.some.inj h
   refine LWP.ret (QG.mk (.inr rfl) (.cons (.tmp (x := (e_bool (decide ((t0.length : Int) ≤ (60 : Int))))) rfl) (.nil)) (RetOK.one0 (.pure rfl) (by decide)) rfl rfl)
  ·intro N2 hN2
   refine LWP.seq_k fun N3 hN3 => ?_
   refine LWP.region (l := [_,_,_]) ?_
   refine LWo.move (e_Limpl_Version a0) rfl (hn := ?_)
   refine LWo.lenM (f := e_impl_Version) (l := a0) u_Limpl_Version rfl (hn := ?_)
   refine LWo.move (e_int (0 : Int)) rfl (hn := ?_)
   refine LWo.nil (hN3 _ ?_)
   refine LWP.block ?_
   refine LWP.loopM (α := (List S_impl_Version) × (List S_impl_Version) × Int × Int) (fun z : (List S_impl_Version) × (List S_impl_Version) × Int × Int => [(0, (e_Limpl_Version z.1)), (6, (e_Limpl_Version z.2.1)), (7, (e_int z.2.2.1)), (8, (e_int z.2.2.2))]) (fun z : (List S_impl_Version) × (List S_impl_Version) × Int × Int => []) (fun n1 (z : (List S_impl_Version) × (List S_impl_Version) × Int × Int) => m_impl_VersionsOk_l1  n1 z.1 z.2.1 z.2.2.1 z.2.2.2) r _ (a0, a0, (a0.length : Int), (0 : Int)) h (fun _ => rfl) (fun _ => by simp [hkeys]) ⟨rfl, rfl, rfl, rfl, trivial⟩ trivial ?_
   rintro n1 ⟨t0, t6, t7, t8⟩ h N4 hN4
   replace h : m_impl_VersionsOk_l1  (n1 + 1) t0 t6 t7 t8 = some _ := h
   refine LWP.seq_k fun N6 hN6 => ?_
   refine LWP.region (l := [_]) ?_
   refine LWo.int _ rfl rfl rfl (hn := ?_)
   refine LWo.nil (hN6 _ ?_)
   refine LWP.seq_k fun N7 hN7 => ?_
   refine LWP.cond_split rfl (fun h8 => ?_) (fun h8 => ?_)
   ·have h := bT h8 h
    refine LWP.skip (hN7 _ ?_)
    refine LWP.join (α := (List S_impl_Version) × (List S_impl_Version) × Int × Int) (fun z : (List S_impl_Version) × (List S_impl_Version) × Int × Int => [(0, (e_Limpl_Version z.1)), (6, (e_Limpl_Version z.2.1)), (7, (e_int z.2.2.1)), (8, (e_int z.2.2.2))]) (fun z : (List S_impl_Version) × (List S_impl_Version) × Int × Int => []) (fun z : (List S_impl_Version) × (List S_impl_Version) × Int × Int => m_impl_VersionsOk_j3  (m_impl_VersionsOk_l1  n1) z.1 z.2.1 z.2.2.1 z.2.2.2) r (fun _ => by simp [hkeys]) ?_ ?_
    ·rintro ⟨t0, t6, t7, t8⟩ h
     replace h : m_impl_VersionsOk_j3  (m_impl_VersionsOk_l1  n1) t0 t6 t7 t8 = some _ := h
     refine LWP.region (l := [_,_]) ?_
     refine bk h fun x41 e41 h => ?_
     refine LWo.int _ rfl rfl (add_ck e41) (hn := ?_)
     refine LWo.move (e_int x41) rfl (hn := ?_)
     refine LWo.nil (hN4 (t0, t6, t7, x41) _ ⟨rfl, rfl, rfl, rfl, trivial⟩ trivial h)
    ·intro N9 hN9
     refine LWP.block ?_
     refine LWP.seq_k fun N10 hN10 => ?_
     refine LWP.region (l := [_,_,_,_,_,_]) ?_
     refine LWo.move (e_int t8) rfl (hn := ?_)
     refine bk h fun x11 e11 h => ?_
     refine LWo.indexM (f := e_impl_Version) e11 u_Limpl_Version s_impl_Version rfl rfl (hn := ?_)
     refine LWo.loadN ((e_impl_Version x11)).cells g_impl_Version s_impl_Version rfl (Nat.le_of_ble_eq_true rfl) rfl (hn := ?_)
     refine LWo.alloc_impl_Version 4 rfl (hn := ?_)
     refine LWo.assign (e_int t8) rfl (hn := ?_)
     refine lk h fun y12 e12 h => ?_
     refine LWo.storeW (y := (⟨(0 : Int), (0 : Int), (0 : Int), []⟩ : S_impl_Version)) y12 s_impl_Version rfl rfl rfl rfl rfl rfl (by rw [e12]; exact .refl) rfl (hn := ?_)
     refine LWo.nil (hN10 _ ?_)
     refine LWP.seq_k fun N13 hN13 => ?_
     refine LWP.join (α := (List S_impl_Version) × Int × (List S_impl_Version) × Int × Int × Bool × S_impl_Version) (fun z : (List S_impl_Version) × Int × (List S_impl_Version) × Int × Int × Bool × S_impl_Version => [(0, (e_Limpl_Version z.1)), (3, (e_int z.2.1)), (4, (.ptr 4 0 0)), (6, (e_Limpl_Version z.2.2.1)), (7, (e_int z.2.2.2.1)), (8, (e_int z.2.2.2.2.1)), (42, (e_bool z.2.2.2.2.2.1))]) (fun z : (List S_impl_Version) × Int × (List S_impl_Version) × Int × Int × Bool × S_impl_Version => [(4, (vob 4 e_impl_Version z.2.2.2.2.2.2))]) (fun z : (List S_impl_Version) × Int × (List S_impl_Version) × Int × Int × Bool × S_impl_Version => m_impl_VersionsOk_j1  (m_impl_VersionsOk_l1  n1) z.1 z.2.1 z.2.2.1 z.2.2.2.1 z.2.2.2.2.1 z.2.2.2.2.2.1 z.2.2.2.2.2.2) r (fun _ => by simp [hkeys]) ?_ ?_
     ·rintro ⟨t0, t3, t6, t7, t8, t42, o4⟩ h
      replace h : m_impl_VersionsOk_j1  (m_impl_VersionsOk_l1  n1) t0 t3 t6 t7 t8 t42 o4 = some _ := h
      refine LWP.cond_split rfl (fun h25 => ?_) (fun h25 => ?_)
      ·have h := bT h25 h
       refine LWP.seq_k fun N26 hN26 => ?_
       refine LWP.region (l := [_]) ?_
       refine LWo.assign (e_bool false) rfl (hn := ?_)
       refine LWo.nil (hN26 _ ?_)
       obtain rfl := Option.some.inj h
       refine LWP.ret (QG.mk (.inr rfl) (.cons (.tmp (x := (e_bool false)) rfl) (.nil)) (RetOK.one0 (.pure rfl) (by decide)) rfl rfl)
      ·have h := bF h25 h
       refine LWP.skip (hN13 _ ?_)
       refine LWP.seq_k fun N27 hN27 => ?_
       refine LWP.seq_k fun N28 hN28 => ?_
       refine LWP.region (l := [_,_]) ?_
       refine LWo.move (e_int t3) rfl (hn := ?_)
       refine LWo.int _ rfl rfl rfl (hn := ?_)
       refine LWo.nil (hN28 _ ?_)
       refine LWP.cond_split rfl (fun h29 => ?_) (fun h29 => ?_)
       ·have h := bT h29 h
        refine LWP.exit (hN9 (t0, t6, t7, t8) _ ⟨rfl, rfl, rfl, rfl, trivial⟩ trivial h)
       ·have h := bF h29 h
        refine LWP.skip (hN27 _ ?_)
        refine LWP.seq_k fun N30 hN30 => ?_
        refine LWP.region (l := [_,_,_,_,_,_,_]) ?_
        refine LWo.move (e_Limpl_Version t0) rfl (hn := ?_)
        refine LWo.move (e_int t3) rfl (hn := ?_)
        refine bk h fun x31 e31 h => ?_
        refine LWo.int _ rfl rfl (sub_ck e31) (hn := ?_)
        refine bk h fun x32 e32 h => ?_
        refine LWo.indexM (f := e_impl_Version) e32 u_Limpl_Version s_impl_Version rfl rfl (hn := ?_)
        refine LWo.loadN ((e_impl_Version x32)).cells g_impl_Version s_impl_Version rfl (Nat.le_of_ble_eq_true rfl) rfl (hn := ?_)
        refine LWo.alloc_impl_Version 5 rfl (hn := ?_)
        refine lk h fun y33 e33 h => ?_
        refine LWo.storeW (y := (⟨(0 : Int), (0 : Int), (0 : Int), []⟩ : S_impl_Version)) y33 s_impl_Version rfl rfl rfl rfl rfl rfl (by rw [e33]; exact .refl) rfl (hn := ?_)
        refine LWo.nil (hN30 _ ?_)
        refine LWP.join (α := (List S_impl_Version) × (List S_impl_Version) × Int × Int × Bool) (fun z : (List S_impl_Version) × (List S_impl_Version) × Int × Int × Bool => [(0, (e_Limpl_Version z.1)), (6, (e_Limpl_Version z.2.1)), (7, (e_int z.2.2.1)), (8, (e_int z.2.2.2.1)), (80, (e_bool z.2.2.2.2))]) (fun z : (List S_impl_Version) × (List S_impl_Version) × Int × Int × Bool => []) (fun z : (List S_impl_Version) × (List S_impl_Version) × Int × Int × Bool => m_impl_VersionsOk_j2  (m_impl_VersionsOk_l1  n1) z.1 z.2.1 z.2.2.1 z.2.2.2.1 z.2.2.2.2) r (fun _ => by simp [hkeys]) ?_ ?_
        ·rintro ⟨t0, t6, t7, t8, t80⟩ h
         replace h : m_impl_VersionsOk_j2  (m_impl_VersionsOk_l1  n1) t0 t6 t7 t8 t80 = some _ := h
         refine LWP.cond_split rfl (fun h39 => ?_) (fun h39 => ?_)
         ·have h := bT h39 h
          refine LWP.seq_k fun N40 hN40 => ?_
          refine LWP.region (l := [_]) ?_
          refine LWo.assign (e_bool false) rfl (hn := ?_)
          refine LWo.nil (hN40 _ ?_)
          obtain rfl := Option.some.inj h
          refine LWP.ret (QG.mk (.inr rfl) (.cons (.tmp (x := (e_bool false)) rfl) (.nil)) (RetOK.one0 (.pure rfl) (by decide)) rfl rfl)
         ·have h := bF h39 h
          refine LWP.skip (hN9 (t0, t6, t7, t8) _ ⟨rfl, rfl, rfl, rfl, trivial⟩ trivial h)
        ·intro N34 hN34
         refine LWP.region (l := [_,_,_,_,_,_,_,_,_,_,_,_,_,_,_,_,_,_,_,_,_,_,_,_,_,_,_,_,_,_,_]) ?_
         refine LWo.fieldPtr u_impl_Version rfl s_int rfl rfl (hn := ?_)
         refine LWo.loadV1 (e_int y33.Key)  g_int rfl rfl rfl (hn := ?_)
         refine LWo.fieldPtr u_impl_Version rfl s_int rfl rfl (hn := ?_)
         refine LWo.loadV1 (e_int o4.Key)  g_int rfl rfl rfl (hn := ?_)
         refine LWo.int _ rfl rfl rfl (hn := ?_)
         refine LWo.move (e_bool (decide (y33.Key > o4.Key))) rfl (hn := ?_)
         refine LWo.byCases (t := 55) _ rfl (fun h35 => ?_) (fun h35 => ?_)
         ·have h := bT h35 h
          refine LWo.guardNU (t := 55) rfl h35 rfl rfl rfl rfl rfl ?_
          refine LWo.guardNU (t := 55) rfl h35 rfl rfl rfl rfl rfl ?_
          refine LWo.guardNU (t := 55) rfl h35 rfl rfl rfl rfl rfl ?_
          refine LWo.guardNU (t := 55) rfl h35 rfl rfl rfl rfl rfl ?_
          refine LWo.guardNU (t := 55) rfl h35 rfl rfl rfl rfl rfl ?_
          refine LWo.guardNU (t := 55) rfl h35 rfl rfl rfl rfl rfl ?_
          refine LWo.guardU (t := 61) rfl rfl rfl rfl rfl ?_
          refine LWo.guardU (t := 61) rfl rfl rfl rfl rfl ?_
          refine LWo.guardU (t := 61) rfl rfl rfl rfl rfl ?_
          refine LWo.guardU (t := 61) rfl rfl rfl rfl rfl ?_
          refine LWo.guardU (t := 61) rfl rfl rfl rfl rfl ?_
          refine LWo.guardU (t := 61) rfl rfl rfl rfl rfl ?_
          refine LWo.guardU (t := 67) rfl rfl rfl rfl rfl ?_
          refine LWo.guardU (t := 67) rfl rfl rfl rfl rfl ?_
          refine LWo.guardU (t := 67) rfl rfl rfl rfl rfl ?_
          refine LWo.guardU (t := 61) rfl rfl rfl rfl rfl ?_
          refine LWo.guardU (t := 61) rfl rfl rfl rfl rfl ?_
          refine LWo.guardU (t := 72) rfl rfl rfl rfl rfl ?_
          refine LWo.guardU (t := 72) rfl rfl rfl rfl rfl ?_
          refine LWo.guardU (t := 72) rfl rfl rfl rfl rfl ?_
          refine LWo.guardU (t := 72) rfl rfl rfl rfl rfl ?_
          refine LWo.guardU (t := 72) rfl rfl rfl rfl rfl ?_
          refine LWo.guardU (t := 61) rfl rfl rfl rfl rfl ?_
          refine LWo.guardNU (t := 55) rfl h35 rfl rfl rfl rfl rfl ?_
          refine LWo.pickTM (e_bool true) rfl h35 rfl (hn := ?_)
          refine LWo.nil (hN34 (t0, t6, t7, t8, true) _ ⟨rfl, rfl, rfl, rfl, rfl, trivial⟩ trivial h)
         ·have h := bF h35 h
          refine LWo.guardY (t := 55) rfl h35 rfl rfl ?_
          refine LWo.fieldPtr u_impl_Version rfl s_int rfl rfl (hn := ?_)
          refine LWo.guardY (t := 55) rfl h35 rfl rfl ?_
          refine LWo.loadV1 (e_int y33.Key)  g_int rfl rfl rfl (hn := ?_)
          refine LWo.guardY (t := 55) rfl h35 rfl rfl ?_
          refine LWo.fieldPtr u_impl_Version rfl s_int rfl rfl (hn := ?_)
          refine LWo.guardY (t := 55) rfl h35 rfl rfl ?_
          refine LWo.loadV1 (e_int o4.Key)  g_int rfl rfl rfl (hn := ?_)
          refine LWo.guardY (t := 55) rfl h35 rfl rfl ?_
          refine LWo.int _ rfl rfl rfl (hn := ?_)
          refine LWo.guardY (t := 55) rfl h35 rfl rfl ?_
          refine LWo.move (e_bool (y33.Key == o4.Key)) rfl (hn := ?_)
          refine LWo.byCases (t := 61) _ rfl (fun h36 => ?_) (fun h36 => ?_)
          ·have h := bT h36 h
           refine LWo.guardY (t := 61) rfl h36 rfl rfl ?_
           refine LWo.fieldPtr u_impl_Version rfl s_int rfl rfl (hn := ?_)
           refine LWo.guardY (t := 61) rfl h36 rfl rfl ?_
           refine LWo.loadV1 (e_int y33.Born)  g_int rfl rfl rfl (hn := ?_)
           refine LWo.guardY (t := 61) rfl h36 rfl rfl ?_
           refine LWo.fieldPtr u_impl_Version rfl s_int rfl rfl (hn := ?_)
           refine LWo.guardY (t := 61) rfl h36 rfl rfl ?_
           refine LWo.loadV1 (e_int o4.Born)  g_int rfl rfl rfl (hn := ?_)
           refine LWo.guardY (t := 61) rfl h36 rfl rfl ?_
           refine LWo.int _ rfl rfl rfl (hn := ?_)
           refine LWo.guardY (t := 61) rfl h36 rfl rfl ?_
           refine LWo.move (e_bool (decide (y33.Born ≥ o4.Born))) rfl (hn := ?_)
           refine LWo.byCases (t := 67) _ rfl (fun h37 => ?_) (fun h37 => ?_)
           ·have h := bT h37 h
            refine LWo.guardNU (t := 67) rfl h37 rfl rfl rfl rfl rfl ?_
            refine LWo.guardNU (t := 67) rfl h37 rfl rfl rfl rfl rfl ?_
            refine LWo.guardNU (t := 67) rfl h37 rfl rfl rfl rfl rfl ?_
            refine LWo.guardY (t := 61) rfl h36 rfl rfl ?_
            refine LWo.pickTM (e_bool true) rfl h37 rfl (hn := ?_)
            refine LWo.guardY (t := 61) rfl h36 rfl rfl ?_
            refine LWo.move (e_bool true) rfl (hn := ?_)
            refine LWo.guardNU (t := 72) rfl rfl rfl rfl rfl rfl rfl ?_
            refine LWo.guardNU (t := 72) rfl rfl rfl rfl rfl rfl rfl ?_
            refine LWo.guardNU (t := 72) rfl rfl rfl rfl rfl rfl rfl ?_
            refine LWo.guardNU (t := 72) rfl rfl rfl rfl rfl rfl rfl ?_
            refine LWo.guardNU (t := 72) rfl rfl rfl rfl rfl rfl rfl ?_
            refine LWo.guardY (t := 61) rfl h36 rfl rfl ?_
            refine LWo.pickTM (e_bool true) rfl rfl rfl (hn := ?_)
            refine LWo.guardY (t := 55) rfl h35 rfl rfl ?_
            refine LWo.pickTM (e_bool true) rfl h36 rfl (hn := ?_)
            refine LWo.pickFM (e_bool true) rfl h35 rfl (hn := ?_)
            refine LWo.nil (hN34 (t0, t6, t7, t8, true) _ ⟨rfl, rfl, rfl, rfl, rfl, trivial⟩ trivial h)
           ·have h := bF h37 h
            refine LWo.guardY (t := 67) rfl h37 rfl rfl ?_
            refine LWo.fieldPtr u_impl_Version rfl s_int rfl rfl (hn := ?_)
            refine LWo.guardY (t := 67) rfl h37 rfl rfl ?_
            refine LWo.loadV1 (e_int y33.Died)  g_int rfl rfl rfl (hn := ?_)
            refine LWo.guardY (t := 67) rfl h37 rfl rfl ?_
            refine LWo.int _ rfl rfl rfl (hn := ?_)
            refine LWo.guardY (t := 61) rfl h36 rfl rfl ?_
            refine LWo.pickFM (e_bool (y33.Died == (0 : Int))) rfl h37 rfl (hn := ?_)
            refine LWo.guardY (t := 61) rfl h36 rfl rfl ?_
            refine LWo.move (e_bool (y33.Died == (0 : Int))) rfl (hn := ?_)
            refine LWo.byCases (t := 72) _ rfl (fun h38 => ?_) (fun h38 => ?_)
            ·have h := bT h38 h
             refine LWo.guardNU (t := 72) rfl h38 rfl rfl rfl rfl rfl ?_
             refine LWo.guardNU (t := 72) rfl h38 rfl rfl rfl rfl rfl ?_
             refine LWo.guardNU (t := 72) rfl h38 rfl rfl rfl rfl rfl ?_
             refine LWo.guardNU (t := 72) rfl h38 rfl rfl rfl rfl rfl ?_
             refine LWo.guardNU (t := 72) rfl h38 rfl rfl rfl rfl rfl ?_
             refine LWo.guardY (t := 61) rfl h36 rfl rfl ?_
             refine LWo.pickTM (e_bool true) rfl h38 rfl (hn := ?_)
             refine LWo.guardY (t := 55) rfl h35 rfl rfl ?_
             refine LWo.pickTM (e_bool true) rfl h36 rfl (hn := ?_)
             refine LWo.pickFM (e_bool true) rfl h35 rfl (hn := ?_)
             refine LWo.nil (hN34 (t0, t6, t7, t8, true) _ ⟨rfl, rfl, rfl, rfl, rfl, trivial⟩ trivial h)
            ·have h := bF h38 h
             refine LWo.guardY (t := 72) rfl h38 rfl rfl ?_
             refine LWo.fieldPtr u_impl_Version rfl s_int rfl rfl (hn := ?_)
             refine LWo.guardY (t := 72) rfl h38 rfl rfl ?_
             refine LWo.loadV1 (e_int y33.Died)  g_int rfl rfl rfl (hn := ?_)
             refine LWo.guardY (t := 72) rfl h38 rfl rfl ?_
             refine LWo.fieldPtr u_impl_Version rfl s_int rfl rfl (hn := ?_)
             refine LWo.guardY (t := 72) rfl h38 rfl rfl ?_
             refine LWo.loadV1 (e_int o4.Born)  g_int rfl rfl rfl (hn := ?_)
             refine LWo.guardY (t := 72) rfl h38 rfl rfl ?_
             refine LWo.int _ rfl rfl rfl (hn := ?_)
             refine LWo.guardY (t := 61) rfl h36 rfl rfl ?_
             refine LWo.pickFM (e_bool (decide (y33.Died > o4.Born))) rfl h38 rfl (hn := ?_)
             refine LWo.guardY (t := 55) rfl h35 rfl rfl ?_
             refine LWo.pickTM (e_bool (decide (y33.Died > o4.Born))) rfl h36 rfl (hn := ?_)
             refine LWo.pickFM (e_bool (decide (y33.Died > o4.Born))) rfl h35 rfl (hn := ?_)
             refine LWo.nil (hN34 (t0, t6, t7, t8, decide (y33.Died > o4.Born)) _ ⟨rfl, rfl, rfl, rfl, rfl, trivial⟩ trivial h)
          ·have h := bF h36 h
           refine LWo.guardNU (t := 61) rfl h36 rfl rfl rfl rfl rfl ?_
           refine LWo.guardNU (t := 61) rfl h36 rfl rfl rfl rfl rfl ?_
           refine LWo.guardNU (t := 61) rfl h36 rfl rfl rfl rfl rfl ?_
           refine LWo.guardNU (t := 61) rfl h36 rfl rfl rfl rfl rfl ?_
           refine LWo.guardNU (t := 61) rfl h36 rfl rfl rfl rfl rfl ?_
           refine LWo.guardNU (t := 61) rfl h36 rfl rfl rfl rfl rfl ?_
           refine LWo.guardU (t := 67) rfl rfl rfl rfl rfl ?_
           refine LWo.guardU (t := 67) rfl rfl rfl rfl rfl ?_
           refine LWo.guardU (t := 67) rfl rfl rfl rfl rfl ?_
           refine LWo.guardNU (t := 61) rfl h36 rfl rfl rfl rfl rfl ?_
           refine LWo.guardNU (t := 61) rfl h36 rfl rfl rfl rfl rfl ?_
           refine LWo.guardU (t := 72) rfl rfl rfl rfl rfl ?_
           refine LWo.guardU (t := 72) rfl rfl rfl rfl rfl ?_
           refine LWo.guardU (t := 72) rfl rfl rfl rfl rfl ?_
           refine LWo.guardU (t := 72) rfl rfl rfl rfl rfl ?_
           refine LWo.guardU (t := 72) rfl rfl rfl rfl rfl ?_
           refine LWo.guardNU (t := 61) rfl h36 rfl rfl rfl rfl rfl ?_
           refine LWo.guardY (t := 55) rfl h35 rfl rfl ?_
           refine LWo.pickFM (e_bool false) rfl h36 rfl (hn := ?_)
           refine LWo.pickFM (e_bool false) rfl h35 rfl (hn := ?_)
           refine LWo.nil (hN34 (t0, t6, t7, t8, false) _ ⟨rfl, rfl, rfl, rfl, rfl, trivial⟩ trivial h)
     ·intro N14 hN14
      refine LWP.region (l := [_,_,_,_,_,_,_,_,_,_,_,_,_,_,_,_,_,_,_,_,_,_,_,_,_,_,_,_,_,_]) ?_
      refine LWo.fieldPtr u_impl_Version rfl s_int rfl rfl (hn := ?_)
      refine LWo.loadV1 (e_int y12.Key)  g_int rfl rfl rfl (hn := ?_)
      refine bk h fun x15 e15 h => ?_
      refine LWo.vcall rfl rfl (c_impl_keyOk _ _ e15) (.same (.nil)) (hn := ?_)
      refine LWo.not rfl (hn := ?_)
      refine LWo.move (e_bool (!x15)) rfl (hn := ?_)
      refine LWo.byCases (t := 17) _ rfl (fun h16 => ?_) (fun h16 => ?_)
      ·have h := bT h16 h
       refine LWo.guardNU (t := 17) rfl h16 rfl rfl rfl rfl rfl ?_
       refine LWo.guardNU (t := 17) rfl h16 rfl rfl rfl rfl rfl ?_
       refine LWo.guardNU (t := 17) rfl h16 rfl rfl rfl rfl rfl ?_
       refine LWo.guardNU (t := 17) rfl h16 rfl rfl rfl rfl rfl ?_
       refine LWo.pickTM (e_bool true) rfl h16 rfl (hn := ?_)
       refine LWo.move (e_bool true) rfl (hn := ?_)
       refine LWo.guardNU (t := 23) rfl rfl rfl rfl rfl rfl rfl ?_
       refine LWo.guardNU (t := 23) rfl rfl rfl rfl rfl rfl rfl ?_
       refine LWo.guardNU (t := 23) rfl rfl rfl rfl rfl rfl rfl ?_
       refine LWo.guardNU (t := 23) rfl rfl rfl rfl rfl rfl rfl ?_
       refine LWo.guardU (t := 27) rfl rfl rfl rfl rfl ?_
       refine LWo.guardU (t := 27) rfl rfl rfl rfl rfl ?_
       refine LWo.guardU (t := 27) rfl rfl rfl rfl rfl ?_
       refine LWo.guardU (t := 27) rfl rfl rfl rfl rfl ?_
       refine LWo.guardU (t := 27) rfl rfl rfl rfl rfl ?_
       refine LWo.guardU (t := 27) rfl rfl rfl rfl rfl ?_
       refine LWo.guardU (t := 27) rfl rfl rfl rfl rfl ?_
       refine LWo.guardNU (t := 23) rfl rfl rfl rfl rfl rfl rfl ?_
       refine LWo.pickTM (e_bool true) rfl rfl rfl (hn := ?_)
       refine LWo.move (e_bool true) rfl (hn := ?_)
       refine LWo.guardNU (t := 37) rfl rfl rfl rfl rfl rfl rfl ?_
       refine LWo.guardNU (t := 37) rfl rfl rfl rfl rfl rfl rfl ?_
       refine LWo.guardNU (t := 37) rfl rfl rfl rfl rfl rfl rfl ?_
       refine LWo.guardNU (t := 37) rfl rfl rfl rfl rfl rfl rfl ?_
       refine LWo.pickTM (e_bool true) rfl rfl rfl (hn := ?_)
       refine LWo.nil (hN14 (t0, t8, t6, t7, t8, true, y12) _ ⟨rfl, rfl, rfl, rfl, rfl, rfl, rfl, trivial⟩ ⟨rfl, trivial⟩ h)
      ·have h := bF h16 h
       refine LWo.guardY (t := 17) rfl h16 rfl rfl ?_
       refine LWo.fieldPtr u_impl_Version rfl s_int rfl rfl (hn := ?_)
       refine LWo.guardY (t := 17) rfl h16 rfl rfl ?_
       refine LWo.loadV1 (e_int y12.Born)  g_int rfl rfl rfl (hn := ?_)
       refine bk h fun x17 e17 h => ?_
       refine LWo.guardY (t := 17) rfl h16 rfl rfl ?_
       refine LWo.vcall rfl rfl (c_impl_between _ _ _ _ e17) (.same (.same (.same (.nil)))) (hn := ?_)
       refine LWo.guardY (t := 17) rfl h16 rfl rfl ?_
       refine LWo.not rfl (hn := ?_)
       refine LWo.pickFM (e_bool (!x17)) rfl h16 rfl (hn := ?_)
       refine LWo.move (e_bool (!x17)) rfl (hn := ?_)
       refine LWo.byCases (t := 23) _ rfl (fun h18 => ?_) (fun h18 => ?_)
       ·have h := bT h18 h
        refine LWo.guardNU (t := 23) rfl h18 rfl rfl rfl rfl rfl ?_
        refine LWo.guardNU (t := 23) rfl h18 rfl rfl rfl rfl rfl ?_
        refine LWo.guardNU (t := 23) rfl h18 rfl rfl rfl rfl rfl ?_
        refine LWo.guardNU (t := 23) rfl h18 rfl rfl rfl rfl rfl ?_
        refine LWo.guardU (t := 27) rfl rfl rfl rfl rfl ?_
        refine LWo.guardU (t := 27) rfl rfl rfl rfl rfl ?_
        refine LWo.guardU (t := 27) rfl rfl rfl rfl rfl ?_
        refine LWo.guardU (t := 27) rfl rfl rfl rfl rfl ?_
        refine LWo.guardU (t := 27) rfl rfl rfl rfl rfl ?_
        refine LWo.guardU (t := 27) rfl rfl rfl rfl rfl ?_
        refine LWo.guardU (t := 27) rfl rfl rfl rfl rfl ?_
        refine LWo.guardNU (t := 23) rfl h18 rfl rfl rfl rfl rfl ?_
        refine LWo.pickTM (e_bool true) rfl h18 rfl (hn := ?_)
        refine LWo.move (e_bool true) rfl (hn := ?_)
        refine LWo.guardNU (t := 37) rfl rfl rfl rfl rfl rfl rfl ?_
        refine LWo.guardNU (t := 37) rfl rfl rfl rfl rfl rfl rfl ?_
        refine LWo.guardNU (t := 37) rfl rfl rfl rfl rfl rfl rfl ?_
        refine LWo.guardNU (t := 37) rfl rfl rfl rfl rfl rfl rfl ?_
        refine LWo.pickTM (e_bool true) rfl rfl rfl (hn := ?_)
        refine LWo.nil (hN14 (t0, t8, t6, t7, t8, true, y12) _ ⟨rfl, rfl, rfl, rfl, rfl, rfl, rfl, trivial⟩ ⟨rfl, trivial⟩ h)
       ·have h := bF h18 h
        refine LWo.guardY (t := 23) rfl h18 rfl rfl ?_
        refine LWo.fieldPtr u_impl_Version rfl s_int rfl rfl (hn := ?_)
        refine LWo.guardY (t := 23) rfl h18 rfl rfl ?_
        refine LWo.loadV1 (e_int y12.Died)  g_int rfl rfl rfl (hn := ?_)
        refine LWo.guardY (t := 23) rfl h18 rfl rfl ?_
        refine LWo.int _ rfl rfl rfl (hn := ?_)
        refine LWo.guardY (t := 23) rfl h18 rfl rfl ?_
        refine LWo.move (e_bool (y12.Died != (0 : Int))) rfl (hn := ?_)
        refine LWo.byCases (t := 27) _ rfl (fun h19 => ?_) (fun h19 => ?_)
        ·have h := bT h19 h
         refine LWo.guardY (t := 27) rfl h19 rfl rfl ?_
         refine LWo.fieldPtr u_impl_Version rfl s_int rfl rfl (hn := ?_)
         refine LWo.guardY (t := 27) rfl h19 rfl rfl ?_
         refine LWo.loadV1 (e_int y12.Died)  g_int rfl rfl rfl (hn := ?_)
         refine LWo.guardY (t := 27) rfl h19 rfl rfl ?_
         refine LWo.fieldPtr u_impl_Version rfl s_int rfl rfl (hn := ?_)
         refine LWo.guardY (t := 27) rfl h19 rfl rfl ?_
         refine LWo.loadV1 (e_int y12.Born)  g_int rfl rfl rfl (hn := ?_)
         refine bk h fun x20 e20 h => ?_
         refine LWo.guardY (t := 27) rfl h19 rfl rfl ?_
         refine LWo.int _ rfl rfl (add_ck e20) (hn := ?_)
         refine bk h fun x21 e21 h => ?_
         refine LWo.guardY (t := 27) rfl h19 rfl rfl ?_
         refine LWo.vcall rfl rfl (c_impl_between _ _ _ _ e21) (.same (.same (.same (.nil)))) (hn := ?_)
         refine LWo.guardY (t := 27) rfl h19 rfl rfl ?_
         refine LWo.not rfl (hn := ?_)
         refine LWo.guardY (t := 23) rfl h18 rfl rfl ?_
         refine LWo.pickTM (e_bool (!x21)) rfl h19 rfl (hn := ?_)
         refine LWo.pickFM (e_bool (!x21)) rfl h18 rfl (hn := ?_)
         refine LWo.move (e_bool (!x21)) rfl (hn := ?_)
         refine LWo.byCases (t := 37) _ rfl (fun h22 => ?_) (fun h22 => ?_)
         ·have h := bT h22 h
          refine LWo.guardNU (t := 37) rfl h22 rfl rfl rfl rfl rfl ?_
          refine LWo.guardNU (t := 37) rfl h22 rfl rfl rfl rfl rfl ?_
          refine LWo.guardNU (t := 37) rfl h22 rfl rfl rfl rfl rfl ?_
          refine LWo.guardNU (t := 37) rfl h22 rfl rfl rfl rfl rfl ?_
          refine LWo.pickTM (e_bool true) rfl h22 rfl (hn := ?_)
          refine LWo.nil (hN14 (t0, t8, t6, t7, t8, true, y12) _ ⟨rfl, rfl, rfl, rfl, rfl, rfl, rfl, trivial⟩ ⟨rfl, trivial⟩ h)
         ·have h := bF h22 h
          refine LWo.guardY (t := 37) rfl h22 rfl rfl ?_
          refine LWo.fieldPtr u_impl_Version rfl s_Limpl_Value rfl rfl (hn := ?_)
          refine LWo.guardY (t := 37) rfl h22 rfl rfl ?_
          refine LWo.loadV1 (e_Limpl_Value y12.Row)  g_Limpl_Value rfl rfl rfl (hn := ?_)
          refine bk h fun x23 e23 h => ?_
          refine LWo.guardY (t := 37) rfl h22 rfl rfl ?_
          refine LWo.vcall rfl rfl (c_impl_RowOk _ _ e23) (.same (.nil)) (hn := ?_)
          refine LWo.guardY (t := 37) rfl h22 rfl rfl ?_
          refine LWo.not rfl (hn := ?_)
          refine LWo.pickFM (e_bool (!x23)) rfl h22 rfl (hn := ?_)
          refine LWo.nil (hN14 (t0, t8, t6, t7, t8, (!x23), y12) _ ⟨rfl, rfl, rfl, rfl, rfl, rfl, rfl, trivial⟩ ⟨rfl, trivial⟩ h)
        ·have h := bF h19 h
         refine LWo.guardNU (t := 27) rfl h19 rfl rfl rfl rfl rfl ?_
         refine LWo.guardNU (t := 27) rfl h19 rfl rfl rfl rfl rfl ?_
         refine LWo.guardNU (t := 27) rfl h19 rfl rfl rfl rfl rfl ?_
         refine LWo.guardNU (t := 27) rfl h19 rfl rfl rfl rfl rfl ?_
         refine LWo.guardNU (t := 27) rfl h19 rfl rfl rfl rfl rfl ?_
         refine LWo.guardNU (t := 27) rfl h19 rfl rfl rfl rfl rfl ?_
         refine LWo.guardNU (t := 27) rfl h19 rfl rfl rfl rfl rfl ?_
         refine LWo.guardY (t := 23) rfl h18 rfl rfl ?_
         refine LWo.pickFM (e_bool false) rfl h19 rfl (hn := ?_)
         refine LWo.pickFM (e_bool false) rfl h18 rfl (hn := ?_)
         refine LWo.move (e_bool false) rfl (hn := ?_)
         refine LWo.guardY (t := 37) rfl rfl rfl rfl ?_
         refine LWo.fieldPtr u_impl_Version rfl s_Limpl_Value rfl rfl (hn := ?_)
         refine LWo.guardY (t := 37) rfl rfl rfl rfl ?_
         refine LWo.loadV1 (e_Limpl_Value y12.Row)  g_Limpl_Value rfl rfl rfl (hn := ?_)
         refine bk h fun x24 e24 h => ?_
         refine LWo.guardY (t := 37) rfl rfl rfl rfl ?_
         refine LWo.vcall rfl rfl (c_impl_RowOk _ _ e24) (.same (.nil)) (hn := ?_)
         refine LWo.guardY (t := 37) rfl rfl rfl rfl ?_
         refine LWo.not rfl (hn := ?_)
         refine LWo.pickFM (e_bool (!x24)) rfl rfl rfl (hn := ?_)
         refine LWo.nil (hN14 (t0, t8, t6, t7, t8, (!x24), y12) _ ⟨rfl, rfl, rfl, rfl, rfl, rfl, rfl, trivial⟩ ⟨rfl, trivial⟩ h)
   ·have h := bF h8 h
    refine LWP.exit (hN2 t0 _ ⟨rfl, trivial⟩ trivial h)

def m_impl_seen_j2 (o6 : S_impl_Version) : Option (S_impl_Version × Bool) :=
  lt ((⟨(0 : Int), (0 : Int), (0 : Int), []⟩ : S_impl_Version)) fun y22 =>
  some (y22, false)
def m_impl_seen_j1 (k1 : Int → Int → (List S_impl_Version) → Int → Int → S_impl_Version → Option (S_impl_Version × Bool)) (t1 : Int) (t2 : Int) (t10 : (List S_impl_Version)) (t11 : Int) (t12 : Int) (t36 : Bool) (o6 : S_impl_Version) (o9 : S_impl_Version) : Option (S_impl_Version × Bool) :=
  bif t36 then (lt (o9) fun y19 =>
    some (y19, true))
  else ((ckI (t12 + (1 : Int))).bind fun x20 =>
  k1 t1 t2 t10 t11 x20 o6)
def m_impl_seen_l1 : Nat → Int → Int → (List S_impl_Version) → Int → Int → S_impl_Version → Option (S_impl_Version × Bool)
  | 0, _, _, _, _, _, _ => none
  | n1 + 1, t1, t2, t10, t11, t12, o6 =>
    bif decide (t12 < t11) then ((at? t10 t12).bind fun x11 =>
    lt (x11) fun y12 =>
    bif (y12.Key == t1) then (bif decide (y12.Born ≤ t2) then (bif (y12.Died == (0 : Int)) then (m_impl_seen_j1  (m_impl_seen_l1  n1) t1 t2 t10 t11 t12 true o6 y12)
        else (m_impl_seen_j1  (m_impl_seen_l1  n1) t1 t2 t10 t11 t12 (decide (y12.Died > t2)) o6 y12))
      else (m_impl_seen_j1  (m_impl_seen_l1  n1) t1 t2 t10 t11 t12 false o6 y12))
    else (m_impl_seen_j1  (m_impl_seen_l1  n1) t1 t2 t10 t11 t12 false o6 y12))
    else (m_impl_seen_j2  o6)
def m_impl_seen (a0 : (List S_impl_Version)) (a1 : Int) (a2 : Int) : Option (S_impl_Version × Bool) :=
  m_impl_seen_l1  (((a0.length : Int) - (0 : Int)).toNat + 1) a1 a2 a0 (a0.length : Int) (0 : Int) (⟨(0 : Int), (0 : Int), (0 : Int), []⟩ : S_impl_Version)
theorem c_impl_seen (a0 : (List S_impl_Version)) (a1 : Int) (a2 : Int) (r : (S_impl_Version × Bool)) (h : m_impl_seen a0 a1 a2 = some r) : Ret Try.prog f_impl_seen [e_Limpl_Version a0, e_int a1, e_int a2] (.tup [e_impl_Version r.1, e_bool r.2]) := by
  refine Does.goG [] F_impl_seen rfl e_impl_seen n_impl_seen rfl (rvs := [.cell 6 t_impl_Version, .tmp 7]) rfl rfl ?_
  intro w0 ok0 lent ρ0
  refine LWP.seq_k fun N1 hN1 => ?_
  refine LWP.region (l := [_,_]) ?_
  refine LWo.alloc_impl_Version 6 rfl (hn := ?_)
  refine LWo.assign (e_bool false) rfl (hn := ?_)
  refine LWo.nil (hN1 _ ?_)
  refine LWP.join (α := S_impl_Version) (fun z : S_impl_Version => [(6, (.ptr 6 0 0))]) (fun z : S_impl_Version => [(6, (vob 4 e_impl_Version z))]) (fun z : S_impl_Version => m_impl_seen_j2  z) r (fun _ => by simp [hkeys]) ?_ ?_
  ·rintro o6 h
   replace h : m_impl_seen_j2  o6 = some _ := h
   refine LWP.seq_k fun N21 hN21 => ?_
   refine LWP.region (l := [_,_,_]) ?_
   refine LWo.build_impl_Version (parts := []) (⟨(0 : Int), (0 : Int), (0 : Int), []⟩ : S_impl_Version) rfl rfl rfl (.agg (.cons .refl (.cons .refl (.cons .refl (.cons .nil .nil))))) (hn := ?_)
   refine lk h fun y22 e22 h => ?_
   refine LWo.storeW (y := o6) y22 s_impl_Version rfl rfl rfl rfl rfl rfl (by rw [e22]; exact .refl) rfl (hn := ?_)
   refine LWo.assign (e_bool false) rfl (hn := ?_)
   refine LWo.nil (hN21 _ ?_)
   obtain rfl := Option.some.inj h
   refine LWP.ret (QG.mk (.inr rfl) (.cons (.cellN (ys := (e_impl_Version y22).cells) g_impl_Version s_impl_Version rfl rfl rfl rfl rfl (fun _ _ => rfl)) (.cons (.tmp (x := (e_bool false)) rfl) (.nil))) (RetOK.many0 (.cons (.pure rfl) (.cons (.pure rfl) (.nil))) (by simp) (by decide)) rfl rfl)
  ·intro N2 hN2
   refine LWP.seq_k fun N3 hN3 => ?_
   refine LWP.region (l := [_,_,_]) ?_
   refine LWo.move (e_Limpl_Version a0) rfl (hn := ?_)
   refine LWo.lenM (f := e_impl_Version) (l := a0) u_Limpl_Version rfl (hn := ?_)
   refine LWo.move (e_int (0 : Int)) rfl (hn := ?_)
   refine LWo.nil (hN3 _ ?_)
   refine LWP.block ?_
   refine LWP.loopM (α := Int × Int × (List S_impl_Version) × Int × Int × S_impl_Version) (fun z : Int × Int × (List S_impl_Version) × Int × Int × S_impl_Version => [(1, (e_int z.1)), (2, (e_int z.2.1)), (6, (.ptr 6 0 0)), (10, (e_Limpl_Version z.2.2.1)), (11, (e_int z.2.2.2.1)), (12, (e_int z.2.2.2.2.1))]) (fun z : Int × Int × (List S_impl_Version) × Int × Int × S_impl_Version => [(6, (vob 4 e_impl_Version z.2.2.2.2.2))]) (fun n1 (z : Int × Int × (List S_impl_Version) × Int × Int × S_impl_Version) => m_impl_seen_l1  n1 z.1 z.2.1 z.2.2.1 z.2.2.2.1 z.2.2.2.2.1 z.2.2.2.2.2) r _ (a1, a2, a0, (a0.length : Int), (0 : Int), (⟨(0 : Int), (0 : Int), (0 : Int), []⟩ : S_impl_Version)) h (fun _ => rfl) (fun _ => by simp [hkeys]) ⟨rfl, rfl, rfl, rfl, rfl, rfl, trivial⟩ ⟨rfl, trivial⟩ ?_
   rintro n1 ⟨t1, t2, t10, t11, t12, o6⟩ h N4 hN4
   replace h : m_impl_seen_l1  (n1 + 1) t1 t2 t10 t11 t12 o6 = some _ := h
   refine LWP.seq_k fun N6 hN6 => ?_
   refine LWP.region (l := [_]) ?_
   refine LWo.int _ rfl rfl rfl (hn := ?_)
   refine LWo.nil (hN6 _ ?_)
   refine LWP.seq_k fun N7 hN7 => ?_
   refine LWP.cond_split rfl (fun h8 => ?_) (fun h8 => ?_)
   ·have h := bT h8 h
    refine LWP.skip (hN7 _ ?_)
    refine LWP.seq_k fun N9 hN9 => ?_
    refine LWP.block ?_
    refine LWP.seq_k fun N10 hN10 => ?_
    refine LWP.region (l := [_,_,_,_]) ?_
    refine bk h fun x11 e11 h => ?_
    refine LWo.indexM (f := e_impl_Version) e11 u_Limpl_Version s_impl_Version rfl rfl (hn := ?_)
    refine LWo.loadN ((e_impl_Version x11)).cells g_impl_Version s_impl_Version rfl (Nat.le_of_ble_eq_true rfl) rfl (hn := ?_)
    refine LWo.alloc_impl_Version 9 rfl (hn := ?_)
    refine lk h fun y12 e12 h => ?_
    refine LWo.storeW (y := (⟨(0 : Int), (0 : Int), (0 : Int), []⟩ : S_impl_Version)) y12 s_impl_Version rfl rfl rfl rfl rfl rfl (by rw [e12]; exact .refl) rfl (hn := ?_)
    refine LWo.nil (hN10 _ ?_)
    refine LWP.join (α := Int × Int × (List S_impl_Version) × Int × Int × Bool × S_impl_Version × S_impl_Version) (fun z : Int × Int × (List S_impl_Version) × Int × Int × Bool × S_impl_Version × S_impl_Version => [(1, (e_int z.1)), (2, (e_int z.2.1)), (6, (.ptr 6 0 0)), (9, (.ptr 9 0 0)), (10, (e_Limpl_Version z.2.2.1)), (11, (e_int z.2.2.2.1)), (12, (e_int z.2.2.2.2.1)), (36, (e_bool z.2.2.2.2.2.1))]) (fun z : Int × Int × (List S_impl_Version) × Int × Int × Bool × S_impl_Version × S_impl_Version => [(6, (vob 4 e_impl_Version z.2.2.2.2.2.2.1)), (9, (vob 4 e_impl_Version z.2.2.2.2.2.2.2))]) (fun z : Int × Int × (List S_impl_Version) × Int × Int × Bool × S_impl_Version × S_impl_Version => m_impl_seen_j1  (m_impl_seen_l1  n1) z.1 z.2.1 z.2.2.1 z.2.2.2.1 z.2.2.2.2.1 z.2.2.2.2.2.1 z.2.2.2.2.2.2.1 z.2.2.2.2.2.2.2) r (fun _ => by simp [hkeys]) ?_ ?_
    ·rintro ⟨t1, t2, t10, t11, t12, t36, o6, o9⟩ h
     replace h : m_impl_seen_j1  (m_impl_seen_l1  n1) t1 t2 t10 t11 t12 t36 o6 o9 = some _ := h
     refine LWP.cond_split rfl (fun h17 => ?_) (fun h17 => ?_)
     ·have h := bT h17 h
      refine LWP.seq_k fun N18 hN18 => ?_
      refine LWP.region (l := [_,_,_]) ?_
      refine LWo.loadVN ((e_impl_Version o9)).cells  g_impl_Version s_impl_Version rfl rfl rfl rfl (hn := ?_)
      refine lk h fun y19 e19 h => ?_
      refine LWo.storeW (y := o6) y19 s_impl_Version rfl rfl rfl rfl rfl rfl (by rw [e19]; exact .refl) rfl (hn := ?_)
      refine LWo.assign (e_bool true) rfl (hn := ?_)
      refine LWo.nil (hN18 _ ?_)
      obtain rfl := Option.some.inj h
      refine LWP.ret (QG.mk (.inr rfl) (.cons (.cellN (ys := (e_impl_Version y19).cells) g_impl_Version s_impl_Version rfl rfl rfl rfl rfl (fun _ _ => rfl)) (.cons (.tmp (x := (e_bool true)) rfl) (.nil))) (RetOK.many0 (.cons (.pure rfl) (.cons (.pure rfl) (.nil))) (by simp) (by decide)) rfl rfl)
     ·have h := bF h17 h
      refine LWP.skip (hN9 _ ?_)
      refine LWP.region (l := [_,_]) ?_
      refine bk h fun x20 e20 h => ?_
      refine LWo.int _ rfl rfl (add_ck e20) (hn := ?_)
      refine LWo.move (e_int x20) rfl (hn := ?_)
      refine LWo.nil (hN4 (t1, t2, t10, t11, x20, o6) _ ⟨rfl, rfl, rfl, rfl, rfl, rfl, trivial⟩ ⟨rfl, trivial⟩ h)
    ·intro N13 hN13
     refine LWP.region (l := [_,_,_,_,_,_,_,_,_,_,_,_,_,_,_,_,_,_,_,_,_]) ?_
     refine LWo.fieldPtr u_impl_Version rfl s_int rfl rfl (hn := ?_)
     refine LWo.loadV1 (e_int y12.Key)  g_int rfl rfl rfl (hn := ?_)
     refine LWo.move (e_int t1) rfl (hn := ?_)
     refine LWo.int _ rfl rfl rfl (hn := ?_)
     refine LWo.move (e_bool (y12.Key == t1)) rfl (hn := ?_)
     refine LWo.byCases (t := 20) _ rfl (fun h14 => ?_) (fun h14 => ?_)
     ·have h := bT h14 h
      refine LWo.guardY (t := 20) rfl h14 rfl rfl ?_
      refine LWo.fieldPtr u_impl_Version rfl s_int rfl rfl (hn := ?_)
      refine LWo.guardY (t := 20) rfl h14 rfl rfl ?_
      refine LWo.loadV1 (e_int y12.Born)  g_int rfl rfl rfl (hn := ?_)
      refine LWo.guardY (t := 20) rfl h14 rfl rfl ?_
      refine LWo.move (e_int t2) rfl (hn := ?_)
      refine LWo.guardY (t := 20) rfl h14 rfl rfl ?_
      refine LWo.int _ rfl rfl rfl (hn := ?_)
      refine LWo.pickTM (e_bool (decide (y12.Born ≤ t2))) rfl h14 rfl (hn := ?_)
      refine LWo.move (e_bool (decide (y12.Born ≤ t2))) rfl (hn := ?_)
      refine LWo.byCases (t := 26) _ rfl (fun h15 => ?_) (fun h15 => ?_)
      ·have h := bT h15 h
       refine LWo.guardY (t := 26) rfl h15 rfl rfl ?_
       refine LWo.fieldPtr u_impl_Version rfl s_int rfl rfl (hn := ?_)
       refine LWo.guardY (t := 26) rfl h15 rfl rfl ?_
       refine LWo.loadV1 (e_int y12.Died)  g_int rfl rfl rfl (hn := ?_)
       refine LWo.guardY (t := 26) rfl h15 rfl rfl ?_
       refine LWo.int _ rfl rfl rfl (hn := ?_)
       refine LWo.guardY (t := 26) rfl h15 rfl rfl ?_
       refine LWo.move (e_bool (y12.Died == (0 : Int))) rfl (hn := ?_)
       refine LWo.byCases (t := 30) _ rfl (fun h16 => ?_) (fun h16 => ?_)
       ·have h := bT h16 h
        refine LWo.guardNU (t := 30) rfl h16 rfl rfl rfl rfl rfl ?_
        refine LWo.guardNU (t := 30) rfl h16 rfl rfl rfl rfl rfl ?_
        refine LWo.guardNU (t := 30) rfl h16 rfl rfl rfl rfl rfl ?_
        refine LWo.guardNU (t := 30) rfl h16 rfl rfl rfl rfl rfl ?_
        refine LWo.guardY (t := 26) rfl h15 rfl rfl ?_
        refine LWo.pickTM (e_bool true) rfl h16 rfl (hn := ?_)
        refine LWo.pickTM (e_bool true) rfl h15 rfl (hn := ?_)
        refine LWo.nil (hN13 (t1, t2, t10, t11, t12, true, o6, y12) _ ⟨rfl, rfl, rfl, rfl, rfl, rfl, rfl, rfl, trivial⟩ ⟨rfl, rfl, trivial⟩ h)
       ·have h := bF h16 h
        refine LWo.guardY (t := 30) rfl h16 rfl rfl ?_
        refine LWo.fieldPtr u_impl_Version rfl s_int rfl rfl (hn := ?_)
        refine LWo.guardY (t := 30) rfl h16 rfl rfl ?_
        refine LWo.loadV1 (e_int y12.Died)  g_int rfl rfl rfl (hn := ?_)
        refine LWo.guardY (t := 30) rfl h16 rfl rfl ?_
        refine LWo.move (e_int t2) rfl (hn := ?_)
        refine LWo.guardY (t := 30) rfl h16 rfl rfl ?_
        refine LWo.int _ rfl rfl rfl (hn := ?_)
        refine LWo.guardY (t := 26) rfl h15 rfl rfl ?_
        refine LWo.pickFM (e_bool (decide (y12.Died > t2))) rfl h16 rfl (hn := ?_)
        refine LWo.pickTM (e_bool (decide (y12.Died > t2))) rfl h15 rfl (hn := ?_)
        refine LWo.nil (hN13 (t1, t2, t10, t11, t12, decide (y12.Died > t2), o6, y12) _ ⟨rfl, rfl, rfl, rfl, rfl, rfl, rfl, rfl, trivial⟩ ⟨rfl, rfl, trivial⟩ h)
      ·have h := bF h15 h
       refine LWo.guardNU (t := 26) rfl h15 rfl rfl rfl rfl rfl ?_
       refine LWo.guardNU (t := 26) rfl h15 rfl rfl rfl rfl rfl ?_
       refine LWo.guardNU (t := 26) rfl h15 rfl rfl rfl rfl rfl ?_
       refine LWo.guardNU (t := 26) rfl h15 rfl rfl rfl rfl rfl ?_
       refine LWo.guardU (t := 30) rfl rfl rfl rfl rfl ?_
       refine LWo.guardU (t := 30) rfl rfl rfl rfl rfl ?_
       refine LWo.guardU (t := 30) rfl rfl rfl rfl rfl ?_
       refine LWo.guardU (t := 30) rfl rfl rfl rfl rfl ?_
       refine LWo.guardNU (t := 26) rfl h15 rfl rfl rfl rfl rfl ?_
       refine LWo.pickFM (e_bool false) rfl h15 rfl (hn := ?_)
       refine LWo.nil (hN13 (t1, t2, t10, t11, t12, false, o6, y12) _ ⟨rfl, rfl, rfl, rfl, rfl, rfl, rfl, rfl, trivial⟩ ⟨rfl, rfl, trivial⟩ h)
     ·have h := bF h14 h
      refine LWo.guardNU (t := 20) rfl h14 rfl rfl rfl rfl rfl ?_
      refine LWo.guardNU (t := 20) rfl h14 rfl rfl rfl rfl rfl ?_
      refine LWo.guardNU (t := 20) rfl h14 rfl rfl rfl rfl rfl ?_
      refine LWo.guardNU (t := 20) rfl h14 rfl rfl rfl rfl rfl ?_
      refine LWo.pickFM (e_bool false) rfl h14 rfl (hn := ?_)
      refine LWo.move (e_bool false) rfl (hn := ?_)
      refine LWo.guardNU (t := 26) rfl rfl rfl rfl rfl rfl rfl ?_
      refine LWo.guardNU (t := 26) rfl rfl rfl rfl rfl rfl rfl ?_
      refine LWo.guardNU (t := 26) rfl rfl rfl rfl rfl rfl rfl ?_
      refine LWo.guardNU (t := 26) rfl rfl rfl rfl rfl rfl rfl ?_
      refine LWo.guardU (t := 30) rfl rfl rfl rfl rfl ?_
      refine LWo.guardU (t := 30) rfl rfl rfl rfl rfl ?_
      refine LWo.guardU (t := 30) rfl rfl rfl rfl rfl ?_
      refine LWo.guardU (t := 30) rfl rfl rfl rfl rfl ?_
      refine LWo.guardNU (t := 26) rfl rfl rfl rfl rfl rfl rfl ?_
      refine LWo.pickFM (e_bool false) rfl rfl rfl (hn := ?_)
      refine LWo.nil (hN13 (t1, t2, t10, t11, t12, false, o6, y12) _ ⟨rfl, rfl, rfl, rfl, rfl, rfl, rfl, rfl, trivial⟩ ⟨rfl, rfl, trivial⟩ h)
   ·have h := bF h8 h
    refine LWP.exit (hN2 o6 _ ⟨rfl, trivial⟩ ⟨rfl, trivial⟩ h)

theorem cc_slices_Clip_LLimpl_Value_Limpl_Value (xs : List LV) : Does Try.prog f_slices_Clip_LLimpl_Value_Limpl_Value [.own 0 0 xs.length] [(0, { kind := .fro, sz := 1, elems := xs })] (fun r h => r = .nw 1 xs false ∧ h = []) := by
  refine Does.go [0] F_slices_Clip_LLimpl_Value_Limpl_Value rfl e_slices_Clip_LLimpl_Value_Limpl_Value n_slices_Clip_LLimpl_Value_Limpl_Value rfl (ts := [2]) rfl rfl rfl ?_
  intro w0 ok0 lent ρ0
  refine LWP.seq_k fun N1 hN1 => ?_
  refine LWP.region (l := [_]) ?_
  refine LWo.assign _ rfl (hn := ?_)
  refine LWo.nil (hN1 _ ?_)
  refine LWP.seq_k fun N2 hN2 => ?_
  refine LWP.region (l := [_,_,_,_,_,_,_]) ?_
  refine LWo.move _ rfl (hn := ?_)
  refine LWo.move _ rfl (hn := ?_)
  refine LWo.len u_LLimpl_Value rfl (hn := ?_)
  refine LWo.move _ rfl (hn := ?_)
  refine LWo.len u_LLimpl_Value rfl (hn := ?_)
  refine LWo.cutOwn (l := 0) (h := xs.length) u_LLimpl_Value s_Limpl_Value rfl rfl rfl rfl ⟨_, rfl⟩ ⟨_, _, rfl, Nat.le_refl _, Nat.le_refl _⟩ (.inr (by simp)) (Nat.zero_le _) (Nat.le_refl _) rfl rfl (hn := ?_)
  refine LWo.assign _ rfl (hn := ?_)
  refine LWo.nil (hN2 _ ?_)
  refine LWP.ret (QRet.own1 (.inr rfl) rfl rfl rfl rfl (by simp) ⟨?_, rfl⟩)
  clear hN1 hN2
  exact congrArg (fun l => LV.nw 1 l false) (by simp)
def m_slices_Clip_LLimpl_Value_Limpl_Value_o (o0 : List (List S_impl_Value)) : Option (List (List S_impl_Value)) := some o0
theorem c_slices_Clip_LLimpl_Value_Limpl_Value_o (o0 : List (List S_impl_Value)) (r : List (List S_impl_Value)) (h : m_slices_Clip_LLimpl_Value_Limpl_Value_o o0 = some r) : Does Try.prog f_slices_Clip_LLimpl_Value_Limpl_Value [.own 0 0 o0.length] [(0, lob 1 e_Limpl_Value o0)] (fun x hh => x = .nw 1 (r.map e_Limpl_Value) false ∧ hh = []) := by
  cases h
  have := cc_slices_Clip_LLimpl_Value_Limpl_Value (o0.map e_Limpl_Value)
  rw [List.length_map] at this
  exact this



def m_slices_Clip_LLimpl_Value_Limpl_Value (a0 : (List (List S_impl_Value))) : Option (List (List S_impl_Value)) :=
  (cut3? a0 (0 : Int) (a0.length : Int) (a0.length : Int)).bind fun x3 =>
  some x3
theorem c_slices_Clip_LLimpl_Value_Limpl_Value (a0 : (List (List S_impl_Value))) (r : (List (List S_impl_Value))) (h : m_slices_Clip_LLimpl_Value_Limpl_Value a0 = some r) : Ret Try.prog f_slices_Clip_LLimpl_Value_Limpl_Value [e_LLimpl_Value a0] (e_LLimpl_Value r) := by
  refine Does.goG [] F_slices_Clip_LLimpl_Value_Limpl_Value rfl e_slices_Clip_LLimpl_Value_Limpl_Value n_slices_Clip_LLimpl_Value_Limpl_Value rfl (rvs := [.tmp 2]) rfl rfl ?_
  intro w0 ok0 lent ρ0
  refine LWP.seq_k fun N1 hN1 => ?_
  refine LWP.region (l := [_]) ?_
  refine LWo.assign _ rfl (hn := ?_)
  refine LWo.weakT 2 (e_LLimpl_Value ([] : (List (List S_impl_Value)))) rfl .nil ?_
  refine LWo.nil (hN1 _ ?_)
  refine LWP.seq_k fun N2 hN2 => ?_
  refine LWP.region (l := [_,_,_,_,_,_,_]) ?_
  refine LWo.move (e_LLimpl_Value a0) rfl (hn := ?_)
  refine LWo.move (e_LLimpl_Value a0) rfl (hn := ?_)
  refine LWo.lenM (f := e_Limpl_Value) (l := a0) u_LLimpl_Value rfl (hn := ?_)
  refine LWo.move (e_LLimpl_Value a0) rfl (hn := ?_)
  refine LWo.lenM (f := e_Limpl_Value) (l := a0) u_LLimpl_Value rfl (hn := ?_)
  refine bk h fun x3 e3 h => ?_
  refine LWo.cutM3 (f := e_Limpl_Value) e3 u_LLimpl_Value s_Limpl_Value rfl rfl ⟨_, rfl⟩ ⟨_, rfl⟩ (hn := ?_)
  refine LWo.assign (e_LLimpl_Value x3) rfl (hn := ?_)
  refine LWo.nil (hN2 _ ?_)
  obtain rfl := Option.some.inj h
  refine LWP.ret (QG.mk (.inr rfl) (.cons (.tmp (x := (e_LLimpl_Value x3)) rfl) (.nil)) (RetOK.one0 (.pure rfl) (by decide)) rfl rfl)

def m_impl_rowsCopy_j1 (o1003 : (List (List S_impl_Value))) : Option (List (List S_impl_Value)) :=
  (m_slices_Clip_LLimpl_Value_Limpl_Value_o o1003).bind fun x17 =>
  some x17
def m_impl_rowsCopy_l1 : Nat → (List (List S_impl_Value)) → Int → Int → (List (List S_impl_Value)) → Option (List (List S_impl_Value))
  | 0, _, _, _, _ => none
  | n1 + 1, t6, t7, t8, o1003 =>
    bif decide (t8 < t7) then ((at? t6 t8).bind fun x12 =>
    (m_impl_clone_impl_Value x12).bind fun x13 =>
    (app? o1003 ([x13] : (List (List S_impl_Value)))).bind fun x14 =>
    (ckI (t8 + (1 : Int))).bind fun x15 =>
    (m_impl_rowsCopy_l1  n1) t6 t7 x15 x14)
    else (m_impl_rowsCopy_j1  o1003)
def m_impl_rowsCopy (a0 : (List (List S_impl_Value))) : Option (List (List S_impl_Value)) :=
  m_impl_rowsCopy_l1  (((a0.length : Int) - (0 : Int)).toNat + 1) a0 (a0.length : Int) (0 : Int) ([] : (List (List S_impl_Value)))
theorem c_impl_rowsCopy (a0 : (List (List S_impl_Value))) (r : (List (List S_impl_Value))) (h : m_impl_rowsCopy a0 = some r) : Ret Try.prog f_impl_rowsCopy [e_LLimpl_Value a0] (.nw 1 (r.map e_Limpl_Value) false) := by
  refine Does.goG [] F_impl_rowsCopy rfl e_impl_rowsCopy n_impl_rowsCopy rfl (rvs := [.tmp 2]) rfl rfl ?_
  intro w0 ok0 lent ρ0
  refine LWP.seq_k fun N1 hN1 => ?_
  refine LWP.region (l := [_]) ?_
  refine LWo.assign _ rfl (hn := ?_)
  refine LWo.ownNil 2 1002 1 rfl rfl rfl ?_
  refine LWo.known 2 (.own 1002 0 ([] : (List (List S_impl_Value))).length) rfl ?_
  refine LWo.nil (hN1 _ ?_)
  refine LWP.seq_k fun N2 hN2 => ?_
  refine LWP.region (l := [_]) ?_
  refine LWo.assign _ rfl (hn := ?_)
  refine LWo.ownNil 3 1003 1 rfl rfl rfl ?_
  refine LWo.known 3 (.own 1003 0 ([] : (List (List S_impl_Value))).length) rfl ?_
  refine LWo.nil (hN2 _ ?_)
  refine LWP.join (α := (List (List S_impl_Value))) (fun z : (List (List S_impl_Value)) => [(3, (.own 1003 0 (z).length))]) (fun z : (List (List S_impl_Value)) => [(1003, (lob 1 e_Limpl_Value z))]) (fun z : (List (List S_impl_Value)) => m_impl_rowsCopy_j1  z) r (fun _ => by simp [hkeys]) ?_ ?_
  ·rintro o1003 h
   replace h : m_impl_rowsCopy_j1  o1003 = some _ := h
   refine LWP.seq_k fun N16 hN16 => ?_
   refine LWP.region (l := [_,_,_]) ?_
   refine LWo.move (.own 1003 0 (o1003).length) rfl (hn := ?_)
   refine bk h fun x17 e17 h => ?_
   refine LWo.tcallN (e := e_Limpl_Value) (e' := e_Limpl_Value) 1019 rfl rfl (c_slices_Clip_LLimpl_Value_Limpl_Value_o _ _ e17) (fun _ => rfl) rfl rfl rfl rfl (hn := ?_)
   refine LWo.assign (.own 1019 0 (x17).length) rfl (hn := ?_)
   refine LWo.nil (hN16 _ ?_)
   obtain rfl := Option.some.inj h
   refine LWP.ret (QG.mk (.inr rfl) (.cons (.tmp (x := (.own 1019 0 (x17).length)) rfl) (.nil)) (RetOK.one0 (.nwM rfl rfl) (by decide)) rfl rfl)
  ·intro N3 hN3
   refine LWP.seq_k fun N4 hN4 => ?_
   refine LWP.region (l := [_,_,_]) ?_
   refine LWo.move (e_LLimpl_Value a0) rfl (hn := ?_)
   refine LWo.lenM (f := e_Limpl_Value) (l := a0) u_LLimpl_Value rfl (hn := ?_)
   refine LWo.move (e_int (0 : Int)) rfl (hn := ?_)
   refine LWo.nil (hN4 _ ?_)
   refine LWP.block ?_
   refine LWP.loopM (α := (List (List S_impl_Value)) × Int × Int × (List (List S_impl_Value))) (fun z : (List (List S_impl_Value)) × Int × Int × (List (List S_impl_Value)) => [(3, (.own 1003 0 (z.2.2.2).length)), (6, (e_LLimpl_Value z.1)), (7, (e_int z.2.1)), (8, (e_int z.2.2.1))]) (fun z : (List (List S_impl_Value)) × Int × Int × (List (List S_impl_Value)) => [(1003, (lob 1 e_Limpl_Value z.2.2.2))]) (fun n1 (z : (List (List S_impl_Value)) × Int × Int × (List (List S_impl_Value))) => m_impl_rowsCopy_l1  n1 z.1 z.2.1 z.2.2.1 z.2.2.2) r _ (a0, (a0.length : Int), (0 : Int), ([] : (List (List S_impl_Value)))) h (fun _ => rfl) (fun _ => by simp [hkeys]) ⟨rfl, rfl, rfl, rfl, trivial⟩ ⟨rfl, trivial⟩ ?_
   rintro n1 ⟨t6, t7, t8, o1003⟩ h N5 hN5
   replace h : m_impl_rowsCopy_l1  (n1 + 1) t6 t7 t8 o1003 = some _ := h
   refine LWP.seq_k fun N7 hN7 => ?_
   refine LWP.region (l := [_]) ?_
   refine LWo.int _ rfl rfl rfl (hn := ?_)
   refine LWo.nil (hN7 _ ?_)
   refine LWP.seq_k fun N8 hN8 => ?_
   refine LWP.cond_split rfl (fun h9 => ?_) (fun h9 => ?_)
   ·have h := bT h9 h
    refine LWP.skip (hN8 _ ?_)
    refine LWP.seq_k fun N10 hN10 => ?_
    refine LWP.block ?_
    refine LWP.seq_k fun N11 hN11 => ?_
    refine LWP.region (l := [_,_,_]) ?_
    refine bk h fun x12 e12 h => ?_
    refine LWo.indexM (f := e_Limpl_Value) e12 u_LLimpl_Value s_Limpl_Value rfl rfl (hn := ?_)
    refine LWo.load1 (c := (e_Limpl_Value x12)) g_Limpl_Value rfl (hn := ?_)
    refine LWo.assign (e_Limpl_Value x12) rfl (hn := ?_)
    refine LWo.nil (hN11 _ ?_)
    refine LWP.region (l := [_,_,_,_,_,_]) ?_
    refine LWo.move (.own 1003 0 (o1003).length) rfl (hn := ?_)
    refine LWo.move (e_Limpl_Value x12) rfl (hn := ?_)
    refine bk h fun x13 e13 h => ?_
    refine LWo.vcall rfl rfl (c_impl_clone_impl_Value _ _ e13) (.same (.nil)) (hn := ?_)
    refine LWo.lit (ops := [_]) [(e_Limpl_Value x13)] u_LLimpl_Value s_Limpl_Value z_Limpl_Value rfl rfl rfl rfl rfl rfl (hn := ?_)
    refine bk h fun x14 e14 h => ?_
    refine LWo.appendM (f := e_Limpl_Value) e14 rfl u_LLimpl_Value u_LLimpl_Value (fun _ h => by cases h) s_Limpl_Value i_Limpl_Value rfl rfl rfl (.sl rfl) rfl rfl (hn := ?_)
    refine LWo.assign (.own 1003 0 (x14).length) rfl (hn := ?_)
    refine LWo.nil (hN10 _ ?_)
    refine LWP.region (l := [_,_]) ?_
    refine bk h fun x15 e15 h => ?_
    refine LWo.int _ rfl rfl (add_ck e15) (hn := ?_)
    refine LWo.move (e_int x15) rfl (hn := ?_)
    refine LWo.nil (hN5 (t6, t7, x15, x14) _ ⟨rfl, rfl, rfl, rfl, trivial⟩ ⟨rfl, trivial⟩ h)
   ·have h := bF h9 h
    refine LWP.exit (hN3 o1003 _ ⟨rfl, trivial⟩ ⟨rfl, trivial⟩ h)

def m_impl_RowsAt_j2 (o1005 : (List (List S_impl_Value))) : Option (List (List S_impl_Value)) :=
  (m_impl_rowsCopy o1005).bind fun x25 =>
  some x25
def m_impl_RowsAt_j1 (k1 : (List S_impl_Version) → Int → Int → (List (List S_impl_Value)) → Option (List (List S_impl_Value))) (t0 : (List S_impl_Version)) (t1 : Int) (t12 : Int) (o1005 : (List (List S_impl_Value))) : Option (List (List S_impl_Value)) :=
  (ckI (t12 + (1 : Int))).bind fun x23 =>
  k1 t0 t1 x23 o1005
def m_impl_RowsAt_l1 : Nat → (List S_impl_Version) → Int → Int → (List (List S_impl_Value)) → Option (List (List S_impl_Value))
  | 0, _, _, _, _ => none
  | n1 + 1, t0, t1, t12, o1005 =>
    bif decide (t12 < (5 : Int)) then ((m_impl_seen t0 t12 t1).bind fun x18 =>
    lt (x18.1) fun y19 =>
    bif x18.2 then ((app? o1005 ([y19.Row] : (List (List S_impl_Value)))).bind fun x22 =>
      m_impl_RowsAt_j1  (m_impl_RowsAt_l1  n1) t0 t1 t12 x22)
    else (m_impl_RowsAt_j1  (m_impl_RowsAt_l1  n1) t0 t1 t12 o1005))
    else (m_impl_RowsAt_j2  o1005)
def m_impl_RowsAt (a0 : (List S_impl_Version)) (a1 : Int) : Option (List (List S_impl_Value)) :=
  (m_impl_VersionsOk a0).bind fun x4 =>
  bif (!x4) then (some ([] : (List (List S_impl_Value))))
  else (m_impl_RowsAt_l1  (((5 : Int) - (0 : Int)).toNat + 1) a0 a1 (0 : Int) ([] : (List (List S_impl_Value))))
theorem c_impl_RowsAt (a0 : (List S_impl_Version)) (a1 : Int) (r : (List (List S_impl_Value))) (h : m_impl_RowsAt a0 a1 = some r) : Ret Try.prog f_impl_RowsAt [e_Limpl_Version a0, e_int a1] (.nw 1 (r.map e_Limpl_Value) false) := by
  refine Does.goG [] F_impl_RowsAt rfl e_impl_RowsAt n_impl_RowsAt rfl (rvs := [.tmp 4]) rfl rfl ?_
  intro w0 ok0 lent ρ0
  refine LWP.seq_k fun N1 hN1 => ?_
  refine LWP.region (l := [_]) ?_
  refine LWo.assign _ rfl (hn := ?_)
  refine LWo.ownNil 4 1004 1 rfl rfl rfl ?_
  refine LWo.known 4 (.own 1004 0 ([] : (List (List S_impl_Value))).length) rfl ?_
  refine LWo.nil (hN1 _ ?_)
  refine LWP.seq_k fun N2 hN2 => ?_
  refine LWP.seq_k fun N3 hN3 => ?_
  refine LWP.region (l := [_,_,_]) ?_
  refine LWo.move (e_Limpl_Version a0) rfl (hn := ?_)
  refine bk h fun x4 e4 h => ?_
  refine LWo.vcall rfl rfl (c_impl_VersionsOk _ _ e4) (.same (.nil)) (hn := ?_)
  refine LWo.not rfl (hn := ?_)
  refine LWo.nil (hN3 _ ?_)
  refine LWP.cond_split rfl (fun h5 => ?_) (fun h5 => ?_)
  ·have h := bT h5 h
   refine LWP.seq_k fun N6 hN6 => ?_
   refine LWP.region (l := [_]) ?_
   refine LWo.assign _ rfl (hn := ?_)
   refine LWo.ownNil 4 1004 1 rfl rfl rfl ?_
   refine LWo.known 4 (.own 1004 0 ([] : (List (List S_impl_Value))).length) rfl ?_
   refine LWo.nil (hN6 _ ?_)
   obtain rfl := Option.some.inj h
   refine LWP.ret (QG.mk (.inr rfl) (.cons (.tmp (x := (.own 1004 0 (([] : (List (List S_impl_Value)))).length)) rfl) (.nil)) (RetOK.one0 (.nwM rfl rfl) (by decide)) rfl rfl)
  ·have h := bF h5 h
   refine LWP.skip (hN2 _ ?_)
   refine LWP.seq_k fun N7 hN7 => ?_
   refine LWP.region (l := [_]) ?_
   refine LWo.assign _ rfl (hn := ?_)
   refine LWo.ownNil 5 1005 1 rfl rfl rfl ?_
   refine LWo.known 5 (.own 1005 0 ([] : (List (List S_impl_Value))).length) rfl ?_
   refine LWo.nil (hN7 _ ?_)
   refine LWP.join (α := (List (List S_impl_Value))) (fun z : (List (List S_impl_Value)) => [(5, (.own 1005 0 (z).length))]) (fun z : (List (List S_impl_Value)) => [(1005, (lob 1 e_Limpl_Value z))]) (fun z : (List (List S_impl_Value)) => m_impl_RowsAt_j2  z) r (fun _ => by simp [hkeys]) ?_ ?_
   ·rintro o1005 h
    replace h : m_impl_RowsAt_j2  o1005 = some _ := h
    refine LWP.seq_k fun N24 hN24 => ?_
    refine LWP.region (l := [_,_,_]) ?_
    refine LWo.move (.own 1005 0 (o1005).length) rfl (hn := ?_)
    refine bk h fun x25 e25 h => ?_
    refine LWo.frzL (f := e_Limpl_Value) (l := o1005) [5, 29] 1005 rfl rfl ⟨rfl, rfl, trivial⟩ ?_
    refine LWo.ncall (e := e_Limpl_Value) 1030 rfl rfl (c_impl_rowsCopy _ _ e25) (.same (.nil)) rfl (hn := ?_)
    refine LWo.assign (.own 1030 0 (x25).length) rfl (hn := ?_)
    refine LWo.nil (hN24 _ ?_)
    obtain rfl := Option.some.inj h
    refine LWP.ret (QG.mk (.inr rfl) (.cons (.tmp (x := (.own 1030 0 (x25).length)) rfl) (.nil)) (RetOK.one0 (.nwM rfl rfl) (by decide)) rfl rfl)
   ·intro N8 hN8
    refine LWP.seq_k fun N9 hN9 => ?_
    refine LWP.region (l := [_]) ?_
    refine LWo.move (e_int (0 : Int)) rfl (hn := ?_)
    refine LWo.nil (hN9 _ ?_)
    refine LWP.block ?_
    refine LWP.loopM (α := (List S_impl_Version) × Int × Int × (List (List S_impl_Value))) (fun z : (List S_impl_Version) × Int × Int × (List (List S_impl_Value)) => [(0, (e_Limpl_Version z.1)), (1, (e_int z.2.1)), (5, (.own 1005 0 (z.2.2.2).length)), (12, (e_int z.2.2.1))]) (fun z : (List S_impl_Version) × Int × Int × (List (List S_impl_Value)) => [(1005, (lob 1 e_Limpl_Value z.2.2.2))]) (fun n1 (z : (List S_impl_Version) × Int × Int × (List (List S_impl_Value))) => m_impl_RowsAt_l1  n1 z.1 z.2.1 z.2.2.1 z.2.2.2) r _ (a0, a1, (0 : Int), ([] : (List (List S_impl_Value)))) h (fun _ => rfl) (fun _ => by simp [hkeys]) ⟨rfl, rfl, rfl, rfl, trivial⟩ ⟨rfl, trivial⟩ ?_
    rintro n1 ⟨t0, t1, t12, o1005⟩ h N10 hN10
    replace h : m_impl_RowsAt_l1  (n1 + 1) t0 t1 t12 o1005 = some _ := h
    refine LWP.seq_k fun N12 hN12 => ?_
    refine LWP.region (l := [_]) ?_
    refine LWo.int _ rfl rfl rfl (hn := ?_)
    refine LWo.nil (hN12 _ ?_)
    refine LWP.seq_k fun N13 hN13 => ?_
    refine LWP.cond_split rfl (fun h14 => ?_) (fun h14 => ?_)
    ·have h := bT h14 h
     refine LWP.skip (hN13 _ ?_)
     refine LWP.join (α := (List S_impl_Version) × Int × Int × (List (List S_impl_Value))) (fun z : (List S_impl_Version) × Int × Int × (List (List S_impl_Value)) => [(0, (e_Limpl_Version z.1)), (1, (e_int z.2.1)), (5, (.own 1005 0 (z.2.2.2).length)), (12, (e_int z.2.2.1))]) (fun z : (List S_impl_Version) × Int × Int × (List (List S_impl_Value)) => [(1005, (lob 1 e_Limpl_Value z.2.2.2))]) (fun z : (List S_impl_Version) × Int × Int × (List (List S_impl_Value)) => m_impl_RowsAt_j1  (m_impl_RowsAt_l1  n1) z.1 z.2.1 z.2.2.1 z.2.2.2) r (fun _ => by simp [hkeys]) ?_ ?_
     ·rintro ⟨t0, t1, t12, o1005⟩ h
      replace h : m_impl_RowsAt_j1  (m_impl_RowsAt_l1  n1) t0 t1 t12 o1005 = some _ := h
      refine LWP.region (l := [_,_]) ?_
      refine bk h fun x23 e23 h => ?_
      refine LWo.int _ rfl rfl (add_ck e23) (hn := ?_)
      refine LWo.move (e_int x23) rfl (hn := ?_)
      refine LWo.nil (hN10 (t0, t1, x23, o1005) _ ⟨rfl, rfl, rfl, rfl, trivial⟩ ⟨rfl, trivial⟩ h)
     ·intro N15 hN15
      refine LWP.block ?_
      refine LWP.seq_k fun N16 hN16 => ?_
      refine LWP.region (l := [_,_]) ?_
      refine LWo.move (e_int t12) rfl (hn := ?_)
      refine LWo.assign (e_int t12) rfl (hn := ?_)
      refine LWo.nil (hN16 _ ?_)
      refine LWP.seq_k fun N17 hN17 => ?_
      refine LWP.region (l := [_,_,_,_,_,_,_,_,_,_]) ?_
      refine LWo.move (e_Limpl_Version t0) rfl (hn := ?_)
      refine LWo.move (e_int t12) rfl (hn := ?_)
      refine LWo.move (e_int t1) rfl (hn := ?_)
      refine bk h fun x18 e18 h => ?_
      refine LWo.vcall rfl rfl (c_impl_seen _ _ _ _ e18) (.same (.same (.same (.nil)))) (hn := ?_)
      refine LWo.move (.tup [(e_impl_Version x18.1), (e_bool x18.2)]) rfl (hn := ?_)
      refine LWo.extract (e_impl_Version x18.1) rfl rfl (hn := ?_)
      refine LWo.extract (e_bool x18.2) rfl rfl (hn := ?_)
      refine LWo.alloc_impl_Version 7 rfl (hn := ?_)
      refine lk h fun y19 e19 h => ?_
      refine LWo.storeW (y := (⟨(0 : Int), (0 : Int), (0 : Int), []⟩ : S_impl_Version)) y19 s_impl_Version rfl rfl rfl rfl rfl rfl (by rw [e19]; exact .refl) rfl (hn := ?_)
      refine LWo.assign (e_bool x18.2) rfl (hn := ?_)
      refine LWo.nil (hN17 _ ?_)
      refine LWP.seq_k fun N20 hN20 => ?_
      refine LWP.region (l := [_]) ?_
      refine LWo.move (e_bool x18.2) rfl (hn := ?_)
      refine LWo.nil (hN20 _ ?_)
      refine LWP.cond_split rfl (fun h21 => ?_) (fun h21 => ?_)
      ·have h := bT h21 h
       refine LWP.region (l := [_,_,_,_,_,_]) ?_
       refine LWo.move (.own 1005 0 (o1005).length) rfl (hn := ?_)
       refine LWo.fieldPtr u_impl_Version rfl s_Limpl_Value rfl rfl (hn := ?_)
       refine LWo.loadV1 (e_Limpl_Value y19.Row)  g_Limpl_Value rfl rfl rfl (hn := ?_)
       refine LWo.lit (ops := [_]) [(e_Limpl_Value y19.Row)] u_LLimpl_Value s_Limpl_Value z_Limpl_Value rfl rfl rfl rfl rfl rfl (hn := ?_)
       refine bk h fun x22 e22 h => ?_
       refine LWo.appendM (f := e_Limpl_Value) e22 rfl u_LLimpl_Value u_LLimpl_Value (fun _ h => by cases h) s_Limpl_Value i_Limpl_Value rfl rfl rfl (.sl rfl) rfl rfl (hn := ?_)
       refine LWo.assign (.own 1005 0 (x22).length) rfl (hn := ?_)
       refine LWo.nil (hN15 (t0, t1, t12, x22) _ ⟨rfl, rfl, rfl, rfl, trivial⟩ ⟨rfl, trivial⟩ h)
      ·have h := bF h21 h
       refine LWP.skip (hN15 (t0, t1, t12, o1005) _ ⟨rfl, rfl, rfl, rfl, trivial⟩ ⟨rfl, trivial⟩ h)
    ·have h := bF h14 h
     refine LWP.exit (hN8 o1005 _ ⟨rfl, trivial⟩ ⟨rfl, trivial⟩ h)
end Go.Proofs.Ytijihchddhikhaa
