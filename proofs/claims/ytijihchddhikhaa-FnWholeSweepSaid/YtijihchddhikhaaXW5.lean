/- Mirrors of functions, and that the functions return what the mirrors say. -/
import Derived.Test.YtijihchddhikhaaXW4
set_option linter.unusedVariables false
set_option linter.unusedSimpArgs false
set_option linter.unnecessarySimpa false
namespace Go.Proofs.Ytijihchddhikhaa
open Go.Proofs Go.Lift Go.RowKit
def m_slices_stableCmpFunc_impl_Version_j3 (p2 : S_impl_Version → S_impl_Version → Option Int) (k2 : Int → Int → (List S_impl_Version) → Option (List S_impl_Version)) (t1 : Int) (t6 : Int) (o0 : (List S_impl_Version)) : Option (List S_impl_Version) :=
  (ckI (t6 * (2 : Int))).bind fun x44 =>
  k2 t1 x44 o0
def m_slices_stableCmpFunc_impl_Version_j2 (p2 : S_impl_Version → S_impl_Version → Option Int) (k2 : Int → Int → (List S_impl_Version) → Option (List S_impl_Version)) (t1 : Int) (t6 : Int) (t7 : Int) (o0 : (List S_impl_Version)) : Option (List S_impl_Version) :=
  (ckI (t7 + t6)).bind fun x39 =>
  bif decide (x39 < t1) then ((m_slices_symMergeCmpFunc_impl_Version 1000000000 o0 t7 x39 t1 p2).bind fun x42 =>
    (lenQ x42.length o0.length ()).bind fun u43 =>
    m_slices_stableCmpFunc_impl_Version_j3 p2 k2 t1 t6 x42)
  else (m_slices_stableCmpFunc_impl_Version_j3 p2 k2 t1 t6 o0)
def m_slices_stableCmpFunc_impl_Version_l3 (p2 : S_impl_Version → S_impl_Version → Option Int) (k2 : Int → Int → (List S_impl_Version) → Option (List S_impl_Version)) : Nat → Int → Int → Int → Int → (List S_impl_Version) → Option (List S_impl_Version)
  | 0, _, _, _, _, _ => none
  | n3 + 1, t1, t6, t7, t8, o0 =>
    bif decide (t8 ≤ t1) then ((ckI (t7 + t6)).bind fun x31 =>
    (m_slices_symMergeCmpFunc_impl_Version 1000000000 o0 t7 x31 t8 p2).bind fun x32 =>
    (lenQ x32.length o0.length ()).bind fun u33 =>
    (ckI ((2 : Int) * t6)).bind fun x35 =>
    (ckI (t8 + x35)).bind fun x36 =>
    (m_slices_stableCmpFunc_impl_Version_l3 p2 k2 n3) t1 t6 t8 x36 x32)
    else (m_slices_stableCmpFunc_impl_Version_j2 p2 k2 t1 t6 t7 o0)
def m_slices_stableCmpFunc_impl_Version_l2 (p2 : S_impl_Version → S_impl_Version → Option Int) : Nat → Int → Int → (List S_impl_Version) → Option (List S_impl_Version)
  | 0, _, _, _ => none
  | n2 + 1, t1, t6, o0 =>
    bif decide (t6 < t1) then ((ckI ((2 : Int) * t6)).bind fun x23 =>
    m_slices_stableCmpFunc_impl_Version_l3 p2 (m_slices_stableCmpFunc_impl_Version_l2 p2 n2) ((t1 - x23).toNat + 2) t1 t6 (0 : Int) x23 o0)
    else (some o0)
def m_slices_stableCmpFunc_impl_Version_j1 (p2 : S_impl_Version → S_impl_Version → Option Int) (t1 : Int) (t6 : Int) (t7 : Int) (o0 : (List S_impl_Version)) : Option (List S_impl_Version) :=
  (m_slices_insertionSortCmpFunc_impl_Version o0 t7 t1 p2).bind fun x15 =>
  (lenQ x15.length o0.length ()).bind fun u16 =>
  m_slices_stableCmpFunc_impl_Version_l2 p2 ((t1 - t6).toNat + 1) t1 t6 x15
def m_slices_stableCmpFunc_impl_Version_l1 (p2 : S_impl_Version → S_impl_Version → Option Int) : Nat → Int → Int → Int → Int → (List S_impl_Version) → Option (List S_impl_Version)
  | 0, _, _, _, _, _ => none
  | n1 + 1, t1, t6, t7, t8, o0 =>
    bif decide (t8 ≤ t1) then ((m_slices_insertionSortCmpFunc_impl_Version o0 t7 t8 p2).bind fun x10 =>
    (lenQ x10.length o0.length ()).bind fun u11 =>
    (ckI (t8 + t6)).bind fun x13 =>
    (m_slices_stableCmpFunc_impl_Version_l1 p2 n1) t1 t6 t8 x13 x10)
    else (m_slices_stableCmpFunc_impl_Version_j1 p2 t1 t6 t7 o0)
def m_slices_stableCmpFunc_impl_Version (o0 : (List S_impl_Version)) (a1 : Int) (p2 : S_impl_Version → S_impl_Version → Option Int) : Option (List S_impl_Version) :=
  m_slices_stableCmpFunc_impl_Version_l1 p2 ((a1 - (20 : Int)).toNat + 2) a1 (20 : Int) (0 : Int) (20 : Int) o0
theorem c_slices_stableCmpFunc_impl_Version (o0 : (List S_impl_Version)) (a1 : Int) (p2 : S_impl_Version → S_impl_Version → Option Int) (f2 : FuncId) (q2 : List LV) (hq2 : ∀ k, LV.at?.atL k q2 = false) (hf2 : ∀ a0 a1 v, p2 a0 a1 = some v → Ret Try.prog f2 (e_impl_Version a0 :: e_impl_Version a1 :: q2) (e_int v)) (r : (List S_impl_Version)) (h : m_slices_stableCmpFunc_impl_Version o0 a1 p2 = some r) : Does Try.prog f_slices_stableCmpFunc_impl_Version [.own 0 0 o0.length, e_int a1, .clo f2 q2] [(0, (lob 4 e_impl_Version o0))] (fun x hh => x = .tup [] ∧ hh = [(0, (lob 4 e_impl_Version r))]) := by
  refine Does.goG [0] F_slices_stableCmpFunc_impl_Version rfl e_slices_stableCmpFunc_impl_Version n_slices_stableCmpFunc_impl_Version rfl (rvs := []) rfl rfl ?_
  intro w0 ok0 lent ρ0
  refine LWP.seq_k fun N1 hN1 => ?_
  refine LWP.region (l := [_]) ?_
  refine LWo.assign (e_int (20 : Int)) rfl (hn := ?_)
  refine LWo.nil (hN1 _ ?_)
  refine LWP.seq_k fun N2 hN2 => ?_
  refine LWP.region (l := [_,_,_]) ?_
  refine LWo.move (e_int (20 : Int)) rfl (hn := ?_)
  refine LWo.assign (e_int (0 : Int)) rfl (hn := ?_)
  refine LWo.assign (e_int (20 : Int)) rfl (hn := ?_)
  refine LWo.nil (hN2 _ ?_)
  refine LWP.join (α := Int × Int × Int × (List S_impl_Version)) (fun z : Int × Int × Int × (List S_impl_Version) => [(0, (.own 0 0 (z.2.2.2).length)), (1, (e_int z.1)), (2, (.clo f2 q2)), (6, (e_int z.2.1)), (7, (e_int z.2.2.1))]) (fun z : Int × Int × Int × (List S_impl_Version) => [(0, (lob 4 e_impl_Version z.2.2.2))]) (fun z : Int × Int × Int × (List S_impl_Version) => m_slices_stableCmpFunc_impl_Version_j1 p2 z.1 z.2.1 z.2.2.1 z.2.2.2) r (fun _ => by simp [hkeys]) ?_ ?_
  ·rintro ⟨t1, t6, t7, o0⟩ h
   replace h : m_slices_stableCmpFunc_impl_Version_j1 p2 t1 t6 t7 o0 = some _ := h
   refine LWP.seq_k fun N14 hN14 => ?_
   refine LWP.region (l := [_,_,_,_,_]) ?_
   refine LWo.move (.own 0 0 (o0).length) rfl (hn := ?_)
   refine LWo.move (e_int t7) rfl (hn := ?_)
   refine LWo.move (e_int t1) rfl (hn := ?_)
   refine LWo.move (.clo f2 q2) rfl (hn := ?_)
   refine bk h fun x15 e15 h => ?_
   refine bk h fun u16 e16 h => ?_
   refine LWo.ucallM (e := e_impl_Version) rfl rfl (k_slices_insertionSortCmpFunc_impl_Version _ _ _ _ f2 q2 hq2 hf2 _ e15 0) rfl rfl (some 27) rfl (hn := ?_)
   refine LWo.nil (hN14 _ ?_)
   refine LWP.block ?_
   refine LWP.loopM (α := Int × Int × (List S_impl_Version)) (fun z : Int × Int × (List S_impl_Version) => [(0, (.own 0 0 (z.2.2).length)), (1, (e_int z.1)), (2, (.clo f2 q2)), (6, (e_int z.2.1))]) (fun z : Int × Int × (List S_impl_Version) => [(0, (lob 4 e_impl_Version z.2.2))]) (fun n2 (z : Int × Int × (List S_impl_Version)) => m_slices_stableCmpFunc_impl_Version_l2 p2 n2 z.1 z.2.1 z.2.2) r _ (t1, t6, x15) h (fun _ => rfl) (fun _ => by simp [hkeys]) ⟨(congrArg (LV.own 0 0) ((lenQ_some e16).1.symm)), rfl, rfl, rfl, trivial⟩ ⟨rfl, trivial⟩ ?_
   rintro n2 ⟨t1, t6, o0⟩ h N17 hN17
   replace h : m_slices_stableCmpFunc_impl_Version_l2 p2 (n2 + 1) t1 t6 o0 = some _ := h
   refine LWP.seq_k fun N19 hN19 => ?_
   refine LWP.seq_k fun N20 hN20 => ?_
   refine LWP.region (l := [_,_,_]) ?_
   refine LWo.move (e_int t6) rfl (hn := ?_)
   refine LWo.move (e_int t1) rfl (hn := ?_)
   refine LWo.int _ rfl rfl rfl (hn := ?_)
   refine LWo.nil (hN20 _ ?_)
   refine LWP.cond_split rfl (fun h21 => ?_) (fun h21 => ?_)
   ·have h := bT h21 h
    refine LWP.skip (hN19 _ ?_)
    refine LWP.block ?_
    refine LWP.seq_k fun N22 hN22 => ?_
    refine LWP.region (l := [_,_,_,_]) ?_
    refine LWo.move (e_int t6) rfl (hn := ?_)
    refine bk h fun x23 e23 h => ?_
    refine LWo.int _ rfl rfl (mul_ck e23) (hn := ?_)
    refine LWo.assign (e_int (0 : Int)) rfl (hn := ?_)
    refine LWo.assign (e_int x23) rfl (hn := ?_)
    refine LWo.nil (hN22 _ ?_)
    refine LWP.join (α := Int × Int × Int × (List S_impl_Version)) (fun z : Int × Int × Int × (List S_impl_Version) => [(0, (.own 0 0 (z.2.2.2).length)), (1, (e_int z.1)), (2, (.clo f2 q2)), (6, (e_int z.2.1)), (7, (e_int z.2.2.1))]) (fun z : Int × Int × Int × (List S_impl_Version) => [(0, (lob 4 e_impl_Version z.2.2.2))]) (fun z : Int × Int × Int × (List S_impl_Version) => m_slices_stableCmpFunc_impl_Version_j2 p2 (m_slices_stableCmpFunc_impl_Version_l2 p2 n2) z.1 z.2.1 z.2.2.1 z.2.2.2) r (fun _ => by simp [hkeys]) ?_ ?_
    ·rintro ⟨t1, t6, t7, o0⟩ h
     replace h : m_slices_stableCmpFunc_impl_Version_j2 p2 (m_slices_stableCmpFunc_impl_Version_l2 p2 n2) t1 t6 t7 o0 = some _ := h
     refine LWP.join (α := Int × Int × (List S_impl_Version)) (fun z : Int × Int × (List S_impl_Version) => [(0, (.own 0 0 (z.2.2).length)), (1, (e_int z.1)), (2, (.clo f2 q2)), (6, (e_int z.2.1))]) (fun z : Int × Int × (List S_impl_Version) => [(0, (lob 4 e_impl_Version z.2.2))]) (fun z : Int × Int × (List S_impl_Version) => m_slices_stableCmpFunc_impl_Version_j3 p2 (m_slices_stableCmpFunc_impl_Version_l2 p2 n2) z.1 z.2.1 z.2.2) r (fun _ => by simp [hkeys]) ?_ ?_
     ·rintro ⟨t1, t6, o0⟩ h
      replace h : m_slices_stableCmpFunc_impl_Version_j3 p2 (m_slices_stableCmpFunc_impl_Version_l2 p2 n2) t1 t6 o0 = some _ := h
      refine LWP.region (l := [_,_,_]) ?_
      refine LWo.move (e_int t6) rfl (hn := ?_)
      refine bk h fun x44 e44 h => ?_
      refine LWo.int _ rfl rfl (mul_ck e44) (hn := ?_)
      refine LWo.assign (e_int x44) rfl (hn := ?_)
      refine LWo.nil (hN17 (t1, x44, o0) _ ⟨rfl, rfl, rfl, rfl, trivial⟩ ⟨rfl, trivial⟩ h)
     ·intro N37 hN37
      refine LWP.seq_k fun N38 hN38 => ?_
      refine LWP.region (l := [_,_,_,_]) ?_
      refine LWo.move (e_int t7) rfl (hn := ?_)
      refine LWo.move (e_int t6) rfl (hn := ?_)
      refine bk h fun x39 e39 h => ?_
      refine LWo.int _ rfl rfl (add_ck e39) (hn := ?_)
      refine LWo.assign (e_int x39) rfl (hn := ?_)
      refine LWo.nil (hN38 _ ?_)
      refine LWP.seq_k fun N40 hN40 => ?_
      refine LWP.region (l := [_,_,_]) ?_
      refine LWo.move (e_int x39) rfl (hn := ?_)
      refine LWo.move (e_int t1) rfl (hn := ?_)
      refine LWo.int _ rfl rfl rfl (hn := ?_)
      refine LWo.nil (hN40 _ ?_)
      refine LWP.cond_split rfl (fun h41 => ?_) (fun h41 => ?_)
      ·have h := bT h41 h
       refine LWP.region (l := [_,_,_,_,_,_]) ?_
       refine LWo.move (.own 0 0 (o0).length) rfl (hn := ?_)
       refine LWo.move (e_int t7) rfl (hn := ?_)
       refine LWo.move (e_int x39) rfl (hn := ?_)
       refine LWo.move (e_int t1) rfl (hn := ?_)
       refine LWo.move (.clo f2 q2) rfl (hn := ?_)
       refine bk h fun x42 e42 h => ?_
       refine bk h fun u43 e43 h => ?_
       refine LWo.ucallM (e := e_impl_Version) rfl rfl (k_slices_symMergeCmpFunc_impl_Version 1000000000 _ _ _ _ _ f2 q2 hq2 hf2 _ e42 0) rfl rfl (some 60) rfl (hn := ?_)
       refine LWo.nil (hN37 (t1, t6, x42) _ ⟨(congrArg (LV.own 0 0) ((lenQ_some e43).1.symm)), rfl, rfl, rfl, trivial⟩ ⟨rfl, trivial⟩ h)
      ·have h := bF h41 h
       refine LWP.skip (hN37 (t1, t6, o0) _ ⟨rfl, rfl, rfl, rfl, trivial⟩ ⟨rfl, trivial⟩ h)
    ·intro N24 hN24
     refine LWP.block ?_
     refine LWP.loopM (α := Int × Int × Int × Int × (List S_impl_Version)) (fun z : Int × Int × Int × Int × (List S_impl_Version) => [(0, (.own 0 0 (z.2.2.2.2).length)), (1, (e_int z.1)), (2, (.clo f2 q2)), (6, (e_int z.2.1)), (7, (e_int z.2.2.1)), (8, (e_int z.2.2.2.1))]) (fun z : Int × Int × Int × Int × (List S_impl_Version) => [(0, (lob 4 e_impl_Version z.2.2.2.2))]) (fun n3 (z : Int × Int × Int × Int × (List S_impl_Version)) => m_slices_stableCmpFunc_impl_Version_l3 p2 (m_slices_stableCmpFunc_impl_Version_l2 p2 n2) n3 z.1 z.2.1 z.2.2.1 z.2.2.2.1 z.2.2.2.2) r _ (t1, t6, (0 : Int), x23, o0) h (fun _ => rfl) (fun _ => by simp [hkeys]) ⟨rfl, rfl, rfl, rfl, rfl, rfl, trivial⟩ ⟨rfl, trivial⟩ ?_
     rintro n3 ⟨t1, t6, t7, t8, o0⟩ h N25 hN25
     replace h : m_slices_stableCmpFunc_impl_Version_l3 p2 (m_slices_stableCmpFunc_impl_Version_l2 p2 n2) (n3 + 1) t1 t6 t7 t8 o0 = some _ := h
     refine LWP.seq_k fun N27 hN27 => ?_
     refine LWP.seq_k fun N28 hN28 => ?_
     refine LWP.region (l := [_,_,_]) ?_
     refine LWo.move (e_int t8) rfl (hn := ?_)
     refine LWo.move (e_int t1) rfl (hn := ?_)
     refine LWo.int _ rfl rfl rfl (hn := ?_)
     refine LWo.nil (hN28 _ ?_)
     refine LWP.cond_split rfl (fun h29 => ?_) (fun h29 => ?_)
     ·have h := bT h29 h
      refine LWP.skip (hN27 _ ?_)
      refine LWP.block ?_
      refine LWP.seq_k fun N30 hN30 => ?_
      refine LWP.region (l := [_,_,_,_,_,_,_,_]) ?_
      refine LWo.move (.own 0 0 (o0).length) rfl (hn := ?_)
      refine LWo.move (e_int t7) rfl (hn := ?_)
      refine LWo.move (e_int t7) rfl (hn := ?_)
      refine LWo.move (e_int t6) rfl (hn := ?_)
      refine bk h fun x31 e31 h => ?_
      refine LWo.int _ rfl rfl (add_ck e31) (hn := ?_)
      refine LWo.move (e_int t8) rfl (hn := ?_)
      refine LWo.move (.clo f2 q2) rfl (hn := ?_)
      refine bk h fun x32 e32 h => ?_
      refine bk h fun u33 e33 h => ?_
      refine LWo.ucallM (e := e_impl_Version) rfl rfl (k_slices_symMergeCmpFunc_impl_Version 1000000000 _ _ _ _ _ f2 q2 hq2 hf2 _ e32 0) rfl rfl (some 43) rfl (hn := ?_)
      refine LWo.nil (hN30 _ ?_)
      refine LWP.seq_k fun N34 hN34 => ?_
      refine LWP.region (l := [_,_]) ?_
      refine LWo.move (e_int t8) rfl (hn := ?_)
      refine LWo.assign (e_int t8) rfl (hn := ?_)
      refine LWo.nil (hN34 _ ?_)
      refine LWP.region (l := [_,_,_,_,_]) ?_
      refine LWo.move (e_int t8) rfl (hn := ?_)
      refine LWo.move (e_int t6) rfl (hn := ?_)
      refine bk h fun x35 e35 h => ?_
      refine LWo.int _ rfl rfl (mul_ck e35) (hn := ?_)
      refine bk h fun x36 e36 h => ?_
      refine LWo.int _ rfl rfl (add_ck e36) (hn := ?_)
      refine LWo.assign (e_int x36) rfl (hn := ?_)
      refine LWo.nil (hN25 (t1, t6, t8, x36, x32) _ ⟨(congrArg (LV.own 0 0) ((lenQ_some e33).1.symm)), rfl, rfl, rfl, rfl, rfl, trivial⟩ ⟨rfl, trivial⟩ h)
     ·have h := bF h29 h
      refine LWP.exit (hN24 (t1, t6, t7, o0) _ ⟨rfl, rfl, rfl, rfl, rfl, trivial⟩ ⟨rfl, trivial⟩ h)
   ·have h := bF h21 h
    obtain rfl := Option.some.inj h
    refine LWP.exit (QG.mk (.inl rfl) (.nil) (RetOK.many1 (.nil) (by simp) (by decide) rfl rfl rfl rfl rfl) rfl rfl)
  ·intro N3 hN3
   refine LWP.block ?_
   refine LWP.loopM (α := Int × Int × Int × Int × (List S_impl_Version)) (fun z : Int × Int × Int × Int × (List S_impl_Version) => [(0, (.own 0 0 (z.2.2.2.2).length)), (1, (e_int z.1)), (2, (.clo f2 q2)), (6, (e_int z.2.1)), (7, (e_int z.2.2.1)), (8, (e_int z.2.2.2.1))]) (fun z : Int × Int × Int × Int × (List S_impl_Version) => [(0, (lob 4 e_impl_Version z.2.2.2.2))]) (fun n1 (z : Int × Int × Int × Int × (List S_impl_Version)) => m_slices_stableCmpFunc_impl_Version_l1 p2 n1 z.1 z.2.1 z.2.2.1 z.2.2.2.1 z.2.2.2.2) r _ (a1, (20 : Int), (0 : Int), (20 : Int), o0) h (fun _ => rfl) (fun _ => by simp [hkeys]) ⟨rfl, rfl, rfl, rfl, rfl, rfl, trivial⟩ ⟨rfl, trivial⟩ ?_
   rintro n1 ⟨t1, t6, t7, t8, o0⟩ h N4 hN4
   replace h : m_slices_stableCmpFunc_impl_Version_l1 p2 (n1 + 1) t1 t6 t7 t8 o0 = some _ := h
   refine LWP.seq_k fun N6 hN6 => ?_
   refine LWP.seq_k fun N7 hN7 => ?_
   refine LWP.region (l := [_,_,_]) ?_
   refine LWo.move (e_int t8) rfl (hn := ?_)
   refine LWo.move (e_int t1) rfl (hn := ?_)
   refine LWo.int _ rfl rfl rfl (hn := ?_)
   refine LWo.nil (hN7 _ ?_)
   refine LWP.cond_split rfl (fun h8 => ?_) (fun h8 => ?_)
   ·have h := bT h8 h
    refine LWP.skip (hN6 _ ?_)
    refine LWP.block ?_
    refine LWP.seq_k fun N9 hN9 => ?_
    refine LWP.region (l := [_,_,_,_,_]) ?_
    refine LWo.move (.own 0 0 (o0).length) rfl (hn := ?_)
    refine LWo.move (e_int t7) rfl (hn := ?_)
    refine LWo.move (e_int t8) rfl (hn := ?_)
    refine LWo.move (.clo f2 q2) rfl (hn := ?_)
    refine bk h fun x10 e10 h => ?_
    refine bk h fun u11 e11 h => ?_
    refine LWo.ucallM (e := e_impl_Version) rfl rfl (k_slices_insertionSortCmpFunc_impl_Version _ _ _ _ f2 q2 hq2 hf2 _ e10 0) rfl rfl (some 18) rfl (hn := ?_)
    refine LWo.nil (hN9 _ ?_)
    refine LWP.seq_k fun N12 hN12 => ?_
    refine LWP.region (l := [_,_]) ?_
    refine LWo.move (e_int t8) rfl (hn := ?_)
    refine LWo.assign (e_int t8) rfl (hn := ?_)
    refine LWo.nil (hN12 _ ?_)
    refine LWP.region (l := [_,_,_,_]) ?_
    refine LWo.move (e_int t8) rfl (hn := ?_)
    refine LWo.move (e_int t6) rfl (hn := ?_)
    refine bk h fun x13 e13 h => ?_
    refine LWo.int _ rfl rfl (add_ck e13) (hn := ?_)
    refine LWo.assign (e_int x13) rfl (hn := ?_)
    refine LWo.nil (hN4 (t1, t6, t8, x13, x10) _ ⟨(congrArg (LV.own 0 0) ((lenQ_some e11).1.symm)), rfl, rfl, rfl, rfl, rfl, trivial⟩ ⟨rfl, trivial⟩ h)
   ·have h := bF h8 h
    refine LWP.exit (hN3 (t1, t6, t7, o0) _ ⟨rfl, rfl, rfl, rfl, rfl, trivial⟩ ⟨rfl, trivial⟩ h)
theorem k_slices_stableCmpFunc_impl_Version (o0 : (List S_impl_Version)) (a1 : Int) (p2 : S_impl_Version → S_impl_Version → Option Int) (f2 : FuncId) (q2 : List LV) (hq2 : ∀ k, LV.at?.atL k q2 = false) (hf2 : ∀ a0 a1 v, p2 a0 a1 = some v → Ret Try.prog f2 (e_impl_Version a0 :: e_impl_Version a1 :: q2) (e_int v)) (r : (List S_impl_Version)) (h : m_slices_stableCmpFunc_impl_Version o0 a1 p2 = some r) (k : Nat) : Does Try.prog f_slices_stableCmpFunc_impl_Version [.own k 0 o0.length, e_int a1, .clo f2 q2] [(k, (lob 4 e_impl_Version o0))] (fun x hh => x = .tup [] ∧ hh = [(k, (lob 4 e_impl_Version r))]) :=
  Does.nameO (c_slices_stableCmpFunc_impl_Version o0 a1 p2 f2 q2 hq2 hf2 r h) (fun k => (atC rfl (atC (hq2 k) (atN _)))) k

def m_slices_SortStableFunc_Limpl_Version_impl_Version (o0 : (List S_impl_Version)) (p1 : S_impl_Version → S_impl_Version → Option Int) : Option (List S_impl_Version) :=
  (m_slices_stableCmpFunc_impl_Version o0 (o0.length : Int) p1).bind fun x1 =>
  (lenQ x1.length o0.length ()).bind fun u2 =>
  some x1
theorem c_slices_SortStableFunc_Limpl_Version_impl_Version (o0 : (List S_impl_Version)) (p1 : S_impl_Version → S_impl_Version → Option Int) (f1 : FuncId) (q1 : List LV) (hq1 : ∀ k, LV.at?.atL k q1 = false) (hf1 : ∀ a0 a1 v, p1 a0 a1 = some v → Ret Try.prog f1 (e_impl_Version a0 :: e_impl_Version a1 :: q1) (e_int v)) (r : (List S_impl_Version)) (h : m_slices_SortStableFunc_Limpl_Version_impl_Version o0 p1 = some r) : Does Try.prog f_slices_SortStableFunc_Limpl_Version_impl_Version [.own 0 0 o0.length, .clo f1 q1] [(0, (lob 4 e_impl_Version o0))] (fun x hh => x = .tup [] ∧ hh = [(0, (lob 4 e_impl_Version r))]) := by
  refine Does.goG [0] F_slices_SortStableFunc_Limpl_Version_impl_Version rfl e_slices_SortStableFunc_Limpl_Version_impl_Version n_slices_SortStableFunc_Limpl_Version_impl_Version rfl (rvs := []) rfl rfl ?_
  intro w0 ok0 lent ρ0
  refine LWP.region (l := [_,_,_,_,_]) ?_
  refine LWo.move (.own 0 0 (o0).length) rfl (hn := ?_)
  refine LWo.move (.own 0 0 (o0).length) rfl (hn := ?_)
  refine LWo.lenO u_Limpl_Version rfl (hn := ?_)
  refine LWo.move (.clo f1 q1) rfl (hn := ?_)
  refine bk h fun x1 e1 h => ?_
  refine bk h fun u2 e2 h => ?_
  refine LWo.ucallM (e := e_impl_Version) rfl rfl (k_slices_stableCmpFunc_impl_Version _ _ _ f1 q1 hq1 hf1 _ e1 0) rfl rfl (some 8) rfl (hn := ?_)
  obtain rfl := Option.some.inj h
  refine LWo.nil (QG.mk (.inl rfl) (.nil) (RetOK.many1 (.nil) (by simp) (by decide) rfl rfl rfl rfl rfl) rfl rfl)
theorem k_slices_SortStableFunc_Limpl_Version_impl_Version (o0 : (List S_impl_Version)) (p1 : S_impl_Version → S_impl_Version → Option Int) (f1 : FuncId) (q1 : List LV) (hq1 : ∀ k, LV.at?.atL k q1 = false) (hf1 : ∀ a0 a1 v, p1 a0 a1 = some v → Ret Try.prog f1 (e_impl_Version a0 :: e_impl_Version a1 :: q1) (e_int v)) (r : (List S_impl_Version)) (h : m_slices_SortStableFunc_Limpl_Version_impl_Version o0 p1 = some r) (k : Nat) : Does Try.prog f_slices_SortStableFunc_Limpl_Version_impl_Version [.own k 0 o0.length, .clo f1 q1] [(k, (lob 4 e_impl_Version o0))] (fun x hh => x = .tup [] ∧ hh = [(k, (lob 4 e_impl_Version r))]) :=
  Does.nameO (c_slices_SortStableFunc_Limpl_Version_impl_Version o0 p1 f1 q1 hq1 hf1 r h) (fun k => (atC (hq1 k) (atN _))) k

def m_cmp_isNaN_int (a0 : Int) : Option Bool :=
  some (a0 != a0)
theorem c_cmp_isNaN_int (a0 : Int) (r : Bool) (h : m_cmp_isNaN_int a0 = some r) : Ret Try.prog f_cmp_isNaN_int [e_int a0] (e_bool r) := by
  refine Does.goG [] F_cmp_isNaN_int rfl e_cmp_isNaN_int n_cmp_isNaN_int rfl (rvs := [.tmp 2]) rfl rfl ?_
  intro w0 ok0 lent ρ0
  refine LWP.seq_k fun N1 hN1 => ?_
  refine LWP.region (l := [_]) ?_
  refine LWo.assign (e_bool false) rfl (hn := ?_)
  refine LWo.nil (hN1 _ ?_)
  refine LWP.seq_k fun N2 hN2 => ?_
  refine LWP.region (l := [_,_,_,_]) ?_
  refine LWo.move (e_int a0) rfl (hn := ?_)
  refine LWo.move (e_int a0) rfl (hn := ?_)
  refine LWo.int _ rfl rfl rfl (hn := ?_)
  refine LWo.assign (e_bool (a0 != a0)) rfl (hn := ?_)
  refine LWo.nil (hN2 _ ?_)
  obtain rfl := Option.some.inj h
  refine LWP.ret (QG.mk (.inr rfl) (.cons (.tmp (x := (e_bool (a0 != a0))) rfl) (.nil)) (RetOK.one0 (.pure rfl) (by decide)) rfl rfl)

def m_cmp_Compare_int (a0 : Int) (a1 : Int) : Option Int :=
  (m_cmp_isNaN_int a0).bind fun x3 =>
  (m_cmp_isNaN_int a1).bind fun x5 =>
  bif x3 then (bif x5 then (some (0 : Int))
    else (some (-1 : Int)))
  else (bif x5 then (some (1 : Int))
  else (bif decide (a0 < a1) then (some (-1 : Int))
  else (bif decide (a0 > a1) then (some (1 : Int))
  else (some (0 : Int)))))
theorem c_cmp_Compare_int (a0 : Int) (a1 : Int) (r : Int) (h : m_cmp_Compare_int a0 a1 = some r) : Ret Try.prog f_cmp_Compare_int [e_int a0, e_int a1] (e_int r) := by
  refine Does.goG [] F_cmp_Compare_int rfl e_cmp_Compare_int n_cmp_Compare_int rfl (rvs := [.tmp 4]) rfl rfl ?_
  intro w0 ok0 lent ρ0
  refine LWP.seq_k fun N1 hN1 => ?_
  refine LWP.region (l := [_]) ?_
  refine LWo.assign (e_int (0 : Int)) rfl (hn := ?_)
  refine LWo.nil (hN1 _ ?_)
  refine LWP.seq_k fun N2 hN2 => ?_
  refine LWP.region (l := [_,_,_]) ?_
  refine LWo.move (e_int a0) rfl (hn := ?_)
  refine bk h fun x3 e3 h => ?_
  refine LWo.vcall rfl rfl (c_cmp_isNaN_int _ _ e3) (.same (.nil)) (hn := ?_)
  refine LWo.assign (e_bool x3) rfl (hn := ?_)
  refine LWo.nil (hN2 _ ?_)
  refine LWP.seq_k fun N4 hN4 => ?_
  refine LWP.region (l := [_,_,_]) ?_
  refine LWo.move (e_int a1) rfl (hn := ?_)
  refine bk h fun x5 e5 h => ?_
  refine LWo.vcall rfl rfl (c_cmp_isNaN_int _ _ e5) (.same (.nil)) (hn := ?_)
  refine LWo.assign (e_bool x5) rfl (hn := ?_)
  refine LWo.nil (hN4 _ ?_)
  refine LWP.seq_k fun N6 hN6 => ?_
  refine LWP.seq_k fun N7 hN7 => ?_
  refine LWP.region (l := [_]) ?_
  refine LWo.move (e_bool x3) rfl (hn := ?_)
  refine LWo.nil (hN7 _ ?_)
  refine LWP.cond_split rfl (fun h8 => ?_) (fun h8 => ?_)
  ·have h := bT h8 h
   refine LWP.seq_k fun N9 hN9 => ?_
   refine LWP.seq_k fun N10 hN10 => ?_
   refine LWP.region (l := [_]) ?_
   refine LWo.move (e_bool x5) rfl (hn := ?_)
   refine LWo.nil (hN10 _ ?_)
   refine LWP.cond_split rfl (fun h11 => ?_) (fun h11 => ?_)
   ·have h := bT h11 h
    refine LWP.seq_k fun N12 hN12 => ?_
    refine LWP.region (l := [_]) ?_
    refine LWo.assign (e_int (0 : Int)) rfl (hn := ?_)
    refine LWo.nil (hN12 _ ?_)
    obtain rfl := Option.some.inj h
    refine LWP.ret (QG.mk (.inr rfl) (.cons (.tmp (x := (e_int (0 : Int))) rfl) (.nil)) (RetOK.one0 (.pure rfl) (by decide)) rfl rfl)
   ·have h := bF h11 h
    refine LWP.skip (hN9 _ ?_)
    refine LWP.seq_k fun N13 hN13 => ?_
    refine LWP.region (l := [_]) ?_
    refine LWo.assign (e_int (-1 : Int)) rfl (hn := ?_)
    refine LWo.nil (hN13 _ ?_)
    obtain rfl := Option.some.inj h
    refine LWP.ret (QG.mk (.inr rfl) (.cons (.tmp (x := (e_int (-1 : Int))) rfl) (.nil)) (RetOK.one0 (.pure rfl) (by decide)) rfl rfl)
  ·have h := bF h8 h
   refine LWP.skip (hN6 _ ?_)
   refine LWP.seq_k fun N14 hN14 => ?_
   refine LWP.seq_k fun N15 hN15 => ?_
   refine LWP.region (l := [_]) ?_
   refine LWo.move (e_bool x5) rfl (hn := ?_)
   refine LWo.nil (hN15 _ ?_)
   refine LWP.cond_split rfl (fun h16 => ?_) (fun h16 => ?_)
   ·have h := bT h16 h
    refine LWP.seq_k fun N17 hN17 => ?_
    refine LWP.region (l := [_]) ?_
    refine LWo.assign (e_int (1 : Int)) rfl (hn := ?_)
    refine LWo.nil (hN17 _ ?_)
    obtain rfl := Option.some.inj h
    refine LWP.ret (QG.mk (.inr rfl) (.cons (.tmp (x := (e_int (1 : Int))) rfl) (.nil)) (RetOK.one0 (.pure rfl) (by decide)) rfl rfl)
   ·have h := bF h16 h
    refine LWP.skip (hN14 _ ?_)
    refine LWP.seq_k fun N18 hN18 => ?_
    refine LWP.seq_k fun N19 hN19 => ?_
    refine LWP.region (l := [_,_,_]) ?_
    refine LWo.move (e_int a0) rfl (hn := ?_)
    refine LWo.move (e_int a1) rfl (hn := ?_)
    refine LWo.int _ rfl rfl rfl (hn := ?_)
    refine LWo.nil (hN19 _ ?_)
    refine LWP.cond_split rfl (fun h20 => ?_) (fun h20 => ?_)
    ·have h := bT h20 h
     refine LWP.seq_k fun N21 hN21 => ?_
     refine LWP.region (l := [_]) ?_
     refine LWo.assign (e_int (-1 : Int)) rfl (hn := ?_)
     refine LWo.nil (hN21 _ ?_)
     obtain rfl := Option.some.inj h
     refine LWP.ret (QG.mk (.inr rfl) (.cons (.tmp (x := (e_int (-1 : Int))) rfl) (.nil)) (RetOK.one0 (.pure rfl) (by decide)) rfl rfl)
    ·have h := bF h20 h
     refine LWP.skip (hN18 _ ?_)
     refine LWP.seq_k fun N22 hN22 => ?_
     refine LWP.seq_k fun N23 hN23 => ?_
     refine LWP.region (l := [_,_,_]) ?_
     refine LWo.move (e_int a0) rfl (hn := ?_)
     refine LWo.move (e_int a1) rfl (hn := ?_)
     refine LWo.int _ rfl rfl rfl (hn := ?_)
     refine LWo.nil (hN23 _ ?_)
     refine LWP.cond_split rfl (fun h24 => ?_) (fun h24 => ?_)
     ·have h := bT h24 h
      refine LWP.seq_k fun N25 hN25 => ?_
      refine LWP.region (l := [_]) ?_
      refine LWo.assign (e_int (1 : Int)) rfl (hn := ?_)
      refine LWo.nil (hN25 _ ?_)
      obtain rfl := Option.some.inj h
      refine LWP.ret (QG.mk (.inr rfl) (.cons (.tmp (x := (e_int (1 : Int))) rfl) (.nil)) (RetOK.one0 (.pure rfl) (by decide)) rfl rfl)
     ·have h := bF h24 h
      refine LWP.skip (hN22 _ ?_)
      refine LWP.seq_k fun N26 hN26 => ?_
      refine LWP.region (l := [_]) ?_
      refine LWo.assign (e_int (0 : Int)) rfl (hn := ?_)
      refine LWo.nil (hN26 _ ?_)
      obtain rfl := Option.some.inj h
      refine LWP.ret (QG.mk (.inr rfl) (.cons (.tmp (x := (e_int (0 : Int))) rfl) (.nil)) (RetOK.one0 (.pure rfl) (by decide)) rfl rfl)

def m_cmp_Or_int_j1 (t3 : Int) : Option Int :=
  some t3
def m_cmp_Or_int_l1 : Nat → Int → (List Int) → Int → Int → Option Int
  | 0, _, _, _, _ => none
  | n1 + 1, t3, t6, t7, t8 =>
    bif decide (t8 < t7) then ((at? t6 t8).bind fun x12 =>
    bif (x12 != t3) then (some x12)
    else ((ckI (t8 + (1 : Int))).bind fun x16 =>
    (m_cmp_Or_int_l1  n1) t3 t6 t7 x16))
    else (m_cmp_Or_int_j1  t3)
def m_cmp_Or_int (a0 : (List Int)) : Option Int :=
  m_cmp_Or_int_l1  (((a0.length : Int) - (0 : Int)).toNat + 1) (0 : Int) a0 (a0.length : Int) (0 : Int)
theorem c_cmp_Or_int (a0 : (List Int)) (r : Int) (h : m_cmp_Or_int a0 = some r) : Ret Try.prog f_cmp_Or_int [e_Lint a0] (e_int r) := by
  refine Does.goG [] F_cmp_Or_int rfl e_cmp_Or_int n_cmp_Or_int rfl (rvs := [.tmp 2]) rfl rfl ?_
  intro w0 ok0 lent ρ0
  refine LWP.seq_k fun N1 hN1 => ?_
  refine LWP.region (l := [_]) ?_
  refine LWo.assign (e_int (0 : Int)) rfl (hn := ?_)
  refine LWo.nil (hN1 _ ?_)
  refine LWP.seq_k fun N2 hN2 => ?_
  refine LWP.region (l := [_]) ?_
  refine LWo.assign (e_int (0 : Int)) rfl (hn := ?_)
  refine LWo.nil (hN2 _ ?_)
  refine LWP.join (α := Int) (fun z : Int => [(3, (e_int z))]) (fun z : Int => []) (fun z : Int => m_cmp_Or_int_j1  z) r (fun _ => by simp [hkeys]) ?_ ?_
  ·rintro t3 h
   replace h : m_cmp_Or_int_j1  t3 = some _ := h
   refine LWP.seq_k fun N17 hN17 => ?_
   refine LWP.region (l := [_,_]) ?_
   refine LWo.move (e_int t3) rfl (hn := ?_)
   refine LWo.assign (e_int t3) rfl (hn := ?_)
   refine LWo.nil (hN17 _ ?_)
   obtain rfl := Option.some.inj h
   refine LWP.ret (QG.mk (.inr rfl) (.cons (.tmp (x := (e_int t3)) rfl) (.nil)) (RetOK.one0 (.pure rfl) (by decide)) rfl rfl)
  ·intro N3 hN3
   refine LWP.seq_k fun N4 hN4 => ?_
   refine LWP.region (l := [_,_,_]) ?_
   refine LWo.move (e_Lint a0) rfl (hn := ?_)
   refine LWo.lenM (f := e_int) (l := a0) u_Lint rfl (hn := ?_)
   refine LWo.move (e_int (0 : Int)) rfl (hn := ?_)
   refine LWo.nil (hN4 _ ?_)
   refine LWP.block ?_
   refine LWP.loopM (α := Int × (List Int) × Int × Int) (fun z : Int × (List Int) × Int × Int => [(3, (e_int z.1)), (6, (e_Lint z.2.1)), (7, (e_int z.2.2.1)), (8, (e_int z.2.2.2))]) (fun z : Int × (List Int) × Int × Int => []) (fun n1 (z : Int × (List Int) × Int × Int) => m_cmp_Or_int_l1  n1 z.1 z.2.1 z.2.2.1 z.2.2.2) r _ ((0 : Int), a0, (a0.length : Int), (0 : Int)) h (fun _ => rfl) (fun _ => by simp [hkeys]) ⟨rfl, rfl, rfl, rfl, trivial⟩ trivial ?_
   rintro n1 ⟨t3, t6, t7, t8⟩ h N5 hN5
   replace h : m_cmp_Or_int_l1  (n1 + 1) t3 t6 t7 t8 = some _ := h
   refine LWP.seq_k fun N7 hN7 => ?_
   refine LWP.region (l := [_]) ?_
   refine LWo.int _ rfl rfl rfl (hn := ?_)
   refine LWo.nil (hN7 _ ?_)
   refine LWP.seq_k fun N8 hN8 => ?_
   refine LWP.cond_split rfl (fun h9 => ?_) (fun h9 => ?_)
   ·have h := bT h9 h
    refine LWP.skip (hN8 _ ?_)
    refine LWP.seq_k fun N10 hN10 => ?_
    refine LWP.block ?_
    refine LWP.seq_k fun N11 hN11 => ?_
    refine LWP.region (l := [_,_,_]) ?_
    refine bk h fun x12 e12 h => ?_
    refine LWo.indexM (f := e_int) e12 u_Lint s_int rfl rfl (hn := ?_)
    refine LWo.load1 (c := (e_int x12)) g_int rfl (hn := ?_)
    refine LWo.assign (e_int x12) rfl (hn := ?_)
    refine LWo.nil (hN11 _ ?_)
    refine LWP.seq_k fun N13 hN13 => ?_
    refine LWP.region (l := [_,_,_]) ?_
    refine LWo.move (e_int x12) rfl (hn := ?_)
    refine LWo.move (e_int t3) rfl (hn := ?_)
    refine LWo.int _ rfl rfl rfl (hn := ?_)
    refine LWo.nil (hN13 _ ?_)
    refine LWP.cond_split rfl (fun h14 => ?_) (fun h14 => ?_)
    ·have h := bT h14 h
     refine LWP.seq_k fun N15 hN15 => ?_
     refine LWP.region (l := [_,_]) ?_
     refine LWo.move (e_int x12) rfl (hn := ?_)
     refine LWo.assign (e_int x12) rfl (hn := ?_)
     refine LWo.nil (hN15 _ ?_)
     obtain rfl := Option.some.inj h
     refine LWP.ret (QG.mk (.inr rfl) (.cons (.tmp (x := (e_int x12)) rfl) (.nil)) (RetOK.one0 (.pure rfl) (by decide)) rfl rfl)
    ·have h := bF h14 h
     refine LWP.skip (hN10 _ ?_)
     refine LWP.region (l := [_,_]) ?_
     refine bk h fun x16 e16 h => ?_
     refine LWo.int _ rfl rfl (add_ck e16) (hn := ?_)
     refine LWo.move (e_int x16) rfl (hn := ?_)
     refine LWo.nil (hN5 (t3, t6, t7, x16) _ ⟨rfl, rfl, rfl, rfl, trivial⟩ trivial h)
   ·have h := bF h9 h
    refine LWP.exit (hN3 t3 _ ⟨rfl, trivial⟩ trivial h)

def m_impl_written_1 (a0 : S_impl_Version) (a1 : S_impl_Version) : Option Int :=
  (m_cmp_Compare_int a0.Key a1.Key).bind fun x3 =>
  (m_cmp_Compare_int a0.Born a1.Born).bind fun x4 =>
  (m_cmp_Or_int ([x3, x4] : (List Int))).bind fun x5 =>
  some x5
theorem c_impl_written_1 (a0 : S_impl_Version) (a1 : S_impl_Version) (r : Int) (h : m_impl_written_1 a0 a1 = some r) : Ret Try.prog f_impl_written_1 [e_impl_Version a0, e_impl_Version a1] (e_int r) := by
  refine Does.goG [] F_impl_written_1 rfl e_impl_written_1 n_impl_written_1 rfl (rvs := [.tmp 4]) rfl rfl ?_
  intro w0 ok0 lent ρ0
  refine LWP.seq_k fun N1 hN1 => ?_
  refine LWP.region (l := [_,_,_]) ?_
  refine LWo.boxF (e_impl_Version a0) rfl rfl rfl (hn := ?_)
  refine LWo.boxF (e_impl_Version a1) rfl rfl rfl (hn := ?_)
  refine LWo.assign (e_int (0 : Int)) rfl (hn := ?_)
  refine LWo.nil (hN1 _ ?_)
  refine LWP.seq_k fun N2 hN2 => ?_
  refine bk h fun x3 e3 h => ?_
  refine bk h fun x4 e4 h => ?_
  refine bk h fun x5 e5 h => ?_
  refine LWP.drawF (l := [_,_,_,_,_,_,_,_,_,_,_,_,_]) [] [2, 3] [([2], []), ([5], []), ([3], []), ([7], []), ([6, 8], []), ([2], []), ([10], []), ([3], []), ([12], []), ([11, 13], []), ([9, 14], []), ([15], []), ([16], [])] [4] [] mixed (by kernel_rfl) rfl (by decide) ?_
  refine dq 5 rfl (fun _ g u h => LWo.fieldAddr _ u_impl_Version rfl s_int u.1 rfl (hn := .nil (zn g))) ?_
  refine dq 6 rfl (fun _ g u h => LWo.load1 (c := (e_int a0.Key)) g_int u.1 (hn := .nil (zn g))) ?_
  refine dq 7 rfl (fun _ g u h => LWo.fieldAddr _ u_impl_Version rfl s_int u.1 rfl (hn := .nil (zn g))) ?_
  refine dq 8 rfl (fun _ g u h => LWo.load1 (c := (e_int a1.Key)) g_int u.1 (hn := .nil (zn g))) ?_
  refine dq 9 rfl (fun _ g u h => LWo.vcall rfl (av2 u.1 u.2.1) (c_cmp_Compare_int _ _ _ e3) (.same (.same (.nil))) (hn := .nil (zn g))) ?_
  refine dq 10 rfl (fun _ g u h => LWo.fieldAddr _ u_impl_Version rfl s_int u.1 rfl (hn := .nil (zn g))) ?_
  refine dq 11 rfl (fun _ g u h => LWo.load1 (c := (e_int a0.Born)) g_int u.1 (hn := .nil (zn g))) ?_
  refine dq 12 rfl (fun _ g u h => LWo.fieldAddr _ u_impl_Version rfl s_int u.1 rfl (hn := .nil (zn g))) ?_
  refine dq 13 rfl (fun _ g u h => LWo.load1 (c := (e_int a1.Born)) g_int u.1 (hn := .nil (zn g))) ?_
  refine dq 14 rfl (fun _ g u h => LWo.vcall rfl (av2 u.1 u.2.1) (c_cmp_Compare_int _ _ _ e4) (.same (.same (.nil))) (hn := .nil (zn g))) ?_
  refine dq 15 rfl (fun _ g u h => LWo.lit (ops := [_, _]) [(e_int x3), (e_int x4)] u_Lint s_int z_int (lv2 u.1 u.2.1) rfl rfl rfl rfl rfl (hn := .nil (zn g))) ?_
  refine dq 16 rfl (fun _ g u h => LWo.vcall rfl (av1 u.1) (c_cmp_Or_int _ _ e5) (.same (.nil)) (hn := .nil (zn g))) ?_
  refine dq 4 rfl (fun _ g u h => LWo.assign (e_int x5) u.1 (hn := .nil (zn g))) ?_
  refine ⟨rfl, by kernel_rfl, hN2 _ ?_⟩
  obtain rfl := Option.some.inj h
  refine LWP.ret (QG.mk (.inr rfl) (.cons (.tmp (x := (e_int x5)) rfl) (.nil)) (RetOK.one0 (.pure rfl) (by decide)) rfl rfl)

def m_impl_written_j5 (o1012 : (List S_impl_Version)) : Option (List S_impl_Version) :=
  (m_slices_SortStableFunc_Limpl_Version_impl_Version o1012 (fun b0_ b1_ => m_impl_written_1 b0_ b1_ )).bind fun x41 =>
  (lenQ x41.length o1012.length ()).bind fun u42 =>
  (m_slices_Clip_Limpl_Version_impl_Version_o x41).bind fun x44 =>
  some x44
def m_impl_written_j4 (k1 : Int → (List S_impl_Write) → Int → Int → (List S_impl_Version) → Option (List S_impl_Version)) (t2 : Int) (t13 : (List S_impl_Write)) (t14 : Int) (t15 : Int) (o1012 : (List S_impl_Version)) : Option (List S_impl_Version) :=
  (ckI (t15 + (1 : Int))).bind fun x39 =>
  k1 t2 t13 t14 x39 o1012
def m_impl_written_j3 (k1 : Int → (List S_impl_Write) → Int → Int → (List S_impl_Version) → Option (List S_impl_Version)) (t2 : Int) (t13 : (List S_impl_Write)) (t14 : Int) (t15 : Int) (o9 : S_impl_Write) (o1012 : (List S_impl_Version)) : Option (List S_impl_Version) :=
  bif (!o9.Gone) then ((m_impl_clone_impl_Value o9.Row).bind fun x37 =>
    (app? o1012 ([(⟨o9.Key, t2, (0 : Int), x37⟩ : S_impl_Version)] : (List S_impl_Version))).bind fun x38 =>
    m_impl_written_j4  k1 t2 t13 t14 t15 x38)
  else (m_impl_written_j4  k1 t2 t13 t14 t15 o1012)
def m_impl_written_j2 (k1 : Int → (List S_impl_Write) → Int → Int → (List S_impl_Version) → Option (List S_impl_Version)) (k2 : Int → (List S_impl_Write) → Int → Int → Int → Int → S_impl_Write → (List S_impl_Version) → Option (List S_impl_Version)) (t2 : Int) (t13 : (List S_impl_Write)) (t14 : Int) (t15 : Int) (t20 : Int) (t21 : Int) (o9 : S_impl_Write) (o1012 : (List S_impl_Version)) : Option (List S_impl_Version) :=
  (ckI (t21 + (1 : Int))).bind fun x34 =>
  k2 t2 t13 t14 t15 t20 x34 o9 o1012
def m_impl_written_j1 (k1 : Int → (List S_impl_Write) → Int → Int → (List S_impl_Version) → Option (List S_impl_Version)) (k2 : Int → (List S_impl_Write) → Int → Int → Int → Int → S_impl_Write → (List S_impl_Version) → Option (List S_impl_Version)) (t2 : Int) (t10 : Int) (t13 : (List S_impl_Write)) (t14 : Int) (t15 : Int) (t20 : Int) (t21 : Int) (t39 : Bool) (o9 : S_impl_Write) (o1012 : (List S_impl_Version)) : Option (List S_impl_Version) :=
  bif t39 then ((at? o1012 t10).bind fun x31 =>
    (at? o1012 t10).bind fun x32 =>
    lt ({ x32 with Died := t2 }) fun y33 =>
    m_impl_written_j2  k1 k2 t2 t13 t14 t15 t20 t21 o9 (o1012.set (t10).toNat y33))
  else (m_impl_written_j2  k1 k2 t2 t13 t14 t15 t20 t21 o9 o1012)
def m_impl_written_l2 (k1 : Int → (List S_impl_Write) → Int → Int → (List S_impl_Version) → Option (List S_impl_Version)) : Nat → Int → (List S_impl_Write) → Int → Int → Int → Int → S_impl_Write → (List S_impl_Version) → Option (List S_impl_Version)
  | 0, _, _, _, _, _, _, _, _ => none
  | n2 + 1, t2, t13, t14, t15, t20, t21, o9, o1012 =>
    bif decide (t21 < t20) then ((at? o1012 t21).bind fun x25 =>
    (at? o1012 t21).bind fun x26 =>
    bif (x26.Key == o9.Key) then ((at? o1012 t21).bind fun x28 =>
      (at? o1012 t21).bind fun x29 =>
      m_impl_written_j1  k1 (m_impl_written_l2  k1 n2) t2 t21 t13 t14 t15 t20 t21 (x29.Died == (0 : Int)) o9 o1012)
    else (m_impl_written_j1  k1 (m_impl_written_l2  k1 n2) t2 t21 t13 t14 t15 t20 t21 false o9 o1012))
    else (m_impl_written_j3  k1 t2 t13 t14 t15 o9 o1012)
def m_impl_written_l1 : Nat → Int → (List S_impl_Write) → Int → Int → (List S_impl_Version) → Option (List S_impl_Version)
  | 0, _, _, _, _, _ => none
  | n1 + 1, t2, t13, t14, t15, o1012 =>
    bif decide (t15 < t14) then ((at? t13 t15).bind fun x13 =>
    lt (x13) fun y14 =>
    m_impl_written_l2  (m_impl_written_l1  n1) (((o1012.length : Int) - (0 : Int)).toNat + 1) t2 t13 t14 t15 (o1012.length : Int) (0 : Int) y14 o1012)
    else (m_impl_written_j5  o1012)
def m_impl_written (a0 : (List S_impl_Version)) (a1 : (List S_impl_Write)) (a2 : Int) : Option (List S_impl_Version) :=
  (m_impl_versionsCopy a0).bind fun x3 =>
  m_impl_written_l1  (((a1.length : Int) - (0 : Int)).toNat + 1) a2 a1 (a1.length : Int) (0 : Int) x3
theorem c_impl_written (a0 : (List S_impl_Version)) (a1 : (List S_impl_Write)) (a2 : Int) (r : (List S_impl_Version)) (h : m_impl_written a0 a1 a2 = some r) : Ret Try.prog f_impl_written [e_Limpl_Version a0, e_Limpl_Write a1, e_int a2] (.nw 4 (r.map e_impl_Version) false) := by
  refine Does.goG [] F_impl_written rfl e_impl_written n_impl_written rfl (rvs := [.tmp 6]) rfl rfl ?_
  intro w0 ok0 lent ρ0
  refine LWP.seq_k fun N1 hN1 => ?_
  refine LWP.region (l := [_]) ?_
  refine LWo.assign _ rfl (hn := ?_)
  refine LWo.ownNil 6 1006 4 rfl rfl rfl ?_
  refine LWo.known 6 (.own 1006 0 ([] : (List S_impl_Version)).length) rfl ?_
  refine LWo.nil (hN1 _ ?_)
  refine LWP.seq_k fun N2 hN2 => ?_
  refine LWP.region (l := [_,_,_]) ?_
  refine LWo.move (e_Limpl_Version a0) rfl (hn := ?_)
  refine bk h fun x3 e3 h => ?_
  refine LWo.ncall (e := e_impl_Version) 1012 rfl rfl (c_impl_versionsCopy _ _ e3) (.same (.nil)) rfl (hn := ?_)
  refine LWo.assign (.own 1012 0 (x3).length) rfl (hn := ?_)
  refine LWo.nil (hN2 _ ?_)
  refine LWP.join (α := (List S_impl_Version)) (fun z : (List S_impl_Version) => [(7, (.own 1012 0 (z).length))]) (fun z : (List S_impl_Version) => [(1012, (lob 4 e_impl_Version z))]) (fun z : (List S_impl_Version) => m_impl_written_j5  z) r (fun _ => by simp [hkeys]) ?_ ?_
  ·rintro o1012 h
   replace h : m_impl_written_j5  o1012 = some _ := h
   refine LWP.seq_k fun N40 hN40 => ?_
   refine LWP.region (l := [_,_]) ?_
   refine LWo.move (.own 1012 0 (o1012).length) rfl (hn := ?_)
   refine bk h fun x41 e41 h => ?_
   refine bk h fun u42 e42 h => ?_
   refine LWo.ucallM (e := e_impl_Version) rfl rfl (k_slices_SortStableFunc_Limpl_Version_impl_Version _ _ f_impl_written_1 [] (fun _ => rfl) (fun b0_ b1_ v hv => c_impl_written_1 b0_ b1_  v hv) _ e41 1012) rfl rfl (some 61) rfl (hn := ?_)
   refine LWo.nil (hN40 _ ?_)
   refine LWP.seq_k fun N43 hN43 => ?_
   refine LWP.region (l := [_,_,_]) ?_
   refine LWo.move (.own 1012 0 (o1012).length) rfl (hn := ?_)
   refine bk h fun x44 e44 h => ?_
   refine LWo.tcallN (e := e_impl_Version) (e' := e_impl_Version) 1063 rfl rfl (c_slices_Clip_Limpl_Version_impl_Version_o _ _ e44) (fun _ => rfl) rfl ((lenQ_some e42).1.symm) rfl rfl (hn := ?_)
   refine LWo.assign (.own 1063 0 (x44).length) rfl (hn := ?_)
   refine LWo.nil (hN43 _ ?_)
   obtain rfl := Option.some.inj h
   refine LWP.ret (QG.mk (.inr rfl) (.cons (.tmp (x := (.own 1063 0 (x44).length)) rfl) (.nil)) (RetOK.one0 (.nwM rfl rfl) (by decide)) rfl rfl)
  ·intro N4 hN4
   refine LWP.seq_k fun N5 hN5 => ?_
   refine LWP.region (l := [_,_,_]) ?_
   refine LWo.move (e_Limpl_Write a1) rfl (hn := ?_)
   refine LWo.lenM (f := e_impl_Write) (l := a1) u_Limpl_Write rfl (hn := ?_)
   refine LWo.move (e_int (0 : Int)) rfl (hn := ?_)
   refine LWo.nil (hN5 _ ?_)
   refine LWP.block ?_
   refine LWP.loopM (α := Int × (List S_impl_Write) × Int × Int × (List S_impl_Version)) (fun z : Int × (List S_impl_Write) × Int × Int × (List S_impl_Version) => [(2, (e_int z.1)), (7, (.own 1012 0 (z.2.2.2.2).length)), (13, (e_Limpl_Write z.2.1)), (14, (e_int z.2.2.1)), (15, (e_int z.2.2.2.1))]) (fun z : Int × (List S_impl_Write) × Int × Int × (List S_impl_Version) => [(1012, (lob 4 e_impl_Version z.2.2.2.2))]) (fun n1 (z : Int × (List S_impl_Write) × Int × Int × (List S_impl_Version)) => m_impl_written_l1  n1 z.1 z.2.1 z.2.2.1 z.2.2.2.1 z.2.2.2.2) r _ (a2, a1, (a1.length : Int), (0 : Int), x3) h (fun _ => rfl) (fun _ => by simp [hkeys]) ⟨rfl, rfl, rfl, rfl, rfl, trivial⟩ ⟨rfl, trivial⟩ ?_
   rintro n1 ⟨t2, t13, t14, t15, o1012⟩ h N6 hN6
   replace h : m_impl_written_l1  (n1 + 1) t2 t13 t14 t15 o1012 = some _ := h
   refine LWP.seq_k fun N8 hN8 => ?_
   refine LWP.region (l := [_]) ?_
   refine LWo.int _ rfl rfl rfl (hn := ?_)
   refine LWo.nil (hN8 _ ?_)
   refine LWP.seq_k fun N9 hN9 => ?_
   refine LWP.cond_split rfl (fun h10 => ?_) (fun h10 => ?_)
   ·have h := bT h10 h
    refine LWP.skip (hN9 _ ?_)
    refine LWP.join (α := Int × (List S_impl_Write) × Int × Int × (List S_impl_Version)) (fun z : Int × (List S_impl_Write) × Int × Int × (List S_impl_Version) => [(2, (e_int z.1)), (7, (.own 1012 0 (z.2.2.2.2).length)), (13, (e_Limpl_Write z.2.1)), (14, (e_int z.2.2.1)), (15, (e_int z.2.2.2.1))]) (fun z : Int × (List S_impl_Write) × Int × Int × (List S_impl_Version) => [(1012, (lob 4 e_impl_Version z.2.2.2.2))]) (fun z : Int × (List S_impl_Write) × Int × Int × (List S_impl_Version) => m_impl_written_j4  (m_impl_written_l1  n1) z.1 z.2.1 z.2.2.1 z.2.2.2.1 z.2.2.2.2) r (fun _ => by simp [hkeys]) ?_ ?_
    ·rintro ⟨t2, t13, t14, t15, o1012⟩ h
     replace h : m_impl_written_j4  (m_impl_written_l1  n1) t2 t13 t14 t15 o1012 = some _ := h
     refine LWP.region (l := [_,_]) ?_
     refine bk h fun x39 e39 h => ?_
     refine LWo.int _ rfl rfl (add_ck e39) (hn := ?_)
     refine LWo.move (e_int x39) rfl (hn := ?_)
     refine LWo.nil (hN6 (t2, t13, t14, x39, o1012) _ ⟨rfl, rfl, rfl, rfl, rfl, trivial⟩ ⟨rfl, trivial⟩ h)
    ·intro N11 hN11
     refine LWP.block ?_
     refine LWP.seq_k fun N12 hN12 => ?_
     refine LWP.region (l := [_,_,_,_]) ?_
     refine bk h fun x13 e13 h => ?_
     refine LWo.indexM (f := e_impl_Write) e13 u_Limpl_Write s_impl_Write rfl rfl (hn := ?_)
     refine LWo.loadN ((e_impl_Write x13)).cells g_impl_Write s_impl_Write rfl (Nat.le_of_ble_eq_true rfl) rfl (hn := ?_)
     refine LWo.alloc_impl_Write 9 rfl (hn := ?_)
     refine lk h fun y14 e14 h => ?_
     refine LWo.storeW (y := (⟨(0 : Int), [], false⟩ : S_impl_Write)) y14 s_impl_Write rfl rfl rfl rfl rfl rfl (by rw [e14]; exact .refl) rfl (hn := ?_)
     refine LWo.nil (hN12 _ ?_)
     refine LWP.join (α := Int × (List S_impl_Write) × Int × Int × S_impl_Write × (List S_impl_Version)) (fun z : Int × (List S_impl_Write) × Int × Int × S_impl_Write × (List S_impl_Version) => [(2, (e_int z.1)), (7, (.own 1012 0 (z.2.2.2.2.2).length)), (9, (.ptr 9 0 0)), (13, (e_Limpl_Write z.2.1)), (14, (e_int z.2.2.1)), (15, (e_int z.2.2.2.1))]) (fun z : Int × (List S_impl_Write) × Int × Int × S_impl_Write × (List S_impl_Version) => [(9, (vob 3 e_impl_Write z.2.2.2.2.1)), (1012, (lob 4 e_impl_Version z.2.2.2.2.2))]) (fun z : Int × (List S_impl_Write) × Int × Int × S_impl_Write × (List S_impl_Version) => m_impl_written_j3  (m_impl_written_l1  n1) z.1 z.2.1 z.2.2.1 z.2.2.2.1 z.2.2.2.2.1 z.2.2.2.2.2) r (fun _ => by simp [hkeys]) ?_ ?_
     ·rintro ⟨t2, t13, t14, t15, o9, o1012⟩ h
      replace h : m_impl_written_j3  (m_impl_written_l1  n1) t2 t13 t14 t15 o9 o1012 = some _ := h
      refine LWP.seq_k fun N35 hN35 => ?_
      refine LWP.region (l := [_,_,_]) ?_
      refine LWo.fieldPtr u_impl_Write rfl s_bool rfl rfl (hn := ?_)
      refine LWo.loadV1 (e_bool o9.Gone)  g_bool rfl rfl rfl (hn := ?_)
      refine LWo.not rfl (hn := ?_)
      refine LWo.nil (hN35 _ ?_)
      refine LWP.cond_split rfl (fun h36 => ?_) (fun h36 => ?_)
      ·have h := bT h36 h
       refine bk h fun x37 e37 h => ?_
       refine bk h fun x38 e38 h => ?_
       refine LWP.drawF (l := [_,_,_,_,_,_,_,_,_,_,_]) [1012] [2, 7, 9, 13, 14, 15] [([7], []), ([9], []), ([50], [9]), ([2], []), ([9], []), ([53], [9]), ([54], []), ([51, 52, 55], []), ([56], []), ([49, 57], [1012]), ([58], [])] [2, 7, 13, 14, 15] [1012] mixed (by kernel_rfl) rfl (by decide) ?_
       refine dq 49 rfl (fun _ g u h => LWo.move (.own 1012 0 (o1012).length) u.1 (hn := .nil (zn g))) ?_
       refine dq 50 rfl (fun _ g u h => LWo.fieldPtr u_impl_Write rfl s_int u.1 rfl (hn := .nil (zn g))) ?_
       refine dq 51 rfl (fun _ g u h => LWo.loadV1 (e_int o9.Key)  g_int u.1 h.1 rfl (hn := .nil (zn g))) ?_
       refine dq 52 rfl (fun _ g u h => LWo.move (e_int t2) u.1 (hn := .nil (zn g))) ?_
       refine dq 53 rfl (fun _ g u h => LWo.fieldPtr u_impl_Write rfl s_Limpl_Value u.1 rfl (hn := .nil (zn g))) ?_
       refine dq 54 rfl (fun _ g u h => LWo.loadV1 (e_Limpl_Value o9.Row)  g_Limpl_Value u.1 h.1 rfl (hn := .nil (zn g))) ?_
       refine dq 55 rfl (fun _ g u h => LWo.vcall rfl (av1 u.1) (c_impl_clone_impl_Value _ _ e37) (.same (.nil)) (hn := .nil (zn g))) ?_
       refine dq 56 rfl (fun _ g u h => LWo.build_impl_Version (parts := [_, _, _, _]) (⟨o9.Key, t2, (0 : Int), x37⟩ : S_impl_Version) (pv4 u.1 u.2.1 rfl u.2.2.1) rfl rfl .refl (hn := .nil (zn g))) ?_
       refine dq 57 rfl (fun _ g u h => LWo.lit (ops := [_]) [(e_impl_Version (⟨o9.Key, t2, (0 : Int), x37⟩ : S_impl_Version))] u_Limpl_Version s_impl_Version z_impl_Version (lv1 u.1) rfl rfl rfl rfl rfl (hn := .nil (zn g))) ?_
       refine ⟨rfl, .make 58 _ 1012 _, (by exact (goodC rfl goodN)), fun _ g u h => LWo.appendM (f := e_impl_Version) e38 rfl u_Limpl_Version u_Limpl_Version (fun _ h => by cases h) s_impl_Version i_impl_Version rfl u.1 h.1 (.sl u.2.1) (lone_of g rfl) rfl (hn := LWo.nil ⟨rfl, .inl rfl, Ef.good_ok (e := .make 58 _ 1012 _) (by exact (goodC rfl goodN)) g⟩), ?_⟩
       refine dq 7 rfl (fun _ g u h => LWo.assign (.own 1012 0 (x38).length) u.1 (hn := .nil (zn g))) ?_
       refine ⟨rfl, by kernel_rfl, hN11 (t2, t13, t14, t15, x38) _ ⟨rfl, rfl, rfl, rfl, rfl, trivial⟩ ⟨rfl, trivial⟩ h⟩
      ·have h := bF h36 h
       refine LWP.skip (hN11 (t2, t13, t14, t15, o1012) _ ⟨rfl, rfl, rfl, rfl, rfl, trivial⟩ ⟨rfl, trivial⟩ h)
     ·intro N15 hN15
      refine LWP.seq_k fun N16 hN16 => ?_
      refine LWP.region (l := [_,_,_]) ?_
      refine LWo.move (.own 1012 0 (o1012).length) rfl (hn := ?_)
      refine LWo.lenO u_Limpl_Version rfl (hn := ?_)
      refine LWo.move (e_int (0 : Int)) rfl (hn := ?_)
      refine LWo.nil (hN16 _ ?_)
      refine LWP.block ?_
      refine LWP.loopM (α := Int × (List S_impl_Write) × Int × Int × Int × Int × S_impl_Write × (List S_impl_Version)) (fun z : Int × (List S_impl_Write) × Int × Int × Int × Int × S_impl_Write × (List S_impl_Version) => [(2, (e_int z.1)), (7, (.own 1012 0 (z.2.2.2.2.2.2.2).length)), (9, (.ptr 9 0 0)), (13, (e_Limpl_Write z.2.1)), (14, (e_int z.2.2.1)), (15, (e_int z.2.2.2.1)), (20, (e_int z.2.2.2.2.1)), (21, (e_int z.2.2.2.2.2.1))]) (fun z : Int × (List S_impl_Write) × Int × Int × Int × Int × S_impl_Write × (List S_impl_Version) => [(9, (vob 3 e_impl_Write z.2.2.2.2.2.2.1)), (1012, (lob 4 e_impl_Version z.2.2.2.2.2.2.2))]) (fun n2 (z : Int × (List S_impl_Write) × Int × Int × Int × Int × S_impl_Write × (List S_impl_Version)) => m_impl_written_l2  (m_impl_written_l1  n1) n2 z.1 z.2.1 z.2.2.1 z.2.2.2.1 z.2.2.2.2.1 z.2.2.2.2.2.1 z.2.2.2.2.2.2.1 z.2.2.2.2.2.2.2) r _ (t2, t13, t14, t15, (o1012.length : Int), (0 : Int), y14, o1012) h (fun _ => rfl) (fun _ => by simp [hkeys]) ⟨rfl, rfl, rfl, rfl, rfl, rfl, rfl, rfl, trivial⟩ ⟨rfl, rfl, trivial⟩ ?_
      rintro n2 ⟨t2, t13, t14, t15, t20, t21, o9, o1012⟩ h N17 hN17
      replace h : m_impl_written_l2  (m_impl_written_l1  n1) (n2 + 1) t2 t13 t14 t15 t20 t21 o9 o1012 = some _ := h
      refine LWP.seq_k fun N19 hN19 => ?_
      refine LWP.region (l := [_]) ?_
      refine LWo.int _ rfl rfl rfl (hn := ?_)
      refine LWo.nil (hN19 _ ?_)
      refine LWP.seq_k fun N20 hN20 => ?_
      refine LWP.cond_split rfl (fun h21 => ?_) (fun h21 => ?_)
      ·have h := bT h21 h
       refine LWP.skip (hN20 _ ?_)
       refine LWP.join (α := Int × (List S_impl_Write) × Int × Int × Int × Int × S_impl_Write × (List S_impl_Version)) (fun z : Int × (List S_impl_Write) × Int × Int × Int × Int × S_impl_Write × (List S_impl_Version) => [(2, (e_int z.1)), (7, (.own 1012 0 (z.2.2.2.2.2.2.2).length)), (9, (.ptr 9 0 0)), (13, (e_Limpl_Write z.2.1)), (14, (e_int z.2.2.1)), (15, (e_int z.2.2.2.1)), (20, (e_int z.2.2.2.2.1)), (21, (e_int z.2.2.2.2.2.1))]) (fun z : Int × (List S_impl_Write) × Int × Int × Int × Int × S_impl_Write × (List S_impl_Version) => [(9, (vob 3 e_impl_Write z.2.2.2.2.2.2.1)), (1012, (lob 4 e_impl_Version z.2.2.2.2.2.2.2))]) (fun z : Int × (List S_impl_Write) × Int × Int × Int × Int × S_impl_Write × (List S_impl_Version) => m_impl_written_j2  (m_impl_written_l1  n1) (m_impl_written_l2  (m_impl_written_l1  n1) n2) z.1 z.2.1 z.2.2.1 z.2.2.2.1 z.2.2.2.2.1 z.2.2.2.2.2.1 z.2.2.2.2.2.2.1 z.2.2.2.2.2.2.2) r (fun _ => by simp [hkeys]) ?_ ?_
       ·rintro ⟨t2, t13, t14, t15, t20, t21, o9, o1012⟩ h
        replace h : m_impl_written_j2  (m_impl_written_l1  n1) (m_impl_written_l2  (m_impl_written_l1  n1) n2) t2 t13 t14 t15 t20 t21 o9 o1012 = some _ := h
        refine LWP.region (l := [_,_]) ?_
        refine bk h fun x34 e34 h => ?_
        refine LWo.int _ rfl rfl (add_ck e34) (hn := ?_)
        refine LWo.move (e_int x34) rfl (hn := ?_)
        refine LWo.nil (hN17 (t2, t13, t14, t15, t20, x34, o9, o1012) _ ⟨rfl, rfl, rfl, rfl, rfl, rfl, rfl, rfl, trivial⟩ ⟨rfl, rfl, trivial⟩ h)
       ·intro N22 hN22
        refine LWP.block ?_
        refine LWP.seq_k fun N23 hN23 => ?_
        refine LWP.region (l := [_,_]) ?_
        refine LWo.move (e_int t21) rfl (hn := ?_)
        refine LWo.assign (e_int t21) rfl (hn := ?_)
        refine LWo.nil (hN23 _ ?_)
        refine LWP.join (α := Int × Int × (List S_impl_Write) × Int × Int × Int × Int × Bool × S_impl_Write × (List S_impl_Version)) (fun z : Int × Int × (List S_impl_Write) × Int × Int × Int × Int × Bool × S_impl_Write × (List S_impl_Version) => [(2, (e_int z.1)), (7, (.own 1012 0 (z.2.2.2.2.2.2.2.2.2).length)), (9, (.ptr 9 0 0)), (10, (e_int z.2.1)), (13, (e_Limpl_Write z.2.2.1)), (14, (e_int z.2.2.2.1)), (15, (e_int z.2.2.2.2.1)), (20, (e_int z.2.2.2.2.2.1)), (21, (e_int z.2.2.2.2.2.2.1)), (39, (e_bool z.2.2.2.2.2.2.2.1))]) (fun z : Int × Int × (List S_impl_Write) × Int × Int × Int × Int × Bool × S_impl_Write × (List S_impl_Version) => [(9, (vob 3 e_impl_Write z.2.2.2.2.2.2.2.2.1)), (1012, (lob 4 e_impl_Version z.2.2.2.2.2.2.2.2.2))]) (fun z : Int × Int × (List S_impl_Write) × Int × Int × Int × Int × Bool × S_impl_Write × (List S_impl_Version) => m_impl_written_j1  (m_impl_written_l1  n1) (m_impl_written_l2  (m_impl_written_l1  n1) n2) z.1 z.2.1 z.2.2.1 z.2.2.2.1 z.2.2.2.2.1 z.2.2.2.2.2.1 z.2.2.2.2.2.2.1 z.2.2.2.2.2.2.2.1 z.2.2.2.2.2.2.2.2.1 z.2.2.2.2.2.2.2.2.2) r (fun _ => by simp [hkeys]) ?_ ?_
        ·rintro ⟨t2, t10, t13, t14, t15, t20, t21, t39, o9, o1012⟩ h
         replace h : m_impl_written_j1  (m_impl_written_l1  n1) (m_impl_written_l2  (m_impl_written_l1  n1) n2) t2 t10 t13 t14 t15 t20 t21 t39 o9 o1012 = some _ := h
         refine LWP.cond_split rfl (fun h30 => ?_) (fun h30 => ?_)
         ·have h := bT h30 h
          refine LWP.region (l := [_,_,_,_,_,_]) ?_
          refine LWo.move (.own 1012 0 (o1012).length) rfl (hn := ?_)
          refine LWo.move (e_int t10) rfl (hn := ?_)
          refine LWo.move (e_int t2) rfl (hn := ?_)
          refine bk h fun x31 e31 h => ?_
          refine LWo.indexO e31 rfl u_Limpl_Version s_impl_Version rfl rfl rfl (hn := ?_)
          refine LWo.fieldPtr u_impl_Version rfl s_int rfl rfl (hn := ?_)
          refine bk h fun x32 e32 h => ?_
          refine lk h fun y33 e33 h => ?_
          refine LWo.storeO y33 e32 s_int rfl rfl rfl rfl rfl rfl rfl (by rw [e33]; rfl) (hn := ?_)
          refine LWo.nil (hN22 (t2, t13, t14, t15, t20, t21, o9, (o1012.set (t10).toNat y33)) _ ⟨rfl, (congrArg (LV.own 1012 0) List.length_set.symm), rfl, rfl, rfl, rfl, rfl, rfl, trivial⟩ ⟨rfl, rfl, trivial⟩ h)
         ·have h := bF h30 h
          refine LWP.skip (hN22 (t2, t13, t14, t15, t20, t21, o9, o1012) _ ⟨rfl, rfl, rfl, rfl, rfl, rfl, rfl, rfl, trivial⟩ ⟨rfl, rfl, trivial⟩ h)
        ·intro N24 hN24
         refine bk h fun x25 e25 h => ?_
         refine bk h fun x26 e26 h => ?_
         refine bS ((x26.Key == o9.Key)) (fun h27 => ?_) (fun h27 => ?_)
         ·have h := bT h27 h
          refine bk h fun x28 e28 h => ?_
          refine bk h fun x29 e29 h => ?_
          refine LWP.drawF (l := [_,_,_,_,_,_,_,_,_,_,_,_,_,_,_,_]) [] [2, 7, 9, 10, 13, 14, 15, 20, 21] [([7], []), ([10], []), ([24, 25], [1012]), ([26], []), ([27], [1012]), ([9], []), ([29], [9]), ([28, 30], []), ([31], []), ([7, 32], []), ([10, 32], []), ([32, 33, 34], [1012]), ([32, 35], []), ([32, 36], [1012]), ([32, 37], []), ([32, 38], [])] [2, 7, 9, 10, 13, 14, 15, 20, 21, 39] [9, 1012] mixed (by kernel_rfl) rfl (by decide) ?_
          refine dq 24 rfl (fun _ g u h => LWo.move (.own 1012 0 (o1012).length) u.1 (hn := .nil (zn g))) ?_
          refine dq 25 rfl (fun _ g u h => LWo.move (e_int t21) u.1 (hn := .nil (zn g))) ?_
          refine dq 26 rfl (fun _ g u h => LWo.indexO e25 rfl u_Limpl_Version s_impl_Version u.1 u.2.1 h.1 (hn := .nil (zn g))) ?_
          refine dq 27 rfl (fun _ g u h => LWo.fieldPtr u_impl_Version rfl s_int u.1 rfl (hn := .nil (zn g))) ?_
          refine dq 28 rfl (fun _ g u h => LWo.loadO1 (e_int x26.Key) e26 g_int u.1 h.1 rfl (hn := .nil (zn g))) ?_
          refine dq 29 rfl (fun _ g u h => LWo.fieldPtr u_impl_Write rfl s_int u.1 rfl (hn := .nil (zn g))) ?_
          refine dq 30 rfl (fun _ g u h => LWo.loadV1 (e_int o9.Key)  g_int u.1 h.1 rfl (hn := .nil (zn g))) ?_
          refine dq 31 rfl (fun _ g u h => LWo.int _ u.1 u.2.1 rfl (hn := .nil (zn g))) ?_
          refine dq 32 rfl (fun _ g u h => LWo.move (e_bool (x26.Key == o9.Key)) u.1 (hn := .nil (zn g))) ?_
          refine dq 33 rfl (fun _ g u h => LWo.guardY (t := 32) u.2.1 h27 rfl rfl (LWo.move (.own 1012 0 (o1012).length) u.1 (hn := .nil (zn g)))) ?_
          refine dq 34 rfl (fun _ g u h => LWo.guardY (t := 32) u.2.1 h27 rfl rfl (LWo.move (e_int t21) u.1 (hn := .nil (zn g)))) ?_
          refine dq 35 rfl (fun _ g u h => LWo.guardY (t := 32) u.1 h27 rfl rfl (LWo.indexO e28 rfl u_Limpl_Version s_impl_Version u.2.1 u.2.2.1 h.1 (hn := .nil (zn g)))) ?_
          refine dq 36 rfl (fun _ g u h => LWo.guardY (t := 32) u.1 h27 rfl rfl (LWo.fieldPtr u_impl_Version rfl s_int u.2.1 rfl (hn := .nil (zn g)))) ?_
          refine dq 37 rfl (fun _ g u h => LWo.guardY (t := 32) u.1 h27 rfl rfl (LWo.loadO1 (e_int x29.Died) e29 g_int u.2.1 h.1 rfl (hn := .nil (zn g)))) ?_
          refine dq 38 rfl (fun _ g u h => LWo.guardY (t := 32) u.1 h27 rfl rfl (LWo.int _ u.2.1 rfl rfl (hn := .nil (zn g)))) ?_
          refine dq 39 rfl (fun _ g u h => LWo.pickTM (e_bool (x29.Died == (0 : Int))) u.1 h27 u.2.1 (hn := .nil (zn g))) ?_
          refine ⟨rfl, by kernel_rfl, hN24 (t2, t21, t13, t14, t15, t20, t21, (x29.Died == (0 : Int)), o9, o1012) _ ⟨rfl, rfl, rfl, rfl, rfl, rfl, rfl, rfl, rfl, rfl, trivial⟩ ⟨rfl, rfl, trivial⟩ h⟩
         ·have h := bF h27 h
          refine LWP.drawF (l := [_,_,_,_,_,_,_,_,_,_,_,_,_,_,_,_]) [] [2, 7, 9, 10, 13, 14, 15, 20, 21] [([7], []), ([10], []), ([24, 25], [1012]), ([26], []), ([27], [1012]), ([9], []), ([29], [9]), ([28, 30], []), ([31], []), ([7, 32], []), ([10, 32], []), ([32, 33, 34], []), ([32, 35], []), ([32, 36], []), ([32, 37], []), ([32, 38], [])] [2, 7, 9, 10, 13, 14, 15, 20, 21, 39] [9, 1012] mixed (by kernel_rfl) rfl (by decide) ?_
          refine dq 24 rfl (fun _ g u h => LWo.move (.own 1012 0 (o1012).length) u.1 (hn := .nil (zn g))) ?_
          refine dq 25 rfl (fun _ g u h => LWo.move (e_int t21) u.1 (hn := .nil (zn g))) ?_
          refine dq 26 rfl (fun _ g u h => LWo.indexO e25 rfl u_Limpl_Version s_impl_Version u.1 u.2.1 h.1 (hn := .nil (zn g))) ?_
          refine dq 27 rfl (fun _ g u h => LWo.fieldPtr u_impl_Version rfl s_int u.1 rfl (hn := .nil (zn g))) ?_
          refine dq 28 rfl (fun _ g u h => LWo.loadO1 (e_int x26.Key) e26 g_int u.1 h.1 rfl (hn := .nil (zn g))) ?_
          refine dq 29 rfl (fun _ g u h => LWo.fieldPtr u_impl_Write rfl s_int u.1 rfl (hn := .nil (zn g))) ?_
          refine dq 30 rfl (fun _ g u h => LWo.loadV1 (e_int o9.Key)  g_int u.1 h.1 rfl (hn := .nil (zn g))) ?_
          refine dq 31 rfl (fun _ g u h => LWo.int _ u.1 u.2.1 rfl (hn := .nil (zn g))) ?_
          refine dq 32 rfl (fun _ g u h => LWo.move (e_bool (x26.Key == o9.Key)) u.1 (hn := .nil (zn g))) ?_
          refine dq 33 rfl (fun _ g u h => LWo.guardNU (t := 32) u.2.1 h27 rfl rfl rfl rfl rfl (.nil (zn g))) ?_
          refine dq 34 rfl (fun _ g u h => LWo.guardNU (t := 32) u.2.1 h27 rfl rfl rfl rfl rfl (.nil (zn g))) ?_
          refine dq 35 rfl (fun _ g u h => LWo.guardNU (t := 32) u.1 h27 rfl rfl rfl rfl rfl (.nil (zn g))) ?_
          refine dq 36 rfl (fun _ g u h => LWo.guardNU (t := 32) u.1 h27 rfl rfl rfl rfl rfl (.nil (zn g))) ?_
          refine dq 37 rfl (fun _ g u h => LWo.guardNU (t := 32) u.1 h27 rfl rfl rfl rfl rfl (.nil (zn g))) ?_
          refine dq 38 rfl (fun _ g u h => LWo.guardNU (t := 32) u.1 h27 rfl rfl rfl rfl rfl (.nil (zn g))) ?_
          refine dq 39 rfl (fun _ g u h => LWo.pickFM (e_bool false) u.1 h27 rfl (hn := .nil (zn g))) ?_
          refine ⟨rfl, by kernel_rfl, hN24 (t2, t21, t13, t14, t15, t20, t21, false, o9, o1012) _ ⟨rfl, rfl, rfl, rfl, rfl, rfl, rfl, rfl, rfl, rfl, trivial⟩ ⟨rfl, rfl, trivial⟩ h⟩
      ·have h := bF h21 h
       refine LWP.exit (hN15 (t2, t13, t14, t15, o9, o1012) _ ⟨rfl, rfl, rfl, rfl, rfl, rfl, trivial⟩ ⟨rfl, rfl, trivial⟩ h)
   ·have h := bF h10 h
    refine LWP.exit (hN4 o1012 _ ⟨rfl, trivial⟩ ⟨rfl, trivial⟩ h)

def m_impl_WrittenAt_j1 (t0 : (List S_impl_Version)) (t1 : (List S_impl_Write)) (t2 : Int) (t26 : Bool) : Option ((List S_impl_Version) × Bool) :=
  bif t26 then (some (([] : (List S_impl_Version)), false))
  else ((m_impl_written t0 t1 t2).bind fun x13 =>
  bif decide ((x13.length : Int) > (60 : Int)) then (some (([] : (List S_impl_Version)), false))
  else (some (x13, true)))
def m_impl_WrittenAt (a0 : (List S_impl_Version)) (a1 : (List S_impl_Write)) (a2 : Int) : Option ((List S_impl_Version) × Bool) :=
  (m_impl_VersionsOk a0).bind fun x4 =>
  bif (!x4) then (m_impl_WrittenAt_j1  a0 a1 a2 true)
  else ((m_impl_WritesOk a1).bind fun x6 =>
    bif (!x6) then (m_impl_WrittenAt_j1  a0 a1 a2 true)
    else (bif decide (a2 > (40 : Int)) then (m_impl_WrittenAt_j1  a0 a1 a2 true)
      else ((m_impl_turnAny a0).bind fun x9 =>
        m_impl_WrittenAt_j1  a0 a1 a2 (decide (a2 ≤ x9)))))
theorem c_impl_WrittenAt (a0 : (List S_impl_Version)) (a1 : (List S_impl_Write)) (a2 : Int) (r : ((List S_impl_Version) × Bool)) (h : m_impl_WrittenAt a0 a1 a2 = some r) : Ret Try.prog f_impl_WrittenAt [e_Limpl_Version a0, e_Limpl_Write a1, e_int a2] (.tup [.nw 4 (r.1.map e_impl_Version) false, e_bool r.2]) := by
  refine Does.goG [] F_impl_WrittenAt rfl e_impl_WrittenAt n_impl_WrittenAt rfl (rvs := [.tmp 6, .tmp 7]) rfl rfl ?_
  intro w0 ok0 lent ρ0
  refine LWP.seq_k fun N1 hN1 => ?_
  refine LWP.region (l := [_,_]) ?_
  refine LWo.assign _ rfl (hn := ?_)
  refine LWo.ownNil 6 1006 4 rfl rfl rfl ?_
  refine LWo.known 6 (.own 1006 0 ([] : (List S_impl_Version)).length) rfl ?_
  refine LWo.assign (e_bool false) rfl (hn := ?_)
  refine LWo.nil (hN1 _ ?_)
  refine LWP.seq_k fun N2 hN2 => ?_
  refine LWP.join (α := (List S_impl_Version) × (List S_impl_Write) × Int × Bool) (fun z : (List S_impl_Version) × (List S_impl_Write) × Int × Bool => [(0, (e_Limpl_Version z.1)), (1, (e_Limpl_Write z.2.1)), (2, (e_int z.2.2.1)), (26, (e_bool z.2.2.2))]) (fun z : (List S_impl_Version) × (List S_impl_Write) × Int × Bool => []) (fun z : (List S_impl_Version) × (List S_impl_Write) × Int × Bool => m_impl_WrittenAt_j1  z.1 z.2.1 z.2.2.1 z.2.2.2) r (fun _ => by simp [hkeys]) ?_ ?_
  ·rintro ⟨t0, t1, t2, t26⟩ h
   replace h : m_impl_WrittenAt_j1  t0 t1 t2 t26 = some _ := h
   refine LWP.cond_split rfl (fun h10 => ?_) (fun h10 => ?_)
   ·have h := bT h10 h
    refine LWP.seq_k fun N11 hN11 => ?_
    refine LWP.region (l := [_,_]) ?_
    refine LWo.assign _ rfl (hn := ?_)
    refine LWo.ownNil 6 1006 4 rfl rfl rfl ?_
    refine LWo.known 6 (.own 1006 0 ([] : (List S_impl_Version)).length) rfl ?_
    refine LWo.assign (e_bool false) rfl (hn := ?_)
    refine LWo.nil (hN11 _ ?_)
    obtain rfl := Option.some.inj h
    refine LWP.ret (QG.mk (.inr rfl) (.cons (.tmp (x := (.own 1006 0 (([] : (List S_impl_Version))).length)) rfl) (.cons (.tmp (x := (e_bool false)) rfl) (.nil))) (RetOK.many0 (.cons (.nwM rfl rfl) (.cons (.pure rfl) (.nil))) (by simp) (by decide)) rfl rfl)
   ·have h := bF h10 h
    refine LWP.skip (hN2 _ ?_)
    refine LWP.seq_k fun N12 hN12 => ?_
    refine LWP.region (l := [_,_,_,_,_]) ?_
    refine LWo.move (e_Limpl_Version t0) rfl (hn := ?_)
    refine LWo.move (e_Limpl_Write t1) rfl (hn := ?_)
    refine LWo.move (e_int t2) rfl (hn := ?_)
    refine bk h fun x13 e13 h => ?_
    refine LWo.ncall (e := e_impl_Version) 1030 rfl rfl (c_impl_written _ _ _ _ e13) (.same (.same (.same (.nil)))) rfl (hn := ?_)
    refine LWo.assign (.own 1030 0 (x13).length) rfl (hn := ?_)
    refine LWo.nil (hN12 _ ?_)
    refine LWP.seq_k fun N14 hN14 => ?_
    refine LWP.seq_k fun N15 hN15 => ?_
    refine LWP.region (l := [_,_,_]) ?_
    refine LWo.move (.own 1030 0 (x13).length) rfl (hn := ?_)
    refine LWo.lenO u_Limpl_Version rfl (hn := ?_)
    refine LWo.int _ rfl rfl rfl (hn := ?_)
    refine LWo.nil (hN15 _ ?_)
    refine LWP.cond_split rfl (fun h16 => ?_) (fun h16 => ?_)
    ·have h := bT h16 h
     refine LWP.seq_k fun N17 hN17 => ?_
     refine LWP.region (l := [_,_]) ?_
     refine LWo.assign _ rfl (hn := ?_)
     refine LWo.ownNil 6 1006 4 rfl rfl rfl ?_
     refine LWo.known 6 (.own 1006 0 ([] : (List S_impl_Version)).length) rfl ?_
     refine LWo.assign (e_bool false) rfl (hn := ?_)
     refine LWo.nil (hN17 _ ?_)
     obtain rfl := Option.some.inj h
     refine LWP.ret (QG.mk (.inr rfl) (.cons (.tmp (x := (.own 1006 0 (([] : (List S_impl_Version))).length)) rfl) (.cons (.tmp (x := (e_bool false)) rfl) (.nil))) (RetOK.many0 (.cons (.nwM rfl rfl) (.cons (.pure rfl) (.nil))) (by simp) (by decide)) rfl rfl)
    ·have h := bF h16 h
     refine LWP.skip (hN14 _ ?_)
     refine LWP.seq_k fun N18 hN18 => ?_
     refine LWP.region (l := [_,_,_]) ?_
     refine LWo.move (.own 1030 0 (x13).length) rfl (hn := ?_)
     refine LWo.assign (.own 1030 0 (x13).length) rfl (hn := ?_)
     refine LWo.assign (e_bool true) rfl (hn := ?_)
     refine LWo.nil (hN18 _ ?_)
     obtain rfl := Option.some.inj h
     refine LWP.ret (QG.mk (.inr rfl) (.cons (.tmp (x := (.own 1030 0 (x13).length)) rfl) (.cons (.tmp (x := (e_bool true)) rfl) (.nil))) (RetOK.many0 (.cons (.nwM rfl rfl) (.cons (.pure rfl) (.nil))) (by simp) (by decide)) rfl rfl)
  ·intro N3 hN3
   refine LWP.region (l := [_,_,_,_,_,_,_,_,_,_,_,_,_,_,_,_,_,_]) ?_
   refine LWo.move (e_Limpl_Version a0) rfl (hn := ?_)
   refine bk h fun x4 e4 h => ?_
   refine LWo.vcall rfl rfl (c_impl_VersionsOk _ _ e4) (.same (.nil)) (hn := ?_)
   refine LWo.not rfl (hn := ?_)
   refine LWo.move (e_bool (!x4)) rfl (hn := ?_)
   refine LWo.byCases (t := 12) _ rfl (fun h5 => ?_) (fun h5 => ?_)
   ·have h := bT h5 h
    refine LWo.guardNU (t := 12) rfl h5 rfl rfl rfl rfl rfl ?_
    refine LWo.guardNU (t := 12) rfl h5 rfl rfl rfl rfl rfl ?_
    refine LWo.guardNU (t := 12) rfl h5 rfl rfl rfl rfl rfl ?_
    refine LWo.pickTM (e_bool true) rfl h5 rfl (hn := ?_)
    refine LWo.move (e_bool true) rfl (hn := ?_)
    refine LWo.guardNU (t := 17) rfl rfl rfl rfl rfl rfl rfl ?_
    refine LWo.guardNU (t := 17) rfl rfl rfl rfl rfl rfl rfl ?_
    refine LWo.pickTM (e_bool true) rfl rfl rfl (hn := ?_)
    refine LWo.move (e_bool true) rfl (hn := ?_)
    refine LWo.guardNU (t := 21) rfl rfl rfl rfl rfl rfl rfl ?_
    refine LWo.guardNU (t := 21) rfl rfl rfl rfl rfl rfl rfl ?_
    refine LWo.guardNU (t := 21) rfl rfl rfl rfl rfl rfl rfl ?_
    refine LWo.guardNU (t := 21) rfl rfl rfl rfl rfl rfl rfl ?_
    refine LWo.pickTM (e_bool true) rfl rfl rfl (hn := ?_)
    refine LWo.nil (hN3 (a0, a1, a2, true) _ ⟨rfl, rfl, rfl, rfl, trivial⟩ trivial h)
   ·have h := bF h5 h
    refine LWo.guardY (t := 12) rfl h5 rfl rfl ?_
    refine LWo.move (e_Limpl_Write a1) rfl (hn := ?_)
    refine bk h fun x6 e6 h => ?_
    refine LWo.guardY (t := 12) rfl h5 rfl rfl ?_
    refine LWo.vcall rfl rfl (c_impl_WritesOk _ _ e6) (.same (.nil)) (hn := ?_)
    refine LWo.guardY (t := 12) rfl h5 rfl rfl ?_
    refine LWo.not rfl (hn := ?_)
    refine LWo.pickFM (e_bool (!x6)) rfl h5 rfl (hn := ?_)
    refine LWo.move (e_bool (!x6)) rfl (hn := ?_)
    refine LWo.byCases (t := 17) _ rfl (fun h7 => ?_) (fun h7 => ?_)
    ·have h := bT h7 h
     refine LWo.guardNU (t := 17) rfl h7 rfl rfl rfl rfl rfl ?_
     refine LWo.guardNU (t := 17) rfl h7 rfl rfl rfl rfl rfl ?_
     refine LWo.pickTM (e_bool true) rfl h7 rfl (hn := ?_)
     refine LWo.move (e_bool true) rfl (hn := ?_)
     refine LWo.guardNU (t := 21) rfl rfl rfl rfl rfl rfl rfl ?_
     refine LWo.guardNU (t := 21) rfl rfl rfl rfl rfl rfl rfl ?_
     refine LWo.guardNU (t := 21) rfl rfl rfl rfl rfl rfl rfl ?_
     refine LWo.guardNU (t := 21) rfl rfl rfl rfl rfl rfl rfl ?_
     refine LWo.pickTM (e_bool true) rfl rfl rfl (hn := ?_)
     refine LWo.nil (hN3 (a0, a1, a2, true) _ ⟨rfl, rfl, rfl, rfl, trivial⟩ trivial h)
    ·have h := bF h7 h
     refine LWo.guardY (t := 17) rfl h7 rfl rfl ?_
     refine LWo.move (e_int a2) rfl (hn := ?_)
     refine LWo.guardY (t := 17) rfl h7 rfl rfl ?_
     refine LWo.int _ rfl rfl rfl (hn := ?_)
     refine LWo.pickFM (e_bool (decide (a2 > (40 : Int)))) rfl h7 rfl (hn := ?_)
     refine LWo.move (e_bool (decide (a2 > (40 : Int)))) rfl (hn := ?_)
     refine LWo.byCases (t := 21) _ rfl (fun h8 => ?_) (fun h8 => ?_)
     ·have h := bT h8 h
      refine LWo.guardNU (t := 21) rfl h8 rfl rfl rfl rfl rfl ?_
      refine LWo.guardNU (t := 21) rfl h8 rfl rfl rfl rfl rfl ?_
      refine LWo.guardNU (t := 21) rfl h8 rfl rfl rfl rfl rfl ?_
      refine LWo.guardNU (t := 21) rfl h8 rfl rfl rfl rfl rfl ?_
      refine LWo.pickTM (e_bool true) rfl h8 rfl (hn := ?_)
      refine LWo.nil (hN3 (a0, a1, a2, true) _ ⟨rfl, rfl, rfl, rfl, trivial⟩ trivial h)
     ·have h := bF h8 h
      refine LWo.guardY (t := 21) rfl h8 rfl rfl ?_
      refine LWo.move (e_int a2) rfl (hn := ?_)
      refine LWo.guardY (t := 21) rfl h8 rfl rfl ?_
      refine LWo.move (e_Limpl_Version a0) rfl (hn := ?_)
      refine bk h fun x9 e9 h => ?_
      refine LWo.guardY (t := 21) rfl h8 rfl rfl ?_
      refine LWo.vcall rfl rfl (c_impl_turnAny _ _ e9) (.same (.nil)) (hn := ?_)
      refine LWo.guardY (t := 21) rfl h8 rfl rfl ?_
      refine LWo.int _ rfl rfl rfl (hn := ?_)
      refine LWo.pickFM (e_bool (decide (a2 ≤ x9))) rfl h8 rfl (hn := ?_)
      refine LWo.nil (hN3 (a0, a1, a2, decide (a2 ≤ x9)) _ ⟨rfl, rfl, rfl, rfl, trivial⟩ trivial h)

def m_slices_Clone_Limpl_Version_impl_Version (a0 : (List S_impl_Version)) : Option (List S_impl_Version) :=
  nilM a0 fun b4 =>
  bif b4 then (some ([] : (List S_impl_Version)))
  else ((app? ([] : (List S_impl_Version)) a0).bind fun x8 =>
  some x8)
theorem c_slices_Clone_Limpl_Version_impl_Version (a0 : (List S_impl_Version)) (r : (List S_impl_Version)) (h : m_slices_Clone_Limpl_Version_impl_Version a0 = some r) : Ret Try.prog f_slices_Clone_Limpl_Version_impl_Version [e_Limpl_Version a0] (.nw 4 (r.map e_impl_Version) false) := by
  refine Does.goG [] F_slices_Clone_Limpl_Version_impl_Version rfl e_slices_Clone_Limpl_Version_impl_Version n_slices_Clone_Limpl_Version_impl_Version rfl (rvs := [.tmp 2]) rfl rfl ?_
  intro w0 ok0 lent ρ0
  refine LWP.seq_k fun N1 hN1 => ?_
  refine LWP.region (l := [_]) ?_
  refine LWo.assign _ rfl (hn := ?_)
  refine LWo.ownNil 2 1002 4 rfl rfl rfl ?_
  refine LWo.known 2 (.own 1002 0 ([] : (List S_impl_Version)).length) rfl ?_
  refine LWo.nil (hN1 _ ?_)
  refine LWP.seq_k fun N2 hN2 => ?_
  refine LWP.seq_k fun N3 hN3 => ?_
  refine LWP.region (l := [_,_]) ?_
  refine LWo.move (e_Limpl_Version a0) rfl (hn := ?_)
  refine LWo.nilEq (f := e_impl_Version) u_Limpl_Version rfl rfl (hn := fun b4 e4 => nkb h b4 e4 fun h => ?_)
  refine LWo.nil (hN3 _ ?_)
  refine LWP.cond_split rfl (fun h5 => ?_) (fun h5 => ?_)
  ·have h := bT h5 h
   refine LWP.seq_k fun N6 hN6 => ?_
   refine LWP.region (l := [_]) ?_
   refine LWo.assign _ rfl (hn := ?_)
   refine LWo.ownNil 2 1002 4 rfl rfl rfl ?_
   refine LWo.known 2 (.own 1002 0 ([] : (List S_impl_Version)).length) rfl ?_
   refine LWo.nil (hN6 _ ?_)
   obtain rfl := Option.some.inj h
   refine LWP.ret (QG.mk (.inr rfl) (.cons (.tmp (x := (.own 1002 0 (([] : (List S_impl_Version))).length)) rfl) (.nil)) (RetOK.one0 (.nwM rfl rfl) (by decide)) rfl rfl)
  ·have h := bF h5 h
   refine LWP.skip (hN2 _ ?_)
   refine LWP.seq_k fun N7 hN7 => ?_
   refine LWP.region (l := [_,_,_,_]) ?_
   refine LWo.lit0 1005 u_Limpl_Version s_impl_Version z_impl_Version (hn := ?_)
   refine LWo.known 5 (.own 1005 0 ([] : (List S_impl_Version)).length) rfl ?_
   refine LWo.move (e_Limpl_Version a0) rfl (hn := ?_)
   refine bk h fun x8 e8 h => ?_
   refine LWo.appendM (f := e_impl_Version) e8 rfl u_Limpl_Version u_Limpl_Version (fun _ h => by cases h) s_impl_Version i_impl_Version rfl rfl rfl (.sl rfl) rfl rfl (hn := ?_)
   refine LWo.assign (.own 1005 0 (x8).length) rfl (hn := ?_)
   refine LWo.nil (hN7 _ ?_)
   obtain rfl := Option.some.inj h
   refine LWP.ret (QG.mk (.inr rfl) (.cons (.tmp (x := (.own 1005 0 (x8).length)) rfl) (.nil)) (RetOK.one0 (.nwM rfl rfl) (by decide)) rfl rfl)

def m_impl_SweptAt_1_j1 (t3 : Bool) : Option Bool :=
  some t3
def m_impl_SweptAt_1 (a0 : S_impl_Version) (a1 : Int) : Option Bool :=
  bif (a0.Died != (0 : Int)) then (m_impl_SweptAt_1_j1  (decide (a0.Died ≤ a1)))
  else (m_impl_SweptAt_1_j1  false)
theorem c_impl_SweptAt_1 (a0 : S_impl_Version) (a1 : Int) (r : Bool) (h : m_impl_SweptAt_1 a0 a1 = some r) : Ret Try.prog f_impl_SweptAt_1 [e_impl_Version a0, .fp (e_int a1).cells] (e_bool r) := by
  refine Does.goG [] F_impl_SweptAt_1 rfl e_impl_SweptAt_1 n_impl_SweptAt_1 rfl (rvs := [.tmp 3]) rfl rfl ?_
  intro w0 ok0 lent ρ0
  refine LWP.seq_k fun N1 hN1 => ?_
  refine LWP.region (l := [_,_]) ?_
  refine LWo.boxF (e_impl_Version a0) rfl rfl rfl (hn := ?_)
  refine LWo.assign (e_bool false) rfl (hn := ?_)
  refine LWo.nil (hN1 _ ?_)
  refine LWP.join (α := Bool) (fun z : Bool => [(3, (e_bool z))]) (fun z : Bool => []) (fun z : Bool => m_impl_SweptAt_1_j1  z) r (fun _ => by simp [hkeys]) ?_ ?_
  ·rintro t3 h
   replace h : m_impl_SweptAt_1_j1  t3 = some _ := h
   obtain rfl := Option.some.inj h
   refine LWP.ret (QG.mk (.inr rfl) (.cons (.tmp (x := (e_bool t3)) rfl) (.nil)) (RetOK.one0 (.pure rfl) (by decide)) rfl rfl)
  ·intro N2 hN2
   refine LWP.region (l := [_,_,_,_,_,_,_,_,_,_]) ?_
   refine LWo.fieldAddr _ u_impl_Version rfl s_int rfl rfl (hn := ?_)
   refine LWo.load1 (c := (e_int a0.Died)) g_int rfl (hn := ?_)
   refine LWo.int _ rfl rfl rfl (hn := ?_)
   refine LWo.move (e_bool (a0.Died != (0 : Int))) rfl (hn := ?_)
   refine LWo.byCases (t := 7) _ rfl (fun h3 => ?_) (fun h3 => ?_)
   ·have h := bT h3 h
    refine LWo.guardY (t := 7) rfl h3 rfl rfl ?_
    refine LWo.fieldAddr _ u_impl_Version rfl s_int rfl rfl (hn := ?_)
    refine LWo.guardY (t := 7) rfl h3 rfl rfl ?_
    refine LWo.load1 (c := (e_int a0.Died)) g_int rfl (hn := ?_)
    refine LWo.guardY (t := 7) rfl h3 rfl rfl ?_
    refine LWo.load1 (c := (e_int a1)) g_int rfl (hn := ?_)
    refine LWo.guardY (t := 7) rfl h3 rfl rfl ?_
    refine LWo.int _ rfl rfl rfl (hn := ?_)
    refine LWo.pickTM (e_bool (decide (a0.Died ≤ a1))) rfl h3 rfl (hn := ?_)
    refine LWo.assign (e_bool (decide (a0.Died ≤ a1))) rfl (hn := ?_)
    refine LWo.nil (hN2 (decide (a0.Died ≤ a1)) _ ⟨rfl, trivial⟩ trivial h)
   ·have h := bF h3 h
    refine LWo.guardNU (t := 7) rfl h3 rfl rfl rfl rfl rfl ?_
    refine LWo.guardNU (t := 7) rfl h3 rfl rfl rfl rfl rfl ?_
    refine LWo.guardNU (t := 7) rfl h3 rfl rfl rfl rfl rfl ?_
    refine LWo.guardNU (t := 7) rfl h3 rfl rfl rfl rfl rfl ?_
    refine LWo.pickFM (e_bool false) rfl h3 rfl (hn := ?_)
    refine LWo.assign (e_bool false) rfl (hn := ?_)
    refine LWo.nil (hN2 false _ ⟨rfl, trivial⟩ trivial h)

def m_slices_IndexFunc_Limpl_Version_impl_Version_j1 (p1 : S_impl_Version → Option Bool)  : Option Int :=
  some (-1 : Int)
def m_slices_IndexFunc_Limpl_Version_impl_Version_l1 (p1 : S_impl_Version → Option Bool) : Nat → (List S_impl_Version) → Int → Int → Option Int
  | 0, _, _, _ => none
  | n1 + 1, t0, t7, t8 =>
    bif decide (t8 < t7) then ((at? t0 t8).bind fun x12 =>
    (p1 x12).bind fun x13 =>
    bif x13 then (some t8)
    else ((ckI (t8 + (1 : Int))).bind fun x16 =>
    (m_slices_IndexFunc_Limpl_Version_impl_Version_l1 p1 n1) t0 t7 x16))
    else (m_slices_IndexFunc_Limpl_Version_impl_Version_j1 p1 )
def m_slices_IndexFunc_Limpl_Version_impl_Version (a0 : (List S_impl_Version)) (p1 : S_impl_Version → Option Bool) : Option Int :=
  m_slices_IndexFunc_Limpl_Version_impl_Version_l1 p1 (((a0.length : Int) - (0 : Int)).toNat + 1) a0 (a0.length : Int) (0 : Int)
theorem c_slices_IndexFunc_Limpl_Version_impl_Version (a0 : (List S_impl_Version)) (p1 : S_impl_Version → Option Bool) (f1 : FuncId) (q1 : List LV) (hq1 : ∀ k, LV.at?.atL k q1 = false) (hf1 : ∀ a0 v, p1 a0 = some v → Ret Try.prog f1 (e_impl_Version a0 :: q1) (e_bool v)) (r : Int) (h : m_slices_IndexFunc_Limpl_Version_impl_Version a0 p1 = some r) : Ret Try.prog f_slices_IndexFunc_Limpl_Version_impl_Version [e_Limpl_Version a0, .clo f1 q1] (e_int r) := by
  refine Does.goG [] F_slices_IndexFunc_Limpl_Version_impl_Version rfl e_slices_IndexFunc_Limpl_Version_impl_Version n_slices_IndexFunc_Limpl_Version_impl_Version rfl (rvs := [.tmp 4]) rfl rfl ?_
  intro w0 ok0 lent ρ0
  refine LWP.seq_k fun N1 hN1 => ?_
  refine LWP.region (l := [_]) ?_
  refine LWo.assign (e_int (0 : Int)) rfl (hn := ?_)
  refine LWo.nil (hN1 _ ?_)
  refine LWP.join (α := Unit) (fun z : Unit => []) (fun z : Unit => []) (fun z : Unit => m_slices_IndexFunc_Limpl_Version_impl_Version_j1 p1 ) r (fun _ => by simp [hkeys]) ?_ ?_
  ·rintro _ h
   replace h : m_slices_IndexFunc_Limpl_Version_impl_Version_j1 p1  = some _ := h
   refine LWP.seq_k fun N17 hN17 => ?_
   refine LWP.region (l := [_]) ?_
   refine LWo.assign (e_int (-1 : Int)) rfl (hn := ?_)
   refine LWo.nil (hN17 _ ?_)
   obtain rfl := Option.some.inj h
   refine LWP.ret (QG.mk (.inr rfl) (.cons (.tmp (x := (e_int (-1 : Int))) rfl) (.nil)) (RetOK.one0 (.pure rfl) (by decide)) rfl rfl)
  ·intro N2 hN2
   refine LWP.seq_k fun N3 hN3 => ?_
   refine LWP.region (l := [_,_,_]) ?_
   refine LWo.move (e_Limpl_Version a0) rfl (hn := ?_)
   refine LWo.lenM (f := e_impl_Version) (l := a0) u_Limpl_Version rfl (hn := ?_)
   refine LWo.move (e_int (0 : Int)) rfl (hn := ?_)
   refine LWo.nil (hN3 _ ?_)
   refine LWP.block ?_
   refine LWP.loopM (α := (List S_impl_Version) × Int × Int) (fun z : (List S_impl_Version) × Int × Int => [(0, (e_Limpl_Version z.1)), (1, (.clo f1 q1)), (7, (e_int z.2.1)), (8, (e_int z.2.2))]) (fun z : (List S_impl_Version) × Int × Int => []) (fun n1 (z : (List S_impl_Version) × Int × Int) => m_slices_IndexFunc_Limpl_Version_impl_Version_l1 p1 n1 z.1 z.2.1 z.2.2) r _ (a0, (a0.length : Int), (0 : Int)) h (fun _ => rfl) (fun _ => by simp [hkeys]) ⟨rfl, rfl, rfl, rfl, trivial⟩ trivial ?_
   rintro n1 ⟨t0, t7, t8⟩ h N4 hN4
   replace h : m_slices_IndexFunc_Limpl_Version_impl_Version_l1 p1 (n1 + 1) t0 t7 t8 = some _ := h
   refine LWP.seq_k fun N6 hN6 => ?_
   refine LWP.region (l := [_]) ?_
   refine LWo.int _ rfl rfl rfl (hn := ?_)
   refine LWo.nil (hN6 _ ?_)
   refine LWP.seq_k fun N7 hN7 => ?_
   refine LWP.cond_split rfl (fun h8 => ?_) (fun h8 => ?_)
   ·have h := bT h8 h
    refine LWP.skip (hN7 _ ?_)
    refine LWP.seq_k fun N9 hN9 => ?_
    refine LWP.block ?_
    refine LWP.seq_k fun N10 hN10 => ?_
    refine LWP.region (l := [_,_]) ?_
    refine LWo.move (e_int t8) rfl (hn := ?_)
    refine LWo.assign (e_int t8) rfl (hn := ?_)
    refine LWo.nil (hN10 _ ?_)
    refine LWP.seq_k fun N11 hN11 => ?_
    refine LWP.region (l := [_,_,_,_,_,_]) ?_
    refine LWo.move (.clo f1 q1) rfl (hn := ?_)
    refine LWo.move (e_Limpl_Version t0) rfl (hn := ?_)
    refine LWo.move (e_int t8) rfl (hn := ?_)
    refine bk h fun x12 e12 h => ?_
    refine LWo.indexM (f := e_impl_Version) e12 u_Limpl_Version s_impl_Version rfl rfl (hn := ?_)
    refine LWo.loadN ((e_impl_Version x12)).cells g_impl_Version s_impl_Version rfl (Nat.le_of_ble_eq_true rfl) rfl (hn := ?_)
    refine bk h fun x13 e13 h => ?_
    refine LWo.vcall rfl rfl (hf1 _ _ e13) .refl (hn := ?_)
    refine LWo.nil (hN11 _ ?_)
    refine LWP.cond_split rfl (fun h14 => ?_) (fun h14 => ?_)
    ·have h := bT h14 h
     refine LWP.seq_k fun N15 hN15 => ?_
     refine LWP.region (l := [_,_]) ?_
     refine LWo.move (e_int t8) rfl (hn := ?_)
     refine LWo.assign (e_int t8) rfl (hn := ?_)
     refine LWo.nil (hN15 _ ?_)
     obtain rfl := Option.some.inj h
     refine LWP.ret (QG.mk (.inr rfl) (.cons (.tmp (x := (e_int t8)) rfl) (.nil)) (RetOK.one0 (.pure rfl) (by decide)) rfl rfl)
    ·have h := bF h14 h
     refine LWP.skip (hN9 _ ?_)
     refine LWP.region (l := [_,_]) ?_
     refine bk h fun x16 e16 h => ?_
     refine LWo.int _ rfl rfl (add_ck e16) (hn := ?_)
     refine LWo.move (e_int x16) rfl (hn := ?_)
     refine LWo.nil (hN4 (t0, t7, x16) _ ⟨rfl, rfl, rfl, rfl, trivial⟩ trivial h)
   ·have h := bF h8 h
    refine LWP.exit (hN2 () _ trivial trivial h)

def m_slices_DeleteFunc_Limpl_Version_impl_Version_j2 (p1 : S_impl_Version → Option Bool) (t5 : Int) (o1000 : (List S_impl_Version)) : Option (List S_impl_Version) :=
  (rng? t5 ((o1000).length : Int) ((o1000).length)).bind fun u31 =>
  (rng? (0 : Int) t5 ((o1000).length)).bind fun u33 =>
  (leN ((t5).toNat) (o1000.take (0 + (t5).toNat)).length).bind fun u34 =>
  some ((o1000.take (0 + (t5).toNat)).take ((t5).toNat))
def m_slices_DeleteFunc_Limpl_Version_impl_Version_j1 (p1 : S_impl_Version → Option Bool) (k1 : Int → Int → (List S_impl_Version) → Option (List S_impl_Version)) (t5 : Int) (t6 : Int) (o1000 : (List S_impl_Version)) : Option (List S_impl_Version) :=
  (ckI (t6 + (1 : Int))).bind fun x29 =>
  k1 t5 x29 o1000
def m_slices_DeleteFunc_Limpl_Version_impl_Version_l1 (p1 : S_impl_Version → Option Bool) : Nat → Int → Int → (List S_impl_Version) → Option (List S_impl_Version)
  | 0, _, _, _ => none
  | n1 + 1, t5, t6, o1000 =>
    bif decide (t6 < (o1000.length : Int)) then ((at? o1000 t6).bind fun x18 =>
    (at? o1000 t6).bind fun x19 =>
    lt (x19) fun y20 =>
    (p1 y20).bind fun x22 =>
    bif (!x22) then ((at? o1000 t5).bind fun x25 =>
      (at? o1000 t5).bind fun x26 =>
      lt (y20) fun y27 =>
      (ckI (t5 + (1 : Int))).bind fun x28 =>
      m_slices_DeleteFunc_Limpl_Version_impl_Version_j1 p1 (m_slices_DeleteFunc_Limpl_Version_impl_Version_l1 p1 n1) x28 t6 (o1000.set (t5).toNat y27))
    else (m_slices_DeleteFunc_Limpl_Version_impl_Version_j1 p1 (m_slices_DeleteFunc_Limpl_Version_impl_Version_l1 p1 n1) t5 t6 o1000))
    else (m_slices_DeleteFunc_Limpl_Version_impl_Version_j2 p1 t5 o1000)
def m_slices_DeleteFunc_Limpl_Version_impl_Version (o0 : (List S_impl_Version)) (p1 : S_impl_Version → Option Bool) : Option (List S_impl_Version) :=
  (m_slices_IndexFunc_Limpl_Version_impl_Version o0 p1).bind fun x3 =>
  bif (x3 == (-1 : Int)) then (some o0)
  else ((ckI (x3 + (1 : Int))).bind fun x10 =>
  m_slices_DeleteFunc_Limpl_Version_impl_Version_l1 p1 (((o0.length : Int) - x10).toNat + 1) x3 x10 o0)
theorem c_slices_DeleteFunc_Limpl_Version_impl_Version (o0 : (List S_impl_Version)) (p1 : S_impl_Version → Option Bool) (f1 : FuncId) (q1 : List LV) (hq1 : ∀ k, LV.at?.atL k q1 = false) (hf1 : ∀ a0 v, p1 a0 = some v → Ret Try.prog f1 (e_impl_Version a0 :: q1) (e_bool v)) (r : (List S_impl_Version)) (h : m_slices_DeleteFunc_Limpl_Version_impl_Version o0 p1 = some r) : Does Try.prog f_slices_DeleteFunc_Limpl_Version_impl_Version [.own 0 0 o0.length, .clo f1 q1] [(0, (lob 4 e_impl_Version o0))] (fun x hh => x = .nw 4 (r.map e_impl_Version) false ∧ hh = []) := by
  refine Does.goG [0] F_slices_DeleteFunc_Limpl_Version_impl_Version rfl e_slices_DeleteFunc_Limpl_Version_impl_Version n_slices_DeleteFunc_Limpl_Version_impl_Version rfl (rvs := [.tmp 4]) rfl rfl ?_
  intro w0 ok0 lent ρ0
  refine LWP.rekey 0 0 1000 rfl rfl rfl rfl rfl rfl ?_
  refine LWP.tell [(0, (.own 1000 0 (o0).length)), (1, (.clo f1 q1))] [(1000, (lob 4 e_impl_Version o0))] ⟨rfl, get_kill_of (get_kill_of rfl (hq1 1000)) (hq1 0), trivial⟩ ⟨rfl, trivial⟩ (by simp [hkeys]) ?_
  refine LWP.seq_k fun N1 hN1 => ?_
  refine LWP.region (l := [_]) ?_
  refine LWo.assign _ rfl (hn := ?_)
  refine LWo.ownNil 4 1004 4 rfl rfl rfl ?_
  refine LWo.known 1 (.clo f1 q1) (get_kill_of rfl (hq1 1004)) ?_
  refine LWo.known 4 (.own 1004 0 ([] : (List S_impl_Version)).length) rfl ?_
  refine LWo.nil (hN1 _ ?_)
  refine LWP.seq_k fun N2 hN2 => ?_
  refine LWP.region (l := [_,_,_,_]) ?_
  refine LWo.move (.own 1000 0 (o0).length) rfl (hn := ?_)
  refine LWo.move (.clo f1 q1) rfl (hn := ?_)
  refine bk h fun x3 e3 h => ?_
  refine LWo.wcall rfl rfl (c_slices_IndexFunc_Limpl_Version_impl_Version _ _ f1 q1 hq1 hf1 _ e3) (.viewM rfl rfl rfl (.same (.nil))) rfl (hn := ?_)
  refine LWo.assign (e_int x3) rfl (hn := ?_)
  refine LWo.nil (hN2 _ ?_)
  refine LWP.seq_k fun N4 hN4 => ?_
  refine LWP.seq_k fun N5 hN5 => ?_
  refine LWP.region (l := [_,_]) ?_
  refine LWo.move (e_int x3) rfl (hn := ?_)
  refine LWo.int _ rfl rfl rfl (hn := ?_)
  refine LWo.nil (hN5 _ ?_)
  refine LWP.cond_split rfl (fun h6 => ?_) (fun h6 => ?_)
  ·have h := bT h6 h
   refine LWP.seq_k fun N7 hN7 => ?_
   refine LWP.region (l := [_,_]) ?_
   refine LWo.move (.own 1000 0 (o0).length) rfl (hn := ?_)
   refine LWo.assign (.own 1000 0 (o0).length) rfl (hn := ?_)
   refine LWo.nil (hN7 _ ?_)
   obtain rfl := Option.some.inj h
   refine LWP.ret (QG.mk (.inr rfl) (.cons (.tmp (x := (.own 1000 0 (o0).length)) rfl) (.nil)) (RetOK.one0 (.nwM rfl rfl) (by decide)) rfl rfl)
  ·have h := bF h6 h
   refine LWP.skip (hN4 _ ?_)
   refine LWP.join (α := Int × (List S_impl_Version)) (fun z : Int × (List S_impl_Version) => [(0, (.own 1000 0 (z.2).length)), (5, (e_int z.1))]) (fun z : Int × (List S_impl_Version) => [(1000, (lob 4 e_impl_Version z.2))]) (fun z : Int × (List S_impl_Version) => m_slices_DeleteFunc_Limpl_Version_impl_Version_j2 p1 z.1 z.2) r (fun _ => by simp [hkeys]) ?_ ?_
   ·rintro ⟨t5, o1000⟩ h
    replace h : m_slices_DeleteFunc_Limpl_Version_impl_Version_j2 p1 t5 o1000 = some _ := h
    refine LWP.seq_k fun N30 hN30 => ?_
    refine LWP.region (l := [_,_,_,_]) ?_
    refine LWo.move (.own 1000 0 (o1000).length) rfl (hn := ?_)
    refine LWo.move (e_int t5) rfl (hn := ?_)
    refine bk h fun u31 e31 h => ?_
    refine LWo.cutOM e31 u_Limpl_Version s_impl_Version rfl rfl ⟨_, rfl⟩ rfl (hn := ?_)
    refine LWo.clearO (f := e_impl_Version) (l := o1000) none u_Limpl_Version z_impl_Version rfl rfl rfl rfl rfl (hn := ?_)
    refine LWo.nil (hN30 _ ?_)
    refine LWP.seq_k fun N32 hN32 => ?_
    refine LWP.region (l := [_,_,_,_]) ?_
    refine LWo.move (.own 1000 0 ((o1000).length)) rfl (hn := ?_)
    refine LWo.move (e_int t5) rfl (hn := ?_)
    refine bk h fun u33 e33 h => ?_
    refine LWo.cutOM e33 u_Limpl_Version s_impl_Version rfl rfl rfl ⟨_, rfl⟩ (hn := ?_)
    refine LWo.assign (.own 1000 0 ((t5).toNat)) rfl (hn := ?_)
    refine LWo.nil (hN32 _ ?_)
    refine bk h fun u34 e34 h => ?_
    obtain rfl := Option.some.inj h
    refine LWP.ret (QG.mk (.inr rfl) (.cons (.tmp (x := (.own 1000 0 ((t5).toNat))) rfl) (.nil)) (RetOK.one0 (.nwT (leN_b e34) rfl) (by decide)) rfl rfl)
   ·intro N8 hN8
    refine LWP.seq_k fun N9 hN9 => ?_
    refine LWP.region (l := [_,_,_]) ?_
    refine LWo.move (e_int x3) rfl (hn := ?_)
    refine bk h fun x10 e10 h => ?_
    refine LWo.int _ rfl rfl (add_ck e10) (hn := ?_)
    refine LWo.assign (e_int x10) rfl (hn := ?_)
    refine LWo.nil (hN9 _ ?_)
    refine LWP.block ?_
    refine LWP.loopM (α := Int × Int × (List S_impl_Version)) (fun z : Int × Int × (List S_impl_Version) => [(0, (.own 1000 0 (z.2.2).length)), (1, (.clo f1 q1)), (5, (e_int z.1)), (6, (e_int z.2.1))]) (fun z : Int × Int × (List S_impl_Version) => [(1000, (lob 4 e_impl_Version z.2.2))]) (fun n1 (z : Int × Int × (List S_impl_Version)) => m_slices_DeleteFunc_Limpl_Version_impl_Version_l1 p1 n1 z.1 z.2.1 z.2.2) r _ (x3, x10, o0) h (fun _ => rfl) (fun _ => by simp [hkeys]) ⟨rfl, rfl, rfl, rfl, trivial⟩ ⟨rfl, trivial⟩ ?_
    rintro n1 ⟨t5, t6, o1000⟩ h N11 hN11
    replace h : m_slices_DeleteFunc_Limpl_Version_impl_Version_l1 p1 (n1 + 1) t5 t6 o1000 = some _ := h
    refine LWP.seq_k fun N13 hN13 => ?_
    refine LWP.seq_k fun N14 hN14 => ?_
    refine LWP.region (l := [_,_,_,_]) ?_
    refine LWo.move (e_int t6) rfl (hn := ?_)
    refine LWo.move (.own 1000 0 (o1000).length) rfl (hn := ?_)
    refine LWo.lenO u_Limpl_Version rfl (hn := ?_)
    refine LWo.int _ rfl rfl rfl (hn := ?_)
    refine LWo.nil (hN14 _ ?_)
    refine LWP.cond_split rfl (fun h15 => ?_) (fun h15 => ?_)
    ·have h := bT h15 h
     refine LWP.skip (hN13 _ ?_)
     refine LWP.join (α := Int × Int × (List S_impl_Version)) (fun z : Int × Int × (List S_impl_Version) => [(0, (.own 1000 0 (z.2.2).length)), (1, (.clo f1 q1)), (5, (e_int z.1)), (6, (e_int z.2.1))]) (fun z : Int × Int × (List S_impl_Version) => [(1000, (lob 4 e_impl_Version z.2.2))]) (fun z : Int × Int × (List S_impl_Version) => m_slices_DeleteFunc_Limpl_Version_impl_Version_j1 p1 (m_slices_DeleteFunc_Limpl_Version_impl_Version_l1 p1 n1) z.1 z.2.1 z.2.2) r (fun _ => by simp [hkeys]) ?_ ?_
     ·rintro ⟨t5, t6, o1000⟩ h
      replace h : m_slices_DeleteFunc_Limpl_Version_impl_Version_j1 p1 (m_slices_DeleteFunc_Limpl_Version_impl_Version_l1 p1 n1) t5 t6 o1000 = some _ := h
      refine LWP.region (l := [_,_,_]) ?_
      refine LWo.move (e_int t6) rfl (hn := ?_)
      refine bk h fun x29 e29 h => ?_
      refine LWo.int _ rfl rfl (add_ck e29) (hn := ?_)
      refine LWo.assign (e_int x29) rfl (hn := ?_)
      refine LWo.nil (hN11 (t5, x29, o1000) _ ⟨rfl, rfl, rfl, rfl, trivial⟩ ⟨rfl, trivial⟩ h)
     ·intro N16 hN16
      refine LWP.block ?_
      refine LWP.seq_k fun N17 hN17 => ?_
      refine LWP.region (l := [_,_,_,_,_,_]) ?_
      refine LWo.move (.own 1000 0 (o1000).length) rfl (hn := ?_)
      refine LWo.move (e_int t6) rfl (hn := ?_)
      refine bk h fun x18 e18 h => ?_
      refine LWo.indexO e18 rfl u_Limpl_Version s_impl_Version rfl rfl rfl (hn := ?_)
      refine bk h fun x19 e19 h => ?_
      refine LWo.loadON ((e_impl_Version x19)).cells e19 g_impl_Version s_impl_Version rfl rfl rfl rfl (hn := ?_)
      refine LWo.alloc_impl_Version 7 rfl (hn := ?_)
      refine LWo.known 1 (.clo f1 q1) (get_kill_of rfl (hq1 7)) ?_
      refine lk h fun y20 e20 h => ?_
      refine LWo.storeW (y := (⟨(0 : Int), (0 : Int), (0 : Int), []⟩ : S_impl_Version)) y20 s_impl_Version rfl rfl rfl rfl rfl rfl (by rw [e20]; exact .refl) rfl (hn := ?_)
      refine LWo.nil (hN17 _ ?_)
      refine LWP.seq_k fun N21 hN21 => ?_
      refine LWP.region (l := [_,_,_,_]) ?_
      refine LWo.move (.clo f1 q1) rfl (hn := ?_)
      refine LWo.loadVN ((e_impl_Version y20)).cells  g_impl_Version s_impl_Version rfl rfl rfl rfl (hn := ?_)
      refine bk h fun x22 e22 h => ?_
      refine LWo.vcall rfl rfl (hf1 _ _ e22) .refl (hn := ?_)
      refine LWo.not rfl (hn := ?_)
      refine LWo.nil (hN21 _ ?_)
      refine LWP.cond_split rfl (fun h23 => ?_) (fun h23 => ?_)
      ·have h := bT h23 h
       refine LWP.seq_k fun N24 hN24 => ?_
       refine LWP.region (l := [_,_,_,_,_]) ?_
       refine LWo.move (.own 1000 0 (o1000).length) rfl (hn := ?_)
       refine LWo.move (e_int t5) rfl (hn := ?_)
       refine LWo.loadVN ((e_impl_Version y20)).cells  g_impl_Version s_impl_Version rfl rfl rfl rfl (hn := ?_)
       refine bk h fun x25 e25 h => ?_
       refine LWo.indexO e25 rfl u_Limpl_Version s_impl_Version rfl rfl rfl (hn := ?_)
       refine bk h fun x26 e26 h => ?_
       refine lk h fun y27 e27 h => ?_
       refine LWo.storeO y27 e26 s_impl_Version rfl rfl rfl rfl rfl rfl rfl (by rw [e27]; rfl) (hn := ?_)
       refine LWo.nil (hN24 _ ?_)
       refine LWP.region (l := [_,_,_]) ?_
       refine LWo.move (e_int t5) rfl (hn := ?_)
       refine bk h fun x28 e28 h => ?_
       refine LWo.int _ rfl rfl (add_ck e28) (hn := ?_)
       refine LWo.assign (e_int x28) rfl (hn := ?_)
       refine LWo.nil (hN16 (x28, t6, (o1000.set (t5).toNat y27)) _ ⟨(congrArg (LV.own 1000 0) List.length_set.symm), rfl, rfl, rfl, trivial⟩ ⟨rfl, trivial⟩ h)
      ·have h := bF h23 h
       refine LWP.skip (hN16 (t5, t6, o1000) _ ⟨rfl, rfl, rfl, rfl, trivial⟩ ⟨rfl, trivial⟩ h)
    ·have h := bF h15 h
     refine LWP.exit (hN8 (t5, o1000) _ ⟨rfl, rfl, trivial⟩ ⟨rfl, trivial⟩ h)

def m_impl_SweptAt (a0 : (List S_impl_Version)) (a1 : Int) : Option (List S_impl_Version) :=
  (m_impl_VersionsOk a0).bind fun x4 =>
  bif (!x4) then (some ([] : (List S_impl_Version)))
  else ((m_slices_Clone_Limpl_Version_impl_Version a0).bind fun x8 =>
  (m_slices_DeleteFunc_Limpl_Version_impl_Version x8 (fun b0_ => m_impl_SweptAt_1 b0_ a1)).bind fun x9 =>
  (m_impl_versionsCopy x9).bind fun x10 =>
  some x10)
theorem c_impl_SweptAt (a0 : (List S_impl_Version)) (a1 : Int) (r : (List S_impl_Version)) (h : m_impl_SweptAt a0 a1 = some r) : Ret Try.prog f_impl_SweptAt [e_Limpl_Version a0, e_int a1] (.nw 4 (r.map e_impl_Version) false) := by
  refine Does.goG [] F_impl_SweptAt rfl e_impl_SweptAt n_impl_SweptAt rfl (rvs := [.tmp 4]) rfl rfl ?_
  intro w0 ok0 lent ρ0
  refine LWP.seq_k fun N1 hN1 => ?_
  refine LWP.region (l := [_,_]) ?_
  refine LWo.boxF (e_int a1) rfl rfl rfl (hn := ?_)
  refine LWo.assign _ rfl (hn := ?_)
  refine LWo.ownNil 4 1004 4 rfl rfl rfl ?_
  refine LWo.known 4 (.own 1004 0 ([] : (List S_impl_Version)).length) rfl ?_
  refine LWo.nil (hN1 _ ?_)
  refine LWP.seq_k fun N2 hN2 => ?_
  refine LWP.seq_k fun N3 hN3 => ?_
  refine LWP.region (l := [_,_,_]) ?_
  refine LWo.move (e_Limpl_Version a0) rfl (hn := ?_)
  refine bk h fun x4 e4 h => ?_
  refine LWo.vcall rfl rfl (c_impl_VersionsOk _ _ e4) (.same (.nil)) (hn := ?_)
  refine LWo.not rfl (hn := ?_)
  refine LWo.nil (hN3 _ ?_)
  refine LWP.cond_split rfl (fun h5 => ?_) (fun h5 => ?_)
  ·have h := bT h5 h
   refine LWP.seq_k fun N6 hN6 => ?_
   refine LWP.region (l := [_]) ?_
   refine LWo.assign _ rfl (hn := ?_)
   refine LWo.ownNil 4 1004 4 rfl rfl rfl ?_
   refine LWo.known 4 (.own 1004 0 ([] : (List S_impl_Version)).length) rfl ?_
   refine LWo.nil (hN6 _ ?_)
   obtain rfl := Option.some.inj h
   refine LWP.ret (QG.mk (.inr rfl) (.cons (.tmp (x := (.own 1004 0 (([] : (List S_impl_Version))).length)) rfl) (.nil)) (RetOK.one0 (.nwM rfl rfl) (by decide)) rfl rfl)
  ·have h := bF h5 h
   refine LWP.skip (hN2 _ ?_)
   refine LWP.seq_k fun N7 hN7 => ?_
   refine LWP.region (l := [_,_,_,_,_,_]) ?_
   refine LWo.move (e_Limpl_Version a0) rfl (hn := ?_)
   refine bk h fun x8 e8 h => ?_
   refine LWo.ncall (e := e_impl_Version) 1009 rfl rfl (c_slices_Clone_Limpl_Version_impl_Version _ _ e8) (.same (.nil)) rfl (hn := ?_)
   refine LWo.makeFuncM [(.fp (e_int a1).cells)] rfl rfl (hn := ?_)
   refine bk h fun x9 e9 h => ?_
   refine LWo.tcallN (e := e_impl_Version) (e' := e_impl_Version) 1011 rfl rfl (c_slices_DeleteFunc_Limpl_Version_impl_Version _ _ f_impl_SweptAt_1 [(.fp (e_int a1).cells)] (fun _ => rfl) (fun b0_ v hv => c_impl_SweptAt_1 b0_ a1 v hv) _ e9) (fun _ => rfl) rfl rfl rfl rfl (hn := ?_)
   refine bk h fun x10 e10 h => ?_
   refine LWo.frzL (f := e_impl_Version) (l := x9) [11] 1011 rfl rfl ⟨rfl, trivial⟩ ?_
   refine LWo.ncall (e := e_impl_Version) 1012 rfl rfl (c_impl_versionsCopy _ _ e10) (.same (.nil)) rfl (hn := ?_)
   refine LWo.assign (.own 1012 0 (x10).length) rfl (hn := ?_)
   refine LWo.nil (hN7 _ ?_)
   obtain rfl := Option.some.inj h
   refine LWP.ret (QG.mk (.inr rfl) (.cons (.tmp (x := (.own 1012 0 (x10).length)) rfl) (.nil)) (RetOK.one0 (.nwM rfl rfl) (by decide)) rfl rfl)

def m_impl_ValueOk (a0 : S_impl_Value) : Option Bool :=
  (m_impl_Value_ok a0).bind fun x3 =>
  some x3
theorem c_impl_ValueOk (a0 : S_impl_Value) (r : Bool) (h : m_impl_ValueOk a0 = some r) : Ret Try.prog f_impl_ValueOk [e_impl_Value a0] (e_bool r) := by
  refine Does.goG [] F_impl_ValueOk rfl e_impl_ValueOk n_impl_ValueOk rfl (rvs := [.tmp 2]) rfl rfl ?_
  intro w0 ok0 lent ρ0
  refine LWP.seq_k fun N1 hN1 => ?_
  refine LWP.region (l := [_,_]) ?_
  refine LWo.boxF (e_impl_Value a0) rfl rfl rfl (hn := ?_)
  refine LWo.assign (e_bool false) rfl (hn := ?_)
  refine LWo.nil (hN1 _ ?_)
  refine LWP.seq_k fun N2 hN2 => ?_
  refine LWP.region (l := [_,_,_]) ?_
  refine LWo.loadN ((e_impl_Value a0)).cells g_impl_Value s_impl_Value rfl (Nat.le_of_ble_eq_true rfl) rfl (hn := ?_)
  refine bk h fun x3 e3 h => ?_
  refine LWo.vcall rfl rfl (c_impl_Value_ok _ _ e3) (.same (.nil)) (hn := ?_)
  refine LWo.assign (e_bool x3) rfl (hn := ?_)
  refine LWo.nil (hN2 _ ?_)
  obtain rfl := Option.some.inj h
  refine LWP.ret (QG.mk (.inr rfl) (.cons (.tmp (x := (e_bool x3)) rfl) (.nil)) (RetOK.one0 (.pure rfl) (by decide)) rfl rfl)

def m_laws_alive_j1 (t0 : Bool) : Option Bool :=
  some t0
def m_laws_alive  : Option Bool :=
  (m_impl_ValueOk (⟨(1 : Int), (3 : Int), (⟨#[]⟩ : ByteArray)⟩ : S_impl_Value)).bind fun x3 =>
  bif x3 then ((m_impl_ValueOk (⟨(9 : Int), (0 : Int), (⟨#[]⟩ : ByteArray)⟩ : S_impl_Value)).bind fun x5 =>
    m_laws_alive_j1  (!x5))
  else (m_laws_alive_j1  false)
theorem c_laws_alive  (r : Bool) (h : m_laws_alive  = some r) : Ret Try.prog f_laws_alive [] (e_bool r) := by
  refine Does.goG [] F_laws_alive rfl e_laws_alive n_laws_alive rfl (rvs := [.tmp 0]) rfl rfl ?_
  intro w0 ok0 lent ρ0
  refine LWP.seq_k fun N1 hN1 => ?_
  refine LWP.region (l := [_]) ?_
  refine LWo.assign (e_bool false) rfl (hn := ?_)
  refine LWo.nil (hN1 _ ?_)
  refine LWP.join (α := Bool) (fun z : Bool => [(0, (e_bool z))]) (fun z : Bool => []) (fun z : Bool => m_laws_alive_j1  z) r (fun _ => by simp [hkeys]) ?_ ?_
  ·rintro t0 h
   replace h : m_laws_alive_j1  t0 = some _ := h
   obtain rfl := Option.some.inj h
   refine LWP.ret (QG.mk (.inr rfl) (.cons (.tmp (x := (e_bool t0)) rfl) (.nil)) (RetOK.one0 (.pure rfl) (by decide)) rfl rfl)
  ·intro N2 hN2
   refine LWP.region (l := [_,_,_,_,_,_,_,_]) ?_
   refine LWo.build_impl_Value (parts := [_, _]) (⟨(1 : Int), (3 : Int), (⟨#[]⟩ : ByteArray)⟩ : S_impl_Value) rfl rfl rfl .refl (hn := ?_)
   refine bk h fun x3 e3 h => ?_
   refine LWo.vcall rfl rfl (c_impl_ValueOk _ _ e3) (.same (.nil)) (hn := ?_)
   refine LWo.move (e_bool x3) rfl (hn := ?_)
   refine LWo.byCases (t := 3) _ rfl (fun h4 => ?_) (fun h4 => ?_)
   ·have h := bT h4 h
    refine LWo.guardY (t := 3) rfl h4 rfl rfl ?_
    refine LWo.build_impl_Value (parts := [_]) (⟨(9 : Int), (0 : Int), (⟨#[]⟩ : ByteArray)⟩ : S_impl_Value) rfl rfl rfl .refl (hn := ?_)
    refine bk h fun x5 e5 h => ?_
    refine LWo.guardY (t := 3) rfl h4 rfl rfl ?_
    refine LWo.vcall rfl rfl (c_impl_ValueOk _ _ e5) (.same (.nil)) (hn := ?_)
    refine LWo.guardY (t := 3) rfl h4 rfl rfl ?_
    refine LWo.not rfl (hn := ?_)
    refine LWo.pickTM (e_bool (!x5)) rfl h4 rfl (hn := ?_)
    refine LWo.assign (e_bool (!x5)) rfl (hn := ?_)
    refine LWo.nil (hN2 (!x5) _ ⟨rfl, trivial⟩ trivial h)
   ·have h := bF h4 h
    refine LWo.guardNU (t := 3) rfl h4 rfl rfl rfl rfl rfl ?_
    refine LWo.guardNU (t := 3) rfl h4 rfl rfl rfl rfl rfl ?_
    refine LWo.guardNU (t := 3) rfl h4 rfl rfl rfl rfl rfl ?_
    refine LWo.pickFM (e_bool false) rfl h4 rfl (hn := ?_)
    refine LWo.assign (e_bool false) rfl (hn := ?_)
    refine LWo.nil (hN2 false _ ⟨rfl, trivial⟩ trivial h)

def m_laws_sameRow_j1  : Option Bool :=
  some true
def m_laws_sameRow_l1 : Nat → (List S_impl_Value) → (List S_impl_Value) → Int → Option Bool
  | 0, _, _, _ => none
  | n1 + 1, t0, t1, t5 =>
    bif decide (t5 < (t0.length : Int)) then ((at? t0 t5).bind fun x15 =>
    (at? t1 t5).bind fun x16 =>
    bif (!(decide (x15 = x16))) then (some false)
    else ((ckI (t5 + (1 : Int))).bind fun x19 =>
    (m_laws_sameRow_l1  n1) t0 t1 x19))
    else (m_laws_sameRow_j1  )
def m_laws_sameRow (a0 : (List S_impl_Value)) (a1 : (List S_impl_Value)) : Option Bool :=
  bif ((a0.length : Int) != (a1.length : Int)) then (some false)
  else (m_laws_sameRow_l1  (((a0.length : Int) - (0 : Int)).toNat + 1) a0 a1 (0 : Int))
theorem c_laws_sameRow (a0 : (List S_impl_Value)) (a1 : (List S_impl_Value)) (r : Bool) (h : m_laws_sameRow a0 a1 = some r) : Ret Try.prog f_laws_sameRow [e_Limpl_Value a0, e_Limpl_Value a1] (e_bool r) := by
  refine Does.goG [] F_laws_sameRow rfl e_laws_sameRow n_laws_sameRow rfl (rvs := [.tmp 4]) rfl rfl ?_
  intro w0 ok0 lent ρ0
  refine LWP.seq_k fun N1 hN1 => ?_
  refine LWP.region (l := [_]) ?_
  refine LWo.assign (e_bool false) rfl (hn := ?_)
  refine LWo.nil (hN1 _ ?_)
  refine LWP.seq_k fun N2 hN2 => ?_
  refine LWP.seq_k fun N3 hN3 => ?_
  refine LWP.region (l := [_,_,_,_,_]) ?_
  refine LWo.move (e_Limpl_Value a0) rfl (hn := ?_)
  refine LWo.lenM (f := e_impl_Value) (l := a0) u_Limpl_Value rfl (hn := ?_)
  refine LWo.move (e_Limpl_Value a1) rfl (hn := ?_)
  refine LWo.lenM (f := e_impl_Value) (l := a1) u_Limpl_Value rfl (hn := ?_)
  refine LWo.int _ rfl rfl rfl (hn := ?_)
  refine LWo.nil (hN3 _ ?_)
  refine LWP.cond_split rfl (fun h4 => ?_) (fun h4 => ?_)
  ·have h := bT h4 h
   refine LWP.seq_k fun N5 hN5 => ?_
   refine LWP.region (l := [_]) ?_
   refine LWo.assign (e_bool false) rfl (hn := ?_)
   refine LWo.nil (hN5 _ ?_)
   obtain rfl := Option.some.inj h
   refine LWP.ret (QG.mk (.inr rfl) (.cons (.tmp (x := (e_bool false)) rfl) (.nil)) (RetOK.one0 (.pure rfl) (by decide)) rfl rfl)
  ·have h := bF h4 h
   refine LWP.skip (hN2 _ ?_)
   refine LWP.join (α := Unit) (fun z : Unit => []) (fun z : Unit => []) (fun z : Unit => m_laws_sameRow_j1  ) r (fun _ => by simp [hkeys]) ?_ ?_
   ·rintro _ h
    replace h : m_laws_sameRow_j1   = some _ := h
    refine LWP.seq_k fun N20 hN20 => ?_
    refine LWP.region (l := [_]) ?_
    refine LWo.assign (e_bool true) rfl (hn := ?_)
    refine LWo.nil (hN20 _ ?_)
    obtain rfl := Option.some.inj h
    refine LWP.ret (QG.mk (.inr rfl) (.cons (.tmp (x := (e_bool true)) rfl) (.nil)) (RetOK.one0 (.pure rfl) (by decide)) rfl rfl)
   ·intro N6 hN6
    refine LWP.seq_k fun N7 hN7 => ?_
    refine LWP.region (l := [_]) ?_
    refine LWo.assign (e_int (0 : Int)) rfl (hn := ?_)
    refine LWo.nil (hN7 _ ?_)
    refine LWP.block ?_
    refine LWP.loopM (α := (List S_impl_Value) × (List S_impl_Value) × Int) (fun z : (List S_impl_Value) × (List S_impl_Value) × Int => [(0, (e_Limpl_Value z.1)), (1, (e_Limpl_Value z.2.1)), (5, (e_int z.2.2))]) (fun z : (List S_impl_Value) × (List S_impl_Value) × Int => []) (fun n1 (z : (List S_impl_Value) × (List S_impl_Value) × Int) => m_laws_sameRow_l1  n1 z.1 z.2.1 z.2.2) r _ (a0, a1, (0 : Int)) h (fun _ => rfl) (fun _ => by simp [hkeys]) ⟨rfl, rfl, rfl, trivial⟩ trivial ?_
    rintro n1 ⟨t0, t1, t5⟩ h N8 hN8
    replace h : m_laws_sameRow_l1  (n1 + 1) t0 t1 t5 = some _ := h
    refine LWP.seq_k fun N10 hN10 => ?_
    refine LWP.seq_k fun N11 hN11 => ?_
    refine LWP.region (l := [_,_,_,_]) ?_
    refine LWo.move (e_int t5) rfl (hn := ?_)
    refine LWo.move (e_Limpl_Value t0) rfl (hn := ?_)
    refine LWo.lenM (f := e_impl_Value) (l := t0) u_Limpl_Value rfl (hn := ?_)
    refine LWo.int _ rfl rfl rfl (hn := ?_)
    refine LWo.nil (hN11 _ ?_)
    refine LWP.cond_split rfl (fun h12 => ?_) (fun h12 => ?_)
    ·have h := bT h12 h
     refine LWP.skip (hN10 _ ?_)
     refine LWP.seq_k fun N13 hN13 => ?_
     refine LWP.block ?_
     refine LWP.seq_k fun N14 hN14 => ?_
     refine bk h fun x15 e15 h => ?_
     refine bk h fun x16 e16 h => ?_
     refine LWP.drawF (l := [_,_,_,_,_,_,_,_,_]) [] [0, 1, 5] [([0], []), ([5], []), ([17, 18], []), ([19], []), ([1], []), ([5], []), ([21, 22], []), ([23], []), ([20, 24], [])] [0, 1, 5, 25] [] mixed (by kernel_rfl) rfl (by decide) ?_
     refine dq 17 rfl (fun _ g u h => LWo.move (e_Limpl_Value t0) u.1 (hn := .nil (zn g))) ?_
     refine dq 18 rfl (fun _ g u h => LWo.move (e_int t5) u.1 (hn := .nil (zn g))) ?_
     refine dq 19 rfl (fun _ g u h => LWo.indexM (f := e_impl_Value) e15 u_Limpl_Value s_impl_Value u.1 u.2.1 (hn := .nil (zn g))) ?_
     refine dq 20 rfl (fun _ g u h => LWo.loadN ((e_impl_Value x15)).cells g_impl_Value s_impl_Value u.1 (Nat.le_of_ble_eq_true rfl) rfl (hn := .nil (zn g))) ?_
     refine dq 21 rfl (fun _ g u h => LWo.move (e_Limpl_Value t1) u.1 (hn := .nil (zn g))) ?_
     refine dq 22 rfl (fun _ g u h => LWo.move (e_int t5) u.1 (hn := .nil (zn g))) ?_
     refine dq 23 rfl (fun _ g u h => LWo.indexM (f := e_impl_Value) e16 u_Limpl_Value s_impl_Value u.1 u.2.1 (hn := .nil (zn g))) ?_
     refine dq 24 rfl (fun _ g u h => LWo.loadN ((e_impl_Value x16)).cells g_impl_Value s_impl_Value u.1 (Nat.le_of_ble_eq_true rfl) rfl (hn := .nil (zn g))) ?_
     refine dq 25 rfl (fun _ g u h => LWo.ne_impl_Value _ _ u.1 u.2.1 (hn := .nil (zn g))) ?_
     refine ⟨rfl, by kernel_rfl, hN14 _ ?_⟩
     refine LWP.cond_split rfl (fun h17 => ?_) (fun h17 => ?_)
     ·have h := bT h17 h
      refine LWP.seq_k fun N18 hN18 => ?_
      refine LWP.region (l := [_]) ?_
      refine LWo.assign (e_bool false) rfl (hn := ?_)
      refine LWo.nil (hN18 _ ?_)
      obtain rfl := Option.some.inj h
      refine LWP.ret (QG.mk (.inr rfl) (.cons (.tmp (x := (e_bool false)) rfl) (.nil)) (RetOK.one0 (.pure rfl) (by decide)) rfl rfl)
     ·have h := bF h17 h
      refine LWP.skip (hN13 _ ?_)
      refine LWP.region (l := [_,_,_]) ?_
      refine LWo.move (e_int t5) rfl (hn := ?_)
      refine bk h fun x19 e19 h => ?_
      refine LWo.int _ rfl rfl (add_ck e19) (hn := ?_)
      refine LWo.assign (e_int x19) rfl (hn := ?_)
      refine LWo.nil (hN8 (t0, t1, x19) _ ⟨rfl, rfl, rfl, trivial⟩ trivial h)
    ·have h := bF h12 h
     refine LWP.exit (hN6 () _ trivial trivial h)

def m_laws_sameVersions_j2  : Option Bool :=
  some true
def m_laws_sameVersions_j1 (k1 : (List S_impl_Version) → (List S_impl_Version) → Int → Option Bool) (t0 : (List S_impl_Version)) (t1 : (List S_impl_Version)) (t5 : Int) (t67 : Bool) : Option Bool :=
  bif t67 then (some false)
  else ((ckI (t5 + (1 : Int))).bind fun x29 =>
  k1 t0 t1 x29)
def m_laws_sameVersions_l1 : Nat → (List S_impl_Version) → (List S_impl_Version) → Int → Option Bool
  | 0, _, _, _ => none
  | n1 + 1, t0, t1, t5 =>
    bif decide (t5 < (t0.length : Int)) then ((at? t0 t5).bind fun x15 =>
    (at? t1 t5).bind fun x16 =>
    bif (x15.Key != x16.Key) then (m_laws_sameVersions_j1  (m_laws_sameVersions_l1  n1) t0 t1 t5 true)
    else ((at? t0 t5).bind fun x18 =>
      (at? t1 t5).bind fun x19 =>
      bif (x18.Born != x19.Born) then (m_laws_sameVersions_j1  (m_laws_sameVersions_l1  n1) t0 t1 t5 true)
      else ((at? t0 t5).bind fun x21 =>
        (at? t1 t5).bind fun x22 =>
        bif (x21.Died != x22.Died) then (m_laws_sameVersions_j1  (m_laws_sameVersions_l1  n1) t0 t1 t5 true)
        else ((at? t0 t5).bind fun x24 =>
          (at? t1 t5).bind fun x25 =>
          (m_laws_sameRow x24.Row x25.Row).bind fun x26 =>
          m_laws_sameVersions_j1  (m_laws_sameVersions_l1  n1) t0 t1 t5 (!x26)))))
    else (m_laws_sameVersions_j2  )
def m_laws_sameVersions (a0 : (List S_impl_Version)) (a1 : (List S_impl_Version)) : Option Bool :=
  bif ((a0.length : Int) != (a1.length : Int)) then (some false)
  else (m_laws_sameVersions_l1  (((a0.length : Int) - (0 : Int)).toNat + 1) a0 a1 (0 : Int))
theorem c_laws_sameVersions (a0 : (List S_impl_Version)) (a1 : (List S_impl_Version)) (r : Bool) (h : m_laws_sameVersions a0 a1 = some r) : Ret Try.prog f_laws_sameVersions [e_Limpl_Version a0, e_Limpl_Version a1] (e_bool r) := by
  refine Does.goG [] F_laws_sameVersions rfl e_laws_sameVersions n_laws_sameVersions rfl (rvs := [.tmp 4]) rfl rfl ?_
  intro w0 ok0 lent ρ0
  refine LWP.seq_k fun N1 hN1 => ?_
  refine LWP.region (l := [_]) ?_
  refine LWo.assign (e_bool false) rfl (hn := ?_)
  refine LWo.nil (hN1 _ ?_)
  refine LWP.seq_k fun N2 hN2 => ?_
  refine LWP.seq_k fun N3 hN3 => ?_
  refine LWP.region (l := [_,_,_,_,_]) ?_
  refine LWo.move (e_Limpl_Version a0) rfl (hn := ?_)
  refine LWo.lenM (f := e_impl_Version) (l := a0) u_Limpl_Version rfl (hn := ?_)
  refine LWo.move (e_Limpl_Version a1) rfl (hn := ?_)
  refine LWo.lenM (f := e_impl_Version) (l := a1) u_Limpl_Version rfl (hn := ?_)
  refine LWo.int _ rfl rfl rfl (hn := ?_)
  refine LWo.nil (hN3 _ ?_)
  refine LWP.cond_split rfl (fun h4 => ?_) (fun h4 => ?_)
  ·have h := bT h4 h
   refine LWP.seq_k fun N5 hN5 => ?_
   refine LWP.region (l := [_]) ?_
   refine LWo.assign (e_bool false) rfl (hn := ?_)
   refine LWo.nil (hN5 _ ?_)
   obtain rfl := Option.some.inj h
   refine LWP.ret (QG.mk (.inr rfl) (.cons (.tmp (x := (e_bool false)) rfl) (.nil)) (RetOK.one0 (.pure rfl) (by decide)) rfl rfl)
  ·have h := bF h4 h
   refine LWP.skip (hN2 _ ?_)
   refine LWP.join (α := Unit) (fun z : Unit => []) (fun z : Unit => []) (fun z : Unit => m_laws_sameVersions_j2  ) r (fun _ => by simp [hkeys]) ?_ ?_
   ·rintro _ h
    replace h : m_laws_sameVersions_j2   = some _ := h
    refine LWP.seq_k fun N30 hN30 => ?_
    refine LWP.region (l := [_]) ?_
    refine LWo.assign (e_bool true) rfl (hn := ?_)
    refine LWo.nil (hN30 _ ?_)
    obtain rfl := Option.some.inj h
    refine LWP.ret (QG.mk (.inr rfl) (.cons (.tmp (x := (e_bool true)) rfl) (.nil)) (RetOK.one0 (.pure rfl) (by decide)) rfl rfl)
   ·intro N6 hN6
    refine LWP.seq_k fun N7 hN7 => ?_
    refine LWP.region (l := [_]) ?_
    refine LWo.assign (e_int (0 : Int)) rfl (hn := ?_)
    refine LWo.nil (hN7 _ ?_)
    refine LWP.block ?_
    refine LWP.loopM (α := (List S_impl_Version) × (List S_impl_Version) × Int) (fun z : (List S_impl_Version) × (List S_impl_Version) × Int => [(0, (e_Limpl_Version z.1)), (1, (e_Limpl_Version z.2.1)), (5, (e_int z.2.2))]) (fun z : (List S_impl_Version) × (List S_impl_Version) × Int => []) (fun n1 (z : (List S_impl_Version) × (List S_impl_Version) × Int) => m_laws_sameVersions_l1  n1 z.1 z.2.1 z.2.2) r _ (a0, a1, (0 : Int)) h (fun _ => rfl) (fun _ => by simp [hkeys]) ⟨rfl, rfl, rfl, trivial⟩ trivial ?_
    rintro n1 ⟨t0, t1, t5⟩ h N8 hN8
    replace h : m_laws_sameVersions_l1  (n1 + 1) t0 t1 t5 = some _ := h
    refine LWP.seq_k fun N10 hN10 => ?_
    refine LWP.seq_k fun N11 hN11 => ?_
    refine LWP.region (l := [_,_,_,_]) ?_
    refine LWo.move (e_int t5) rfl (hn := ?_)
    refine LWo.move (e_Limpl_Version t0) rfl (hn := ?_)
    refine LWo.lenM (f := e_impl_Version) (l := t0) u_Limpl_Version rfl (hn := ?_)
    refine LWo.int _ rfl rfl rfl (hn := ?_)
    refine LWo.nil (hN11 _ ?_)
    refine LWP.cond_split rfl (fun h12 => ?_) (fun h12 => ?_)
    ·have h := bT h12 h
     refine LWP.skip (hN10 _ ?_)
     refine LWP.seq_k fun N13 hN13 => ?_
     refine LWP.block ?_
     refine LWP.join (α := (List S_impl_Version) × (List S_impl_Version) × Int × Bool) (fun z : (List S_impl_Version) × (List S_impl_Version) × Int × Bool => [(0, (e_Limpl_Version z.1)), (1, (e_Limpl_Version z.2.1)), (5, (e_int z.2.2.1)), (67, (e_bool z.2.2.2))]) (fun z : (List S_impl_Version) × (List S_impl_Version) × Int × Bool => []) (fun z : (List S_impl_Version) × (List S_impl_Version) × Int × Bool => m_laws_sameVersions_j1  (m_laws_sameVersions_l1  n1) z.1 z.2.1 z.2.2.1 z.2.2.2) r (fun _ => by simp [hkeys]) ?_ ?_
     ·rintro ⟨t0, t1, t5, t67⟩ h
      replace h : m_laws_sameVersions_j1  (m_laws_sameVersions_l1  n1) t0 t1 t5 t67 = some _ := h
      refine LWP.cond_split rfl (fun h27 => ?_) (fun h27 => ?_)
      ·have h := bT h27 h
       refine LWP.seq_k fun N28 hN28 => ?_
       refine LWP.region (l := [_]) ?_
       refine LWo.assign (e_bool false) rfl (hn := ?_)
       refine LWo.nil (hN28 _ ?_)
       obtain rfl := Option.some.inj h
       refine LWP.ret (QG.mk (.inr rfl) (.cons (.tmp (x := (e_bool false)) rfl) (.nil)) (RetOK.one0 (.pure rfl) (by decide)) rfl rfl)
      ·have h := bF h27 h
       refine LWP.skip (hN13 _ ?_)
       refine LWP.region (l := [_,_,_]) ?_
       refine LWo.move (e_int t5) rfl (hn := ?_)
       refine bk h fun x29 e29 h => ?_
       refine LWo.int _ rfl rfl (add_ck e29) (hn := ?_)
       refine LWo.assign (e_int x29) rfl (hn := ?_)
       refine LWo.nil (hN8 (t0, t1, x29) _ ⟨rfl, rfl, rfl, trivial⟩ trivial h)
     ·intro N14 hN14
      refine bk h fun x15 e15 h => ?_
      refine bk h fun x16 e16 h => ?_
      refine bS ((x15.Key != x16.Key)) (fun h17 => ?_) (fun h17 => ?_)
      ·have h := bT h17 h
       refine LWP.drawF (l := [_,_,_,_,_,_,_,_,_,_,_,_,_,_,_,_,_,_,_,_,_,_,_,_,_,_,_,_,_,_,_,_,_,_,_,_,_,_,_,_,_,_,_,_,_,_,_,_,_,_,_]) [] [0, 1, 5] [([0], []), ([5], []), ([17, 18], []), ([19], []), ([20], []), ([1], []), ([5], []), ([22, 23], []), ([24], []), ([25], []), ([21, 26], []), ([27], []), ([0, 28], []), ([5, 28], []), ([28, 29, 30], []), ([28, 31], []), ([28, 32], []), ([1, 28], []), ([5, 28], []), ([28, 34, 35], []), ([28, 36], []), ([28, 37], []), ([28, 33, 38], []), ([28, 39], []), ([40], []), ([0, 41], []), ([5, 41], []), ([41, 42, 43], []), ([41, 44], []), ([41, 45], []), ([1, 41], []), ([5, 41], []), ([41, 47, 48], []), ([41, 49], []), ([41, 50], []), ([41, 46, 51], []), ([41, 52], []), ([53], []), ([0, 54], []), ([5, 54], []), ([54, 55, 56], []), ([54, 57], []), ([54, 58], []), ([1, 54], []), ([5, 54], []), ([54, 60, 61], []), ([54, 62], []), ([54, 63], []), ([54, 59, 64], []), ([54, 65], []), ([54, 66], [])] [0, 1, 5, 67] [] mixed (by kernel_rfl) rfl (by decide) ?_
       refine dq 17 rfl (fun _ g u h => LWo.move (e_Limpl_Version t0) u.1 (hn := .nil (zn g))) ?_
       refine dq 18 rfl (fun _ g u h => LWo.move (e_int t5) u.1 (hn := .nil (zn g))) ?_
       refine dq 19 rfl (fun _ g u h => LWo.indexM (f := e_impl_Version) e15 u_Limpl_Version s_impl_Version u.1 u.2.1 (hn := .nil (zn g))) ?_
       refine dq 20 rfl (fun _ g u h => LWo.fieldAddr _ u_impl_Version rfl s_int u.1 rfl (hn := .nil (zn g))) ?_
       refine dq 21 rfl (fun _ g u h => LWo.load1 (c := (e_int x15.Key)) g_int u.1 (hn := .nil (zn g))) ?_
       refine dq 22 rfl (fun _ g u h => LWo.move (e_Limpl_Version t1) u.1 (hn := .nil (zn g))) ?_
       refine dq 23 rfl (fun _ g u h => LWo.move (e_int t5) u.1 (hn := .nil (zn g))) ?_
       refine dq 24 rfl (fun _ g u h => LWo.indexM (f := e_impl_Version) e16 u_Limpl_Version s_impl_Version u.1 u.2.1 (hn := .nil (zn g))) ?_
       refine dq 25 rfl (fun _ g u h => LWo.fieldAddr _ u_impl_Version rfl s_int u.1 rfl (hn := .nil (zn g))) ?_
       refine dq 26 rfl (fun _ g u h => LWo.load1 (c := (e_int x16.Key)) g_int u.1 (hn := .nil (zn g))) ?_
       refine dq 27 rfl (fun _ g u h => LWo.int _ u.1 u.2.1 rfl (hn := .nil (zn g))) ?_
       refine dq 28 rfl (fun _ g u h => LWo.move (e_bool (x15.Key != x16.Key)) u.1 (hn := .nil (zn g))) ?_
       refine dq 29 rfl (fun _ g u h => LWo.guardNU (t := 28) u.2.1 h17 rfl rfl rfl rfl rfl (.nil (zn g))) ?_
       refine dq 30 rfl (fun _ g u h => LWo.guardNU (t := 28) u.2.1 h17 rfl rfl rfl rfl rfl (.nil (zn g))) ?_
       refine dq 31 rfl (fun _ g u h => LWo.guardNU (t := 28) u.1 h17 rfl rfl rfl rfl rfl (.nil (zn g))) ?_
       refine dq 32 rfl (fun _ g u h => LWo.guardNU (t := 28) u.1 h17 rfl rfl rfl rfl rfl (.nil (zn g))) ?_
       refine dq 33 rfl (fun _ g u h => LWo.guardNU (t := 28) u.1 h17 rfl rfl rfl rfl rfl (.nil (zn g))) ?_
       refine dq 34 rfl (fun _ g u h => LWo.guardNU (t := 28) u.2.1 h17 rfl rfl rfl rfl rfl (.nil (zn g))) ?_
       refine dq 35 rfl (fun _ g u h => LWo.guardNU (t := 28) u.2.1 h17 rfl rfl rfl rfl rfl (.nil (zn g))) ?_
       refine dq 36 rfl (fun _ g u h => LWo.guardNU (t := 28) u.1 h17 rfl rfl rfl rfl rfl (.nil (zn g))) ?_
       refine dq 37 rfl (fun _ g u h => LWo.guardNU (t := 28) u.1 h17 rfl rfl rfl rfl rfl (.nil (zn g))) ?_
       refine dq 38 rfl (fun _ g u h => LWo.guardNU (t := 28) u.1 h17 rfl rfl rfl rfl rfl (.nil (zn g))) ?_
       refine dq 39 rfl (fun _ g u h => LWo.guardNU (t := 28) u.1 h17 rfl rfl rfl rfl rfl (.nil (zn g))) ?_
       refine dq 40 rfl (fun _ g u h => LWo.pickTM (e_bool true) u.1 h17 rfl (hn := .nil (zn g))) ?_
       refine dq 41 rfl (fun _ g u h => LWo.move (e_bool true) u.1 (hn := .nil (zn g))) ?_
       refine dq 42 rfl (fun _ g u h => LWo.guardNU (t := 41) u.2.1 rfl rfl rfl rfl rfl rfl (.nil (zn g))) ?_
       refine dq 43 rfl (fun _ g u h => LWo.guardNU (t := 41) u.2.1 rfl rfl rfl rfl rfl rfl (.nil (zn g))) ?_
       refine dq 44 rfl (fun _ g u h => LWo.guardNU (t := 41) u.1 rfl rfl rfl rfl rfl rfl (.nil (zn g))) ?_
       refine dq 45 rfl (fun _ g u h => LWo.guardNU (t := 41) u.1 rfl rfl rfl rfl rfl rfl (.nil (zn g))) ?_
       refine dq 46 rfl (fun _ g u h => LWo.guardNU (t := 41) u.1 rfl rfl rfl rfl rfl rfl (.nil (zn g))) ?_
       refine dq 47 rfl (fun _ g u h => LWo.guardNU (t := 41) u.2.1 rfl rfl rfl rfl rfl rfl (.nil (zn g))) ?_
       refine dq 48 rfl (fun _ g u h => LWo.guardNU (t := 41) u.2.1 rfl rfl rfl rfl rfl rfl (.nil (zn g))) ?_
       refine dq 49 rfl (fun _ g u h => LWo.guardNU (t := 41) u.1 rfl rfl rfl rfl rfl rfl (.nil (zn g))) ?_
       refine dq 50 rfl (fun _ g u h => LWo.guardNU (t := 41) u.1 rfl rfl rfl rfl rfl rfl (.nil (zn g))) ?_
       refine dq 51 rfl (fun _ g u h => LWo.guardNU (t := 41) u.1 rfl rfl rfl rfl rfl rfl (.nil (zn g))) ?_
       refine dq 52 rfl (fun _ g u h => LWo.guardNU (t := 41) u.1 rfl rfl rfl rfl rfl rfl (.nil (zn g))) ?_
       refine dq 53 rfl (fun _ g u h => LWo.pickTM (e_bool true) u.1 rfl rfl (hn := .nil (zn g))) ?_
       refine dq 54 rfl (fun _ g u h => LWo.move (e_bool true) u.1 (hn := .nil (zn g))) ?_
       refine dq 55 rfl (fun _ g u h => LWo.guardNU (t := 54) u.2.1 rfl rfl rfl rfl rfl rfl (.nil (zn g))) ?_
       refine dq 56 rfl (fun _ g u h => LWo.guardNU (t := 54) u.2.1 rfl rfl rfl rfl rfl rfl (.nil (zn g))) ?_
       refine dq 57 rfl (fun _ g u h => LWo.guardNU (t := 54) u.1 rfl rfl rfl rfl rfl rfl (.nil (zn g))) ?_
       refine dq 58 rfl (fun _ g u h => LWo.guardNU (t := 54) u.1 rfl rfl rfl rfl rfl rfl (.nil (zn g))) ?_
       refine dq 59 rfl (fun _ g u h => LWo.guardNU (t := 54) u.1 rfl rfl rfl rfl rfl rfl (.nil (zn g))) ?_
       refine dq 60 rfl (fun _ g u h => LWo.guardNU (t := 54) u.2.1 rfl rfl rfl rfl rfl rfl (.nil (zn g))) ?_
       refine dq 61 rfl (fun _ g u h => LWo.guardNU (t := 54) u.2.1 rfl rfl rfl rfl rfl rfl (.nil (zn g))) ?_
       refine dq 62 rfl (fun _ g u h => LWo.guardNU (t := 54) u.1 rfl rfl rfl rfl rfl rfl (.nil (zn g))) ?_
       refine dq 63 rfl (fun _ g u h => LWo.guardNU (t := 54) u.1 rfl rfl rfl rfl rfl rfl (.nil (zn g))) ?_
       refine dq 64 rfl (fun _ g u h => LWo.guardNU (t := 54) u.1 rfl rfl rfl rfl rfl rfl (.nil (zn g))) ?_
       refine dq 65 rfl (fun _ g u h => LWo.guardNU (t := 54) u.1 rfl rfl rfl rfl rfl rfl (.nil (zn g))) ?_
       refine dq 66 rfl (fun _ g u h => LWo.guardNU (t := 54) u.1 rfl rfl rfl rfl rfl rfl (.nil (zn g))) ?_
       refine dq 67 rfl (fun _ g u h => LWo.pickTM (e_bool true) u.1 rfl rfl (hn := .nil (zn g))) ?_
       refine ⟨rfl, by kernel_rfl, hN14 (t0, t1, t5, true) _ ⟨rfl, rfl, rfl, rfl, trivial⟩ trivial h⟩
      ·have h := bF h17 h
       refine bk h fun x18 e18 h => ?_
       refine bk h fun x19 e19 h => ?_
       refine bS ((x18.Born != x19.Born)) (fun h20 => ?_) (fun h20 => ?_)
       ·have h := bT h20 h
        refine LWP.drawF (l := [_,_,_,_,_,_,_,_,_,_,_,_,_,_,_,_,_,_,_,_,_,_,_,_,_,_,_,_,_,_,_,_,_,_,_,_,_,_,_,_,_,_,_,_,_,_,_,_,_,_,_]) [] [0, 1, 5] [([0], []), ([5], []), ([17, 18], []), ([19], []), ([20], []), ([1], []), ([5], []), ([22, 23], []), ([24], []), ([25], []), ([21, 26], []), ([27], []), ([0, 28], []), ([5, 28], []), ([28, 29, 30], []), ([28, 31], []), ([28, 32], []), ([1, 28], []), ([5, 28], []), ([28, 34, 35], []), ([28, 36], []), ([28, 37], []), ([28, 33, 38], []), ([28, 39], []), ([40], []), ([0, 41], []), ([5, 41], []), ([41, 42, 43], []), ([41, 44], []), ([41, 45], []), ([1, 41], []), ([5, 41], []), ([41, 47, 48], []), ([41, 49], []), ([41, 50], []), ([41, 46, 51], []), ([41, 52], []), ([53], []), ([0, 54], []), ([5, 54], []), ([54, 55, 56], []), ([54, 57], []), ([54, 58], []), ([1, 54], []), ([5, 54], []), ([54, 60, 61], []), ([54, 62], []), ([54, 63], []), ([54, 59, 64], []), ([54, 65], []), ([54, 66], [])] [0, 1, 5, 67] [] mixed (by kernel_rfl) rfl (by decide) ?_
        refine dq 17 rfl (fun _ g u h => LWo.move (e_Limpl_Version t0) u.1 (hn := .nil (zn g))) ?_
        refine dq 18 rfl (fun _ g u h => LWo.move (e_int t5) u.1 (hn := .nil (zn g))) ?_
        refine dq 19 rfl (fun _ g u h => LWo.indexM (f := e_impl_Version) e15 u_Limpl_Version s_impl_Version u.1 u.2.1 (hn := .nil (zn g))) ?_
        refine dq 20 rfl (fun _ g u h => LWo.fieldAddr _ u_impl_Version rfl s_int u.1 rfl (hn := .nil (zn g))) ?_
        refine dq 21 rfl (fun _ g u h => LWo.load1 (c := (e_int x15.Key)) g_int u.1 (hn := .nil (zn g))) ?_
        refine dq 22 rfl (fun _ g u h => LWo.move (e_Limpl_Version t1) u.1 (hn := .nil (zn g))) ?_
        refine dq 23 rfl (fun _ g u h => LWo.move (e_int t5) u.1 (hn := .nil (zn g))) ?_
        refine dq 24 rfl (fun _ g u h => LWo.indexM (f := e_impl_Version) e16 u_Limpl_Version s_impl_Version u.1 u.2.1 (hn := .nil (zn g))) ?_
        refine dq 25 rfl (fun _ g u h => LWo.fieldAddr _ u_impl_Version rfl s_int u.1 rfl (hn := .nil (zn g))) ?_
        refine dq 26 rfl (fun _ g u h => LWo.load1 (c := (e_int x16.Key)) g_int u.1 (hn := .nil (zn g))) ?_
        refine dq 27 rfl (fun _ g u h => LWo.int _ u.1 u.2.1 rfl (hn := .nil (zn g))) ?_
        refine dq 28 rfl (fun _ g u h => LWo.move (e_bool (x15.Key != x16.Key)) u.1 (hn := .nil (zn g))) ?_
        refine dq 29 rfl (fun _ g u h => LWo.guardY (t := 28) u.2.1 h17 rfl rfl (LWo.move (e_Limpl_Version t0) u.1 (hn := .nil (zn g)))) ?_
        refine dq 30 rfl (fun _ g u h => LWo.guardY (t := 28) u.2.1 h17 rfl rfl (LWo.move (e_int t5) u.1 (hn := .nil (zn g)))) ?_
        refine dq 31 rfl (fun _ g u h => LWo.guardY (t := 28) u.1 h17 rfl rfl (LWo.indexM (f := e_impl_Version) e18 u_Limpl_Version s_impl_Version u.2.1 u.2.2.1 (hn := .nil (zn g)))) ?_
        refine dq 32 rfl (fun _ g u h => LWo.guardY (t := 28) u.1 h17 rfl rfl (LWo.fieldAddr _ u_impl_Version rfl s_int u.2.1 rfl (hn := .nil (zn g)))) ?_
        refine dq 33 rfl (fun _ g u h => LWo.guardY (t := 28) u.1 h17 rfl rfl (LWo.load1 (c := (e_int x18.Born)) g_int u.2.1 (hn := .nil (zn g)))) ?_
        refine dq 34 rfl (fun _ g u h => LWo.guardY (t := 28) u.2.1 h17 rfl rfl (LWo.move (e_Limpl_Version t1) u.1 (hn := .nil (zn g)))) ?_
        refine dq 35 rfl (fun _ g u h => LWo.guardY (t := 28) u.2.1 h17 rfl rfl (LWo.move (e_int t5) u.1 (hn := .nil (zn g)))) ?_
        refine dq 36 rfl (fun _ g u h => LWo.guardY (t := 28) u.1 h17 rfl rfl (LWo.indexM (f := e_impl_Version) e19 u_Limpl_Version s_impl_Version u.2.1 u.2.2.1 (hn := .nil (zn g)))) ?_
        refine dq 37 rfl (fun _ g u h => LWo.guardY (t := 28) u.1 h17 rfl rfl (LWo.fieldAddr _ u_impl_Version rfl s_int u.2.1 rfl (hn := .nil (zn g)))) ?_
        refine dq 38 rfl (fun _ g u h => LWo.guardY (t := 28) u.1 h17 rfl rfl (LWo.load1 (c := (e_int x19.Born)) g_int u.2.1 (hn := .nil (zn g)))) ?_
        refine dq 39 rfl (fun _ g u h => LWo.guardY (t := 28) u.1 h17 rfl rfl (LWo.int _ u.2.1 u.2.2.1 rfl (hn := .nil (zn g)))) ?_
        refine dq 40 rfl (fun _ g u h => LWo.pickFM (e_bool (x18.Born != x19.Born)) u.1 h17 u.2.1 (hn := .nil (zn g))) ?_
        refine dq 41 rfl (fun _ g u h => LWo.move (e_bool (x18.Born != x19.Born)) u.1 (hn := .nil (zn g))) ?_
        refine dq 42 rfl (fun _ g u h => LWo.guardNU (t := 41) u.2.1 h20 rfl rfl rfl rfl rfl (.nil (zn g))) ?_
        refine dq 43 rfl (fun _ g u h => LWo.guardNU (t := 41) u.2.1 h20 rfl rfl rfl rfl rfl (.nil (zn g))) ?_
        refine dq 44 rfl (fun _ g u h => LWo.guardNU (t := 41) u.1 h20 rfl rfl rfl rfl rfl (.nil (zn g))) ?_
        refine dq 45 rfl (fun _ g u h => LWo.guardNU (t := 41) u.1 h20 rfl rfl rfl rfl rfl (.nil (zn g))) ?_
        refine dq 46 rfl (fun _ g u h => LWo.guardNU (t := 41) u.1 h20 rfl rfl rfl rfl rfl (.nil (zn g))) ?_
        refine dq 47 rfl (fun _ g u h => LWo.guardNU (t := 41) u.2.1 h20 rfl rfl rfl rfl rfl (.nil (zn g))) ?_
        refine dq 48 rfl (fun _ g u h => LWo.guardNU (t := 41) u.2.1 h20 rfl rfl rfl rfl rfl (.nil (zn g))) ?_
        refine dq 49 rfl (fun _ g u h => LWo.guardNU (t := 41) u.1 h20 rfl rfl rfl rfl rfl (.nil (zn g))) ?_
        refine dq 50 rfl (fun _ g u h => LWo.guardNU (t := 41) u.1 h20 rfl rfl rfl rfl rfl (.nil (zn g))) ?_
        refine dq 51 rfl (fun _ g u h => LWo.guardNU (t := 41) u.1 h20 rfl rfl rfl rfl rfl (.nil (zn g))) ?_
        refine dq 52 rfl (fun _ g u h => LWo.guardNU (t := 41) u.1 h20 rfl rfl rfl rfl rfl (.nil (zn g))) ?_
        refine dq 53 rfl (fun _ g u h => LWo.pickTM (e_bool true) u.1 h20 rfl (hn := .nil (zn g))) ?_
        refine dq 54 rfl (fun _ g u h => LWo.move (e_bool true) u.1 (hn := .nil (zn g))) ?_
        refine dq 55 rfl (fun _ g u h => LWo.guardNU (t := 54) u.2.1 rfl rfl rfl rfl rfl rfl (.nil (zn g))) ?_
        refine dq 56 rfl (fun _ g u h => LWo.guardNU (t := 54) u.2.1 rfl rfl rfl rfl rfl rfl (.nil (zn g))) ?_
        refine dq 57 rfl (fun _ g u h => LWo.guardNU (t := 54) u.1 rfl rfl rfl rfl rfl rfl (.nil (zn g))) ?_
        refine dq 58 rfl (fun _ g u h => LWo.guardNU (t := 54) u.1 rfl rfl rfl rfl rfl rfl (.nil (zn g))) ?_
        refine dq 59 rfl (fun _ g u h => LWo.guardNU (t := 54) u.1 rfl rfl rfl rfl rfl rfl (.nil (zn g))) ?_
        refine dq 60 rfl (fun _ g u h => LWo.guardNU (t := 54) u.2.1 rfl rfl rfl rfl rfl rfl (.nil (zn g))) ?_
        refine dq 61 rfl (fun _ g u h => LWo.guardNU (t := 54) u.2.1 rfl rfl rfl rfl rfl rfl (.nil (zn g))) ?_
        refine dq 62 rfl (fun _ g u h => LWo.guardNU (t := 54) u.1 rfl rfl rfl rfl rfl rfl (.nil (zn g))) ?_
        refine dq 63 rfl (fun _ g u h => LWo.guardNU (t := 54) u.1 rfl rfl rfl rfl rfl rfl (.nil (zn g))) ?_
        refine dq 64 rfl (fun _ g u h => LWo.guardNU (t := 54) u.1 rfl rfl rfl rfl rfl rfl (.nil (zn g))) ?_
        refine dq 65 rfl (fun _ g u h => LWo.guardNU (t := 54) u.1 rfl rfl rfl rfl rfl rfl (.nil (zn g))) ?_
        refine dq 66 rfl (fun _ g u h => LWo.guardNU (t := 54) u.1 rfl rfl rfl rfl rfl rfl (.nil (zn g))) ?_
        refine dq 67 rfl (fun _ g u h => LWo.pickTM (e_bool true) u.1 rfl rfl (hn := .nil (zn g))) ?_
        refine ⟨rfl, by kernel_rfl, hN14 (t0, t1, t5, true) _ ⟨rfl, rfl, rfl, rfl, trivial⟩ trivial h⟩
       ·have h := bF h20 h
        refine bk h fun x21 e21 h => ?_
        refine bk h fun x22 e22 h => ?_
        refine bS ((x21.Died != x22.Died)) (fun h23 => ?_) (fun h23 => ?_)
        ·have h := bT h23 h
         refine LWP.drawF (l := [_,_,_,_,_,_,_,_,_,_,_,_,_,_,_,_,_,_,_,_,_,_,_,_,_,_,_,_,_,_,_,_,_,_,_,_,_,_,_,_,_,_,_,_,_,_,_,_,_,_,_]) [] [0, 1, 5] [([0], []), ([5], []), ([17, 18], []), ([19], []), ([20], []), ([1], []), ([5], []), ([22, 23], []), ([24], []), ([25], []), ([21, 26], []), ([27], []), ([0, 28], []), ([5, 28], []), ([28, 29, 30], []), ([28, 31], []), ([28, 32], []), ([1, 28], []), ([5, 28], []), ([28, 34, 35], []), ([28, 36], []), ([28, 37], []), ([28, 33, 38], []), ([28, 39], []), ([40], []), ([0, 41], []), ([5, 41], []), ([41, 42, 43], []), ([41, 44], []), ([41, 45], []), ([1, 41], []), ([5, 41], []), ([41, 47, 48], []), ([41, 49], []), ([41, 50], []), ([41, 46, 51], []), ([41, 52], []), ([53], []), ([0, 54], []), ([5, 54], []), ([54, 55, 56], []), ([54, 57], []), ([54, 58], []), ([1, 54], []), ([5, 54], []), ([54, 60, 61], []), ([54, 62], []), ([54, 63], []), ([54, 59, 64], []), ([54, 65], []), ([54, 66], [])] [0, 1, 5, 67] [] mixed (by kernel_rfl) rfl (by decide) ?_
         refine dq 17 rfl (fun _ g u h => LWo.move (e_Limpl_Version t0) u.1 (hn := .nil (zn g))) ?_
         refine dq 18 rfl (fun _ g u h => LWo.move (e_int t5) u.1 (hn := .nil (zn g))) ?_
         refine dq 19 rfl (fun _ g u h => LWo.indexM (f := e_impl_Version) e15 u_Limpl_Version s_impl_Version u.1 u.2.1 (hn := .nil (zn g))) ?_
         refine dq 20 rfl (fun _ g u h => LWo.fieldAddr _ u_impl_Version rfl s_int u.1 rfl (hn := .nil (zn g))) ?_
         refine dq 21 rfl (fun _ g u h => LWo.load1 (c := (e_int x15.Key)) g_int u.1 (hn := .nil (zn g))) ?_
         refine dq 22 rfl (fun _ g u h => LWo.move (e_Limpl_Version t1) u.1 (hn := .nil (zn g))) ?_
         refine dq 23 rfl (fun _ g u h => LWo.move (e_int t5) u.1 (hn := .nil (zn g))) ?_
         refine dq 24 rfl (fun _ g u h => LWo.indexM (f := e_impl_Version) e16 u_Limpl_Version s_impl_Version u.1 u.2.1 (hn := .nil (zn g))) ?_
         refine dq 25 rfl (fun _ g u h => LWo.fieldAddr _ u_impl_Version rfl s_int u.1 rfl (hn := .nil (zn g))) ?_
         refine dq 26 rfl (fun _ g u h => LWo.load1 (c := (e_int x16.Key)) g_int u.1 (hn := .nil (zn g))) ?_
         refine dq 27 rfl (fun _ g u h => LWo.int _ u.1 u.2.1 rfl (hn := .nil (zn g))) ?_
         refine dq 28 rfl (fun _ g u h => LWo.move (e_bool (x15.Key != x16.Key)) u.1 (hn := .nil (zn g))) ?_
         refine dq 29 rfl (fun _ g u h => LWo.guardY (t := 28) u.2.1 h17 rfl rfl (LWo.move (e_Limpl_Version t0) u.1 (hn := .nil (zn g)))) ?_
         refine dq 30 rfl (fun _ g u h => LWo.guardY (t := 28) u.2.1 h17 rfl rfl (LWo.move (e_int t5) u.1 (hn := .nil (zn g)))) ?_
         refine dq 31 rfl (fun _ g u h => LWo.guardY (t := 28) u.1 h17 rfl rfl (LWo.indexM (f := e_impl_Version) e18 u_Limpl_Version s_impl_Version u.2.1 u.2.2.1 (hn := .nil (zn g)))) ?_
         refine dq 32 rfl (fun _ g u h => LWo.guardY (t := 28) u.1 h17 rfl rfl (LWo.fieldAddr _ u_impl_Version rfl s_int u.2.1 rfl (hn := .nil (zn g)))) ?_
         refine dq 33 rfl (fun _ g u h => LWo.guardY (t := 28) u.1 h17 rfl rfl (LWo.load1 (c := (e_int x18.Born)) g_int u.2.1 (hn := .nil (zn g)))) ?_
         refine dq 34 rfl (fun _ g u h => LWo.guardY (t := 28) u.2.1 h17 rfl rfl (LWo.move (e_Limpl_Version t1) u.1 (hn := .nil (zn g)))) ?_
         refine dq 35 rfl (fun _ g u h => LWo.guardY (t := 28) u.2.1 h17 rfl rfl (LWo.move (e_int t5) u.1 (hn := .nil (zn g)))) ?_
         refine dq 36 rfl (fun _ g u h => LWo.guardY (t := 28) u.1 h17 rfl rfl (LWo.indexM (f := e_impl_Version) e19 u_Limpl_Version s_impl_Version u.2.1 u.2.2.1 (hn := .nil (zn g)))) ?_
         refine dq 37 rfl (fun _ g u h => LWo.guardY (t := 28) u.1 h17 rfl rfl (LWo.fieldAddr _ u_impl_Version rfl s_int u.2.1 rfl (hn := .nil (zn g)))) ?_
         refine dq 38 rfl (fun _ g u h => LWo.guardY (t := 28) u.1 h17 rfl rfl (LWo.load1 (c := (e_int x19.Born)) g_int u.2.1 (hn := .nil (zn g)))) ?_
         refine dq 39 rfl (fun _ g u h => LWo.guardY (t := 28) u.1 h17 rfl rfl (LWo.int _ u.2.1 u.2.2.1 rfl (hn := .nil (zn g)))) ?_
         refine dq 40 rfl (fun _ g u h => LWo.pickFM (e_bool (x18.Born != x19.Born)) u.1 h17 u.2.1 (hn := .nil (zn g))) ?_
         refine dq 41 rfl (fun _ g u h => LWo.move (e_bool (x18.Born != x19.Born)) u.1 (hn := .nil (zn g))) ?_
         refine dq 42 rfl (fun _ g u h => LWo.guardY (t := 41) u.2.1 h20 rfl rfl (LWo.move (e_Limpl_Version t0) u.1 (hn := .nil (zn g)))) ?_
         refine dq 43 rfl (fun _ g u h => LWo.guardY (t := 41) u.2.1 h20 rfl rfl (LWo.move (e_int t5) u.1 (hn := .nil (zn g)))) ?_
         refine dq 44 rfl (fun _ g u h => LWo.guardY (t := 41) u.1 h20 rfl rfl (LWo.indexM (f := e_impl_Version) e21 u_Limpl_Version s_impl_Version u.2.1 u.2.2.1 (hn := .nil (zn g)))) ?_
         refine dq 45 rfl (fun _ g u h => LWo.guardY (t := 41) u.1 h20 rfl rfl (LWo.fieldAddr _ u_impl_Version rfl s_int u.2.1 rfl (hn := .nil (zn g)))) ?_
         refine dq 46 rfl (fun _ g u h => LWo.guardY (t := 41) u.1 h20 rfl rfl (LWo.load1 (c := (e_int x21.Died)) g_int u.2.1 (hn := .nil (zn g)))) ?_
         refine dq 47 rfl (fun _ g u h => LWo.guardY (t := 41) u.2.1 h20 rfl rfl (LWo.move (e_Limpl_Version t1) u.1 (hn := .nil (zn g)))) ?_
         refine dq 48 rfl (fun _ g u h => LWo.guardY (t := 41) u.2.1 h20 rfl rfl (LWo.move (e_int t5) u.1 (hn := .nil (zn g)))) ?_
         refine dq 49 rfl (fun _ g u h => LWo.guardY (t := 41) u.1 h20 rfl rfl (LWo.indexM (f := e_impl_Version) e22 u_Limpl_Version s_impl_Version u.2.1 u.2.2.1 (hn := .nil (zn g)))) ?_
         refine dq 50 rfl (fun _ g u h => LWo.guardY (t := 41) u.1 h20 rfl rfl (LWo.fieldAddr _ u_impl_Version rfl s_int u.2.1 rfl (hn := .nil (zn g)))) ?_
         refine dq 51 rfl (fun _ g u h => LWo.guardY (t := 41) u.1 h20 rfl rfl (LWo.load1 (c := (e_int x22.Died)) g_int u.2.1 (hn := .nil (zn g)))) ?_
         refine dq 52 rfl (fun _ g u h => LWo.guardY (t := 41) u.1 h20 rfl rfl (LWo.int _ u.2.1 u.2.2.1 rfl (hn := .nil (zn g)))) ?_
         refine dq 53 rfl (fun _ g u h => LWo.pickFM (e_bool (x21.Died != x22.Died)) u.1 h20 u.2.1 (hn := .nil (zn g))) ?_
         refine dq 54 rfl (fun _ g u h => LWo.move (e_bool (x21.Died != x22.Died)) u.1 (hn := .nil (zn g))) ?_
         refine dq 55 rfl (fun _ g u h => LWo.guardNU (t := 54) u.2.1 h23 rfl rfl rfl rfl rfl (.nil (zn g))) ?_
         refine dq 56 rfl (fun _ g u h => LWo.guardNU (t := 54) u.2.1 h23 rfl rfl rfl rfl rfl (.nil (zn g))) ?_
         refine dq 57 rfl (fun _ g u h => LWo.guardNU (t := 54) u.1 h23 rfl rfl rfl rfl rfl (.nil (zn g))) ?_
         refine dq 58 rfl (fun _ g u h => LWo.guardNU (t := 54) u.1 h23 rfl rfl rfl rfl rfl (.nil (zn g))) ?_
         refine dq 59 rfl (fun _ g u h => LWo.guardNU (t := 54) u.1 h23 rfl rfl rfl rfl rfl (.nil (zn g))) ?_
         refine dq 60 rfl (fun _ g u h => LWo.guardNU (t := 54) u.2.1 h23 rfl rfl rfl rfl rfl (.nil (zn g))) ?_
         refine dq 61 rfl (fun _ g u h => LWo.guardNU (t := 54) u.2.1 h23 rfl rfl rfl rfl rfl (.nil (zn g))) ?_
         refine dq 62 rfl (fun _ g u h => LWo.guardNU (t := 54) u.1 h23 rfl rfl rfl rfl rfl (.nil (zn g))) ?_
         refine dq 63 rfl (fun _ g u h => LWo.guardNU (t := 54) u.1 h23 rfl rfl rfl rfl rfl (.nil (zn g))) ?_
         refine dq 64 rfl (fun _ g u h => LWo.guardNU (t := 54) u.1 h23 rfl rfl rfl rfl rfl (.nil (zn g))) ?_
         refine dq 65 rfl (fun _ g u h => LWo.guardNU (t := 54) u.1 h23 rfl rfl rfl rfl rfl (.nil (zn g))) ?_
         refine dq 66 rfl (fun _ g u h => LWo.guardNU (t := 54) u.1 h23 rfl rfl rfl rfl rfl (.nil (zn g))) ?_
         refine dq 67 rfl (fun _ g u h => LWo.pickTM (e_bool true) u.1 h23 rfl (hn := .nil (zn g))) ?_
         refine ⟨rfl, by kernel_rfl, hN14 (t0, t1, t5, true) _ ⟨rfl, rfl, rfl, rfl, trivial⟩ trivial h⟩
        ·have h := bF h23 h
         refine bk h fun x24 e24 h => ?_
         refine bk h fun x25 e25 h => ?_
         refine bk h fun x26 e26 h => ?_
         refine LWP.drawF (l := [_,_,_,_,_,_,_,_,_,_,_,_,_,_,_,_,_,_,_,_,_,_,_,_,_,_,_,_,_,_,_,_,_,_,_,_,_,_,_,_,_,_,_,_,_,_,_,_,_,_,_]) [] [0, 1, 5] [([0], []), ([5], []), ([17, 18], []), ([19], []), ([20], []), ([1], []), ([5], []), ([22, 23], []), ([24], []), ([25], []), ([21, 26], []), ([27], []), ([0, 28], []), ([5, 28], []), ([28, 29, 30], []), ([28, 31], []), ([28, 32], []), ([1, 28], []), ([5, 28], []), ([28, 34, 35], []), ([28, 36], []), ([28, 37], []), ([28, 33, 38], []), ([28, 39], []), ([40], []), ([0, 41], []), ([5, 41], []), ([41, 42, 43], []), ([41, 44], []), ([41, 45], []), ([1, 41], []), ([5, 41], []), ([41, 47, 48], []), ([41, 49], []), ([41, 50], []), ([41, 46, 51], []), ([41, 52], []), ([53], []), ([0, 54], []), ([5, 54], []), ([54, 55, 56], []), ([54, 57], []), ([54, 58], []), ([1, 54], []), ([5, 54], []), ([54, 60, 61], []), ([54, 62], []), ([54, 63], []), ([54, 59, 64], []), ([54, 65], []), ([54, 66], [])] [0, 1, 5, 67] [] mixed (by kernel_rfl) rfl (by decide) ?_
         refine dq 17 rfl (fun _ g u h => LWo.move (e_Limpl_Version t0) u.1 (hn := .nil (zn g))) ?_
         refine dq 18 rfl (fun _ g u h => LWo.move (e_int t5) u.1 (hn := .nil (zn g))) ?_
         refine dq 19 rfl (fun _ g u h => LWo.indexM (f := e_impl_Version) e15 u_Limpl_Version s_impl_Version u.1 u.2.1 (hn := .nil (zn g))) ?_
         refine dq 20 rfl (fun _ g u h => LWo.fieldAddr _ u_impl_Version rfl s_int u.1 rfl (hn := .nil (zn g))) ?_
         refine dq 21 rfl (fun _ g u h => LWo.load1 (c := (e_int x15.Key)) g_int u.1 (hn := .nil (zn g))) ?_
         refine dq 22 rfl (fun _ g u h => LWo.move (e_Limpl_Version t1) u.1 (hn := .nil (zn g))) ?_
         refine dq 23 rfl (fun _ g u h => LWo.move (e_int t5) u.1 (hn := .nil (zn g))) ?_
         refine dq 24 rfl (fun _ g u h => LWo.indexM (f := e_impl_Version) e16 u_Limpl_Version s_impl_Version u.1 u.2.1 (hn := .nil (zn g))) ?_
         refine dq 25 rfl (fun _ g u h => LWo.fieldAddr _ u_impl_Version rfl s_int u.1 rfl (hn := .nil (zn g))) ?_
         refine dq 26 rfl (fun _ g u h => LWo.load1 (c := (e_int x16.Key)) g_int u.1 (hn := .nil (zn g))) ?_
         refine dq 27 rfl (fun _ g u h => LWo.int _ u.1 u.2.1 rfl (hn := .nil (zn g))) ?_
         refine dq 28 rfl (fun _ g u h => LWo.move (e_bool (x15.Key != x16.Key)) u.1 (hn := .nil (zn g))) ?_
         refine dq 29 rfl (fun _ g u h => LWo.guardY (t := 28) u.2.1 h17 rfl rfl (LWo.move (e_Limpl_Version t0) u.1 (hn := .nil (zn g)))) ?_
         refine dq 30 rfl (fun _ g u h => LWo.guardY (t := 28) u.2.1 h17 rfl rfl (LWo.move (e_int t5) u.1 (hn := .nil (zn g)))) ?_
         refine dq 31 rfl (fun _ g u h => LWo.guardY (t := 28) u.1 h17 rfl rfl (LWo.indexM (f := e_impl_Version) e18 u_Limpl_Version s_impl_Version u.2.1 u.2.2.1 (hn := .nil (zn g)))) ?_
         refine dq 32 rfl (fun _ g u h => LWo.guardY (t := 28) u.1 h17 rfl rfl (LWo.fieldAddr _ u_impl_Version rfl s_int u.2.1 rfl (hn := .nil (zn g)))) ?_
         refine dq 33 rfl (fun _ g u h => LWo.guardY (t := 28) u.1 h17 rfl rfl (LWo.load1 (c := (e_int x18.Born)) g_int u.2.1 (hn := .nil (zn g)))) ?_
         refine dq 34 rfl (fun _ g u h => LWo.guardY (t := 28) u.2.1 h17 rfl rfl (LWo.move (e_Limpl_Version t1) u.1 (hn := .nil (zn g)))) ?_
         refine dq 35 rfl (fun _ g u h => LWo.guardY (t := 28) u.2.1 h17 rfl rfl (LWo.move (e_int t5) u.1 (hn := .nil (zn g)))) ?_
         refine dq 36 rfl (fun _ g u h => LWo.guardY (t := 28) u.1 h17 rfl rfl (LWo.indexM (f := e_impl_Version) e19 u_Limpl_Version s_impl_Version u.2.1 u.2.2.1 (hn := .nil (zn g)))) ?_
         refine dq 37 rfl (fun _ g u h => LWo.guardY (t := 28) u.1 h17 rfl rfl (LWo.fieldAddr _ u_impl_Version rfl s_int u.2.1 rfl (hn := .nil (zn g)))) ?_
         refine dq 38 rfl (fun _ g u h => LWo.guardY (t := 28) u.1 h17 rfl rfl (LWo.load1 (c := (e_int x19.Born)) g_int u.2.1 (hn := .nil (zn g)))) ?_
         refine dq 39 rfl (fun _ g u h => LWo.guardY (t := 28) u.1 h17 rfl rfl (LWo.int _ u.2.1 u.2.2.1 rfl (hn := .nil (zn g)))) ?_
         refine dq 40 rfl (fun _ g u h => LWo.pickFM (e_bool (x18.Born != x19.Born)) u.1 h17 u.2.1 (hn := .nil (zn g))) ?_
         refine dq 41 rfl (fun _ g u h => LWo.move (e_bool (x18.Born != x19.Born)) u.1 (hn := .nil (zn g))) ?_
         refine dq 42 rfl (fun _ g u h => LWo.guardY (t := 41) u.2.1 h20 rfl rfl (LWo.move (e_Limpl_Version t0) u.1 (hn := .nil (zn g)))) ?_
         refine dq 43 rfl (fun _ g u h => LWo.guardY (t := 41) u.2.1 h20 rfl rfl (LWo.move (e_int t5) u.1 (hn := .nil (zn g)))) ?_
         refine dq 44 rfl (fun _ g u h => LWo.guardY (t := 41) u.1 h20 rfl rfl (LWo.indexM (f := e_impl_Version) e21 u_Limpl_Version s_impl_Version u.2.1 u.2.2.1 (hn := .nil (zn g)))) ?_
         refine dq 45 rfl (fun _ g u h => LWo.guardY (t := 41) u.1 h20 rfl rfl (LWo.fieldAddr _ u_impl_Version rfl s_int u.2.1 rfl (hn := .nil (zn g)))) ?_
         refine dq 46 rfl (fun _ g u h => LWo.guardY (t := 41) u.1 h20 rfl rfl (LWo.load1 (c := (e_int x21.Died)) g_int u.2.1 (hn := .nil (zn g)))) ?_
         refine dq 47 rfl (fun _ g u h => LWo.guardY (t := 41) u.2.1 h20 rfl rfl (LWo.move (e_Limpl_Version t1) u.1 (hn := .nil (zn g)))) ?_
         refine dq 48 rfl (fun _ g u h => LWo.guardY (t := 41) u.2.1 h20 rfl rfl (LWo.move (e_int t5) u.1 (hn := .nil (zn g)))) ?_
         refine dq 49 rfl (fun _ g u h => LWo.guardY (t := 41) u.1 h20 rfl rfl (LWo.indexM (f := e_impl_Version) e22 u_Limpl_Version s_impl_Version u.2.1 u.2.2.1 (hn := .nil (zn g)))) ?_
         refine dq 50 rfl (fun _ g u h => LWo.guardY (t := 41) u.1 h20 rfl rfl (LWo.fieldAddr _ u_impl_Version rfl s_int u.2.1 rfl (hn := .nil (zn g)))) ?_
         refine dq 51 rfl (fun _ g u h => LWo.guardY (t := 41) u.1 h20 rfl rfl (LWo.load1 (c := (e_int x22.Died)) g_int u.2.1 (hn := .nil (zn g)))) ?_
         refine dq 52 rfl (fun _ g u h => LWo.guardY (t := 41) u.1 h20 rfl rfl (LWo.int _ u.2.1 u.2.2.1 rfl (hn := .nil (zn g)))) ?_
         refine dq 53 rfl (fun _ g u h => LWo.pickFM (e_bool (x21.Died != x22.Died)) u.1 h20 u.2.1 (hn := .nil (zn g))) ?_
         refine dq 54 rfl (fun _ g u h => LWo.move (e_bool (x21.Died != x22.Died)) u.1 (hn := .nil (zn g))) ?_
         refine dq 55 rfl (fun _ g u h => LWo.guardY (t := 54) u.2.1 h23 rfl rfl (LWo.move (e_Limpl_Version t0) u.1 (hn := .nil (zn g)))) ?_
         refine dq 56 rfl (fun _ g u h => LWo.guardY (t := 54) u.2.1 h23 rfl rfl (LWo.move (e_int t5) u.1 (hn := .nil (zn g)))) ?_
         refine dq 57 rfl (fun _ g u h => LWo.guardY (t := 54) u.1 h23 rfl rfl (LWo.indexM (f := e_impl_Version) e24 u_Limpl_Version s_impl_Version u.2.1 u.2.2.1 (hn := .nil (zn g)))) ?_
         refine dq 58 rfl (fun _ g u h => LWo.guardY (t := 54) u.1 h23 rfl rfl (LWo.fieldAddr _ u_impl_Version rfl s_Limpl_Value u.2.1 rfl (hn := .nil (zn g)))) ?_
         refine dq 59 rfl (fun _ g u h => LWo.guardY (t := 54) u.1 h23 rfl rfl (LWo.load1 (c := (e_Limpl_Value x24.Row)) g_Limpl_Value u.2.1 (hn := .nil (zn g)))) ?_
         refine dq 60 rfl (fun _ g u h => LWo.guardY (t := 54) u.2.1 h23 rfl rfl (LWo.move (e_Limpl_Version t1) u.1 (hn := .nil (zn g)))) ?_
         refine dq 61 rfl (fun _ g u h => LWo.guardY (t := 54) u.2.1 h23 rfl rfl (LWo.move (e_int t5) u.1 (hn := .nil (zn g)))) ?_
         refine dq 62 rfl (fun _ g u h => LWo.guardY (t := 54) u.1 h23 rfl rfl (LWo.indexM (f := e_impl_Version) e25 u_Limpl_Version s_impl_Version u.2.1 u.2.2.1 (hn := .nil (zn g)))) ?_
         refine dq 63 rfl (fun _ g u h => LWo.guardY (t := 54) u.1 h23 rfl rfl (LWo.fieldAddr _ u_impl_Version rfl s_Limpl_Value u.2.1 rfl (hn := .nil (zn g)))) ?_
         refine dq 64 rfl (fun _ g u h => LWo.guardY (t := 54) u.1 h23 rfl rfl (LWo.load1 (c := (e_Limpl_Value x25.Row)) g_Limpl_Value u.2.1 (hn := .nil (zn g)))) ?_
         refine dq 65 rfl (fun _ g u h => LWo.guardY (t := 54) u.1 h23 rfl rfl (LWo.vcall rfl (av2 u.2.1 u.2.2.1) (c_laws_sameRow _ _ _ e26) (.same (.same (.nil))) (hn := .nil (zn g)))) ?_
         refine dq 66 rfl (fun _ g u h => LWo.guardY (t := 54) u.1 h23 rfl rfl (LWo.not u.2.1 (hn := .nil (zn g)))) ?_
         refine dq 67 rfl (fun _ g u h => LWo.pickFM (e_bool (!x26)) u.1 h23 u.2.1 (hn := .nil (zn g))) ?_
         refine ⟨rfl, by kernel_rfl, hN14 (t0, t1, t5, (!x26)) _ ⟨rfl, rfl, rfl, rfl, trivial⟩ trivial h⟩
    ·have h := bF h12 h
     refine LWP.exit (hN6 () _ trivial trivial h)
end Go.Proofs.Ytijihchddhikhaa
