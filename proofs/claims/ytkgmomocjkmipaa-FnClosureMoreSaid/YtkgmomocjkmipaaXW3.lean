/- Mirrors of functions, and that the functions return what the mirrors say. -/
import Derived.Test.YtkgmomocjkmipaaXW2
set_option linter.unusedVariables false
set_option linter.unusedSimpArgs false
set_option linter.unnecessarySimpa false
namespace Go.Proofs.Ytkgmomocjkmipaa
open Go.Proofs Go.Lift Go.RowKit
def m_spec_ClosureMore_j7 (t0 : (List S_impl_Pair)) (o1034 : (List S_impl_Pair)) : Option (List S_impl_Pair) :=
  (m_spec_l26With t0 o1034).bind fun x42 =>
  some x42
def m_spec_ClosureMore_j6 (k1 : (List S_impl_Pair) → S_impl_Pair → Int → (List S_impl_Pair) → Option (List S_impl_Pair)) (t0 : (List S_impl_Pair)) (t3 : S_impl_Pair) (t6 : Int) (o1034 : (List S_impl_Pair)) : Option (List S_impl_Pair) :=
  (ckI (t6 + (1 : Int))).bind fun x40 =>
  k1 t0 t3 x40 o1034
def m_spec_ClosureMore_j5 (k1 : (List S_impl_Pair) → S_impl_Pair → Int → (List S_impl_Pair) → Option (List S_impl_Pair)) (k2 : (List S_impl_Pair) → S_impl_Pair → Int → Int → (List S_impl_Pair) → Option (List S_impl_Pair)) (t0 : (List S_impl_Pair)) (t3 : S_impl_Pair) (t6 : Int) (t7 : Int) (o1034 : (List S_impl_Pair)) : Option (List S_impl_Pair) :=
  (ckI (t7 + (1 : Int))).bind fun x39 =>
  k2 t0 t3 t6 x39 o1034
def m_spec_ClosureMore_j4 (k1 : (List S_impl_Pair) → S_impl_Pair → Int → (List S_impl_Pair) → Option (List S_impl_Pair)) (k2 : (List S_impl_Pair) → S_impl_Pair → Int → Int → (List S_impl_Pair) → Option (List S_impl_Pair)) (t0 : (List S_impl_Pair)) (t3 : S_impl_Pair) (t6 : Int) (t7 : Int) (t70 : Bool) (o1034 : (List S_impl_Pair)) : Option (List S_impl_Pair) :=
  bif t70 then ((app? o1034 ([(⟨t6, t7⟩ : S_impl_Pair)] : (List S_impl_Pair))).bind fun x38 =>
    m_spec_ClosureMore_j5  k1 k2 t0 t3 t6 t7 x38)
  else (m_spec_ClosureMore_j5  k1 k2 t0 t3 t6 t7 o1034)
def m_spec_ClosureMore_j3 (k1 : (List S_impl_Pair) → S_impl_Pair → Int → (List S_impl_Pair) → Option (List S_impl_Pair)) (k2 : (List S_impl_Pair) → S_impl_Pair → Int → Int → (List S_impl_Pair) → Option (List S_impl_Pair)) (t0 : (List S_impl_Pair)) (t3 : S_impl_Pair) (t6 : Int) (t7 : Int) (t8 : Bool) (t9 : Bool) (o1034 : (List S_impl_Pair)) : Option (List S_impl_Pair) :=
  bif t8 then (m_spec_ClosureMore_j4  k1 k2 t0 t3 t6 t7 t9 o1034)
  else (m_spec_ClosureMore_j4  k1 k2 t0 t3 t6 t7 false o1034)
def m_spec_ClosureMore_j2 (k1 : (List S_impl_Pair) → S_impl_Pair → Int → (List S_impl_Pair) → Option (List S_impl_Pair)) (k2 : (List S_impl_Pair) → S_impl_Pair → Int → Int → (List S_impl_Pair) → Option (List S_impl_Pair)) (t0 : (List S_impl_Pair)) (t3 : S_impl_Pair) (t6 : Int) (t7 : Int) (t8 : Bool) (o1034 : (List S_impl_Pair)) : Option (List S_impl_Pair) :=
  bif (t7 == t3.To) then (m_spec_ClosureMore_j3  k1 k2 t0 t3 t6 t7 t8 true o1034)
  else ((m_spec_l26Has t0 (⟨t3.To, t7⟩ : S_impl_Pair)).bind fun x34 =>
    m_spec_ClosureMore_j3  k1 k2 t0 t3 t6 t7 t8 x34 o1034)
def m_spec_ClosureMore_l2 (k1 : (List S_impl_Pair) → S_impl_Pair → Int → (List S_impl_Pair) → Option (List S_impl_Pair)) : Nat → (List S_impl_Pair) → S_impl_Pair → Int → Int → (List S_impl_Pair) → Option (List S_impl_Pair)
  | 0, _, _, _, _, _ => none
  | n2 + 1, t0, t3, t6, t7, o1034 =>
    bif decide (t7 < (7 : Int)) then (bif (t6 == t3.From) then (m_spec_ClosureMore_j2  k1 (m_spec_ClosureMore_l2  k1 n2) t0 t3 t6 t7 true o1034)
    else ((m_spec_l26Has t0 (⟨t6, t3.From⟩ : S_impl_Pair)).bind fun x31 =>
      m_spec_ClosureMore_j2  k1 (m_spec_ClosureMore_l2  k1 n2) t0 t3 t6 t7 x31 o1034))
    else (m_spec_ClosureMore_j6  k1 t0 t3 t6 o1034)
def m_spec_ClosureMore_l1 : Nat → (List S_impl_Pair) → S_impl_Pair → Int → (List S_impl_Pair) → Option (List S_impl_Pair)
  | 0, _, _, _, _ => none
  | n1 + 1, t0, t3, t6, o1034 =>
    bif decide (t6 < (7 : Int)) then (m_spec_ClosureMore_l2  (m_spec_ClosureMore_l1  n1) (((7 : Int) - (0 : Int)).toNat + 1) t0 t3 t6 (0 : Int) o1034)
    else (m_spec_ClosureMore_j7  t0 o1034)
def m_spec_ClosureMore_j1 (t0 : (List S_impl_Pair)) (t3 : S_impl_Pair) (t32 : Bool) : Option (List S_impl_Pair) :=
  bif t32 then (some ([] : (List S_impl_Pair)))
  else (m_spec_ClosureMore_l1  (((7 : Int) - (0 : Int)).toNat + 1) t0 t3 (0 : Int) ([] : (List S_impl_Pair)))
def m_spec_ClosureMore (a0 : (List S_impl_Pair)) (a1 : S_impl_Pair) : Option (List S_impl_Pair) :=
  (m_spec_PairsOk a0).bind fun x4 =>
  bif (!x4) then (m_spec_ClosureMore_j1  a0 a1 true)
  else ((m_spec_ClosureOf a0).bind fun x6 =>
    bif ((x6.length : Int) != (a0.length : Int)) then (m_spec_ClosureMore_j1  a0 a1 true)
    else ((m_spec_l1In a1.From (0 : Int) (6 : Int)).bind fun x8 =>
      bif (!x8) then (m_spec_ClosureMore_j1  a0 a1 true)
      else ((m_spec_l1In a1.To (0 : Int) (6 : Int)).bind fun x10 =>
        m_spec_ClosureMore_j1  a0 a1 (!x10))))
theorem c_spec_ClosureMore (a0 : (List S_impl_Pair)) (a1 : S_impl_Pair) (r : (List S_impl_Pair)) (h : m_spec_ClosureMore a0 a1 = some r) : Ret Try.prog f_spec_ClosureMore [e_Limpl_Pair a0, e_impl_Pair a1] (.nw 2 (r.map e_impl_Pair) false) := by
  refine Does.goG [] F_spec_ClosureMore rfl e_spec_ClosureMore n_spec_ClosureMore rfl (rvs := [.tmp 4]) rfl rfl ?_
  intro w0 ok0 lent ρ0
  refine LWP.seq_k fun N1 hN1 => ?_
  refine LWP.region (l := [_,_]) ?_
  refine LWo.boxF (e_impl_Pair a1) rfl rfl rfl (hn := ?_)
  refine LWo.assign _ rfl (hn := ?_)
  refine LWo.ownNil 4 1004 2 rfl rfl rfl ?_
  refine LWo.known 4 (.own 1004 0 ([] : (List S_impl_Pair)).length) rfl ?_
  refine LWo.nil (hN1 _ ?_)
  refine LWP.seq_k fun N2 hN2 => ?_
  refine LWP.join (α := (List S_impl_Pair) × S_impl_Pair × Bool) (fun z : (List S_impl_Pair) × S_impl_Pair × Bool => [(0, (e_Limpl_Pair z.1)), (3, (.fp (e_impl_Pair z.2.1).cells)), (32, (e_bool z.2.2))]) (fun z : (List S_impl_Pair) × S_impl_Pair × Bool => []) (fun z : (List S_impl_Pair) × S_impl_Pair × Bool => m_spec_ClosureMore_j1  z.1 z.2.1 z.2.2) r (fun _ => by simp [hkeys]) ?_ ?_
  ·rintro ⟨t0, t3, t32⟩ h
   replace h : m_spec_ClosureMore_j1  t0 t3 t32 = some _ := h
   refine LWP.cond_split rfl (fun h11 => ?_) (fun h11 => ?_)
   ·have h := bT h11 h
    refine LWP.seq_k fun N12 hN12 => ?_
    refine LWP.region (l := [_,_]) ?_
    refine LWo.lit0 1033 u_Limpl_Pair s_impl_Pair z_impl_Pair (hn := ?_)
    refine LWo.known 33 (.own 1033 0 ([] : (List S_impl_Pair)).length) rfl ?_
    refine LWo.assign (.own 1033 0 (([] : (List S_impl_Pair))).length) rfl (hn := ?_)
    refine LWo.nil (hN12 _ ?_)
    obtain rfl := Option.some.inj h
    refine LWP.ret (QG.mk (.inr rfl) (.cons (.tmp (x := (.own 1033 0 (([] : (List S_impl_Pair))).length)) rfl) (.nil)) (RetOK.one0 (.nwM rfl rfl) (by decide)) rfl rfl)
   ·have h := bF h11 h
    refine LWP.skip (hN2 _ ?_)
    refine LWP.seq_k fun N13 hN13 => ?_
    refine LWP.region (l := [_,_]) ?_
    refine LWo.lit0 1034 u_Limpl_Pair s_impl_Pair z_impl_Pair (hn := ?_)
    refine LWo.known 34 (.own 1034 0 ([] : (List S_impl_Pair)).length) rfl ?_
    refine LWo.assign (.own 1034 0 (([] : (List S_impl_Pair))).length) rfl (hn := ?_)
    refine LWo.nil (hN13 _ ?_)
    refine LWP.join (α := (List S_impl_Pair) × (List S_impl_Pair)) (fun z : (List S_impl_Pair) × (List S_impl_Pair) => [(0, (e_Limpl_Pair z.1)), (5, (.own 1034 0 (z.2).length))]) (fun z : (List S_impl_Pair) × (List S_impl_Pair) => [(1034, (lob 2 e_impl_Pair z.2))]) (fun z : (List S_impl_Pair) × (List S_impl_Pair) => m_spec_ClosureMore_j7  z.1 z.2) r (fun _ => by simp [hkeys]) ?_ ?_
    ·rintro ⟨t0, o1034⟩ h
     replace h : m_spec_ClosureMore_j7  t0 o1034 = some _ := h
     refine LWP.seq_k fun N41 hN41 => ?_
     refine LWP.region (l := [_,_,_,_]) ?_
     refine LWo.move (e_Limpl_Pair t0) rfl (hn := ?_)
     refine LWo.move (.own 1034 0 (o1034).length) rfl (hn := ?_)
     refine bk h fun x42 e42 h => ?_
     refine LWo.frzL (f := e_impl_Pair) (l := o1034) [5, 78] 1034 rfl rfl ⟨rfl, rfl, trivial⟩ ?_
     refine LWo.ncall (e := e_impl_Pair) 1079 rfl rfl (c_spec_l26With _ _ _ e42) (.same (.same (.nil))) rfl (hn := ?_)
     refine LWo.assign (.own 1079 0 (x42).length) rfl (hn := ?_)
     refine LWo.nil (hN41 _ ?_)
     obtain rfl := Option.some.inj h
     refine LWP.ret (QG.mk (.inr rfl) (.cons (.tmp (x := (.own 1079 0 (x42).length)) rfl) (.nil)) (RetOK.one0 (.nwM rfl rfl) (by decide)) rfl rfl)
    ·intro N14 hN14
     refine LWP.seq_k fun N15 hN15 => ?_
     refine LWP.region (l := [_]) ?_
     refine LWo.assign (e_int (0 : Int)) rfl (hn := ?_)
     refine LWo.nil (hN15 _ ?_)
     refine LWP.block ?_
     refine LWP.loopM (α := (List S_impl_Pair) × S_impl_Pair × Int × (List S_impl_Pair)) (fun z : (List S_impl_Pair) × S_impl_Pair × Int × (List S_impl_Pair) => [(0, (e_Limpl_Pair z.1)), (3, (.fp (e_impl_Pair z.2.1).cells)), (5, (.own 1034 0 (z.2.2.2).length)), (6, (e_int z.2.2.1))]) (fun z : (List S_impl_Pair) × S_impl_Pair × Int × (List S_impl_Pair) => [(1034, (lob 2 e_impl_Pair z.2.2.2))]) (fun n1 (z : (List S_impl_Pair) × S_impl_Pair × Int × (List S_impl_Pair)) => m_spec_ClosureMore_l1  n1 z.1 z.2.1 z.2.2.1 z.2.2.2) r _ (t0, t3, (0 : Int), ([] : (List S_impl_Pair))) h (fun _ => rfl) (fun _ => by simp [hkeys]) ⟨rfl, rfl, rfl, rfl, trivial⟩ ⟨rfl, trivial⟩ ?_
     rintro n1 ⟨t0, t3, t6, o1034⟩ h N16 hN16
     replace h : m_spec_ClosureMore_l1  (n1 + 1) t0 t3 t6 o1034 = some _ := h
     refine LWP.seq_k fun N18 hN18 => ?_
     refine LWP.seq_k fun N19 hN19 => ?_
     refine LWP.region (l := [_,_]) ?_
     refine LWo.move (e_int t6) rfl (hn := ?_)
     refine LWo.int _ rfl rfl rfl (hn := ?_)
     refine LWo.nil (hN19 _ ?_)
     refine LWP.cond_split rfl (fun h20 => ?_) (fun h20 => ?_)
     ·have h := bT h20 h
      refine LWP.skip (hN18 _ ?_)
      refine LWP.join (α := (List S_impl_Pair) × S_impl_Pair × Int × (List S_impl_Pair)) (fun z : (List S_impl_Pair) × S_impl_Pair × Int × (List S_impl_Pair) => [(0, (e_Limpl_Pair z.1)), (3, (.fp (e_impl_Pair z.2.1).cells)), (5, (.own 1034 0 (z.2.2.2).length)), (6, (e_int z.2.2.1))]) (fun z : (List S_impl_Pair) × S_impl_Pair × Int × (List S_impl_Pair) => [(1034, (lob 2 e_impl_Pair z.2.2.2))]) (fun z : (List S_impl_Pair) × S_impl_Pair × Int × (List S_impl_Pair) => m_spec_ClosureMore_j6  (m_spec_ClosureMore_l1  n1) z.1 z.2.1 z.2.2.1 z.2.2.2) r (fun _ => by simp [hkeys]) ?_ ?_
      ·rintro ⟨t0, t3, t6, o1034⟩ h
       replace h : m_spec_ClosureMore_j6  (m_spec_ClosureMore_l1  n1) t0 t3 t6 o1034 = some _ := h
       refine LWP.region (l := [_,_,_]) ?_
       refine LWo.move (e_int t6) rfl (hn := ?_)
       refine bk h fun x40 e40 h => ?_
       refine LWo.int _ rfl rfl (add_ck e40) (hn := ?_)
       refine LWo.assign (e_int x40) rfl (hn := ?_)
       refine LWo.nil (hN16 (t0, t3, x40, o1034) _ ⟨rfl, rfl, rfl, rfl, trivial⟩ ⟨rfl, trivial⟩ h)
      ·intro N21 hN21
       refine LWP.block ?_
       refine LWP.seq_k fun N22 hN22 => ?_
       refine LWP.region (l := [_]) ?_
       refine LWo.assign (e_int (0 : Int)) rfl (hn := ?_)
       refine LWo.nil (hN22 _ ?_)
       refine LWP.block ?_
       refine LWP.loopM (α := (List S_impl_Pair) × S_impl_Pair × Int × Int × (List S_impl_Pair)) (fun z : (List S_impl_Pair) × S_impl_Pair × Int × Int × (List S_impl_Pair) => [(0, (e_Limpl_Pair z.1)), (3, (.fp (e_impl_Pair z.2.1).cells)), (5, (.own 1034 0 (z.2.2.2.2).length)), (6, (e_int z.2.2.1)), (7, (e_int z.2.2.2.1))]) (fun z : (List S_impl_Pair) × S_impl_Pair × Int × Int × (List S_impl_Pair) => [(1034, (lob 2 e_impl_Pair z.2.2.2.2))]) (fun n2 (z : (List S_impl_Pair) × S_impl_Pair × Int × Int × (List S_impl_Pair)) => m_spec_ClosureMore_l2  (m_spec_ClosureMore_l1  n1) n2 z.1 z.2.1 z.2.2.1 z.2.2.2.1 z.2.2.2.2) r _ (t0, t3, t6, (0 : Int), o1034) h (fun _ => rfl) (fun _ => by simp [hkeys]) ⟨rfl, rfl, rfl, rfl, rfl, trivial⟩ ⟨rfl, trivial⟩ ?_
       rintro n2 ⟨t0, t3, t6, t7, o1034⟩ h N23 hN23
       replace h : m_spec_ClosureMore_l2  (m_spec_ClosureMore_l1  n1) (n2 + 1) t0 t3 t6 t7 o1034 = some _ := h
       refine LWP.seq_k fun N25 hN25 => ?_
       refine LWP.seq_k fun N26 hN26 => ?_
       refine LWP.region (l := [_,_]) ?_
       refine LWo.move (e_int t7) rfl (hn := ?_)
       refine LWo.int _ rfl rfl rfl (hn := ?_)
       refine LWo.nil (hN26 _ ?_)
       refine LWP.cond_split rfl (fun h27 => ?_) (fun h27 => ?_)
       ·have h := bT h27 h
        refine LWP.skip (hN25 _ ?_)
        refine LWP.join (α := (List S_impl_Pair) × S_impl_Pair × Int × Int × (List S_impl_Pair)) (fun z : (List S_impl_Pair) × S_impl_Pair × Int × Int × (List S_impl_Pair) => [(0, (e_Limpl_Pair z.1)), (3, (.fp (e_impl_Pair z.2.1).cells)), (5, (.own 1034 0 (z.2.2.2.2).length)), (6, (e_int z.2.2.1)), (7, (e_int z.2.2.2.1))]) (fun z : (List S_impl_Pair) × S_impl_Pair × Int × Int × (List S_impl_Pair) => [(1034, (lob 2 e_impl_Pair z.2.2.2.2))]) (fun z : (List S_impl_Pair) × S_impl_Pair × Int × Int × (List S_impl_Pair) => m_spec_ClosureMore_j5  (m_spec_ClosureMore_l1  n1) (m_spec_ClosureMore_l2  (m_spec_ClosureMore_l1  n1) n2) z.1 z.2.1 z.2.2.1 z.2.2.2.1 z.2.2.2.2) r (fun _ => by simp [hkeys]) ?_ ?_
        ·rintro ⟨t0, t3, t6, t7, o1034⟩ h
         replace h : m_spec_ClosureMore_j5  (m_spec_ClosureMore_l1  n1) (m_spec_ClosureMore_l2  (m_spec_ClosureMore_l1  n1) n2) t0 t3 t6 t7 o1034 = some _ := h
         refine LWP.region (l := [_,_,_]) ?_
         refine LWo.move (e_int t7) rfl (hn := ?_)
         refine bk h fun x39 e39 h => ?_
         refine LWo.int _ rfl rfl (add_ck e39) (hn := ?_)
         refine LWo.assign (e_int x39) rfl (hn := ?_)
         refine LWo.nil (hN23 (t0, t3, t6, x39, o1034) _ ⟨rfl, rfl, rfl, rfl, rfl, trivial⟩ ⟨rfl, trivial⟩ h)
        ·intro N28 hN28
         refine LWP.block ?_
         refine LWP.join (α := (List S_impl_Pair) × S_impl_Pair × Int × Int × Bool × (List S_impl_Pair)) (fun z : (List S_impl_Pair) × S_impl_Pair × Int × Int × Bool × (List S_impl_Pair) => [(0, (e_Limpl_Pair z.1)), (3, (.fp (e_impl_Pair z.2.1).cells)), (5, (.own 1034 0 (z.2.2.2.2.2).length)), (6, (e_int z.2.2.1)), (7, (e_int z.2.2.2.1)), (8, (e_bool z.2.2.2.2.1))]) (fun z : (List S_impl_Pair) × S_impl_Pair × Int × Int × Bool × (List S_impl_Pair) => [(1034, (lob 2 e_impl_Pair z.2.2.2.2.2))]) (fun z : (List S_impl_Pair) × S_impl_Pair × Int × Int × Bool × (List S_impl_Pair) => m_spec_ClosureMore_j2  (m_spec_ClosureMore_l1  n1) (m_spec_ClosureMore_l2  (m_spec_ClosureMore_l1  n1) n2) z.1 z.2.1 z.2.2.1 z.2.2.2.1 z.2.2.2.2.1 z.2.2.2.2.2) r (fun _ => by simp [hkeys]) ?_ ?_
         ·rintro ⟨t0, t3, t6, t7, t8, o1034⟩ h
          replace h : m_spec_ClosureMore_j2  (m_spec_ClosureMore_l1  n1) (m_spec_ClosureMore_l2  (m_spec_ClosureMore_l1  n1) n2) t0 t3 t6 t7 t8 o1034 = some _ := h
          refine LWP.join (α := (List S_impl_Pair) × S_impl_Pair × Int × Int × Bool × Bool × (List S_impl_Pair)) (fun z : (List S_impl_Pair) × S_impl_Pair × Int × Int × Bool × Bool × (List S_impl_Pair) => [(0, (e_Limpl_Pair z.1)), (3, (.fp (e_impl_Pair z.2.1).cells)), (5, (.own 1034 0 (z.2.2.2.2.2.2).length)), (6, (e_int z.2.2.1)), (7, (e_int z.2.2.2.1)), (8, (e_bool z.2.2.2.2.1)), (9, (e_bool z.2.2.2.2.2.1))]) (fun z : (List S_impl_Pair) × S_impl_Pair × Int × Int × Bool × Bool × (List S_impl_Pair) => [(1034, (lob 2 e_impl_Pair z.2.2.2.2.2.2))]) (fun z : (List S_impl_Pair) × S_impl_Pair × Int × Int × Bool × Bool × (List S_impl_Pair) => m_spec_ClosureMore_j3  (m_spec_ClosureMore_l1  n1) (m_spec_ClosureMore_l2  (m_spec_ClosureMore_l1  n1) n2) z.1 z.2.1 z.2.2.1 z.2.2.2.1 z.2.2.2.2.1 z.2.2.2.2.2.1 z.2.2.2.2.2.2) r (fun _ => by simp [hkeys]) ?_ ?_
          ·rintro ⟨t0, t3, t6, t7, t8, t9, o1034⟩ h
           replace h : m_spec_ClosureMore_j3  (m_spec_ClosureMore_l1  n1) (m_spec_ClosureMore_l2  (m_spec_ClosureMore_l1  n1) n2) t0 t3 t6 t7 t8 t9 o1034 = some _ := h
           refine LWP.join (α := (List S_impl_Pair) × S_impl_Pair × Int × Int × Bool × (List S_impl_Pair)) (fun z : (List S_impl_Pair) × S_impl_Pair × Int × Int × Bool × (List S_impl_Pair) => [(0, (e_Limpl_Pair z.1)), (3, (.fp (e_impl_Pair z.2.1).cells)), (5, (.own 1034 0 (z.2.2.2.2.2).length)), (6, (e_int z.2.2.1)), (7, (e_int z.2.2.2.1)), (70, (e_bool z.2.2.2.2.1))]) (fun z : (List S_impl_Pair) × S_impl_Pair × Int × Int × Bool × (List S_impl_Pair) => [(1034, (lob 2 e_impl_Pair z.2.2.2.2.2))]) (fun z : (List S_impl_Pair) × S_impl_Pair × Int × Int × Bool × (List S_impl_Pair) => m_spec_ClosureMore_j4  (m_spec_ClosureMore_l1  n1) (m_spec_ClosureMore_l2  (m_spec_ClosureMore_l1  n1) n2) z.1 z.2.1 z.2.2.1 z.2.2.2.1 z.2.2.2.2.1 z.2.2.2.2.2) r (fun _ => by simp [hkeys]) ?_ ?_
           ·rintro ⟨t0, t3, t6, t7, t70, o1034⟩ h
            replace h : m_spec_ClosureMore_j4  (m_spec_ClosureMore_l1  n1) (m_spec_ClosureMore_l2  (m_spec_ClosureMore_l1  n1) n2) t0 t3 t6 t7 t70 o1034 = some _ := h
            refine LWP.cond_split rfl (fun h37 => ?_) (fun h37 => ?_)
            ·have h := bT h37 h
             refine LWP.region (l := [_,_,_,_,_,_,_]) ?_
             refine LWo.move (.own 1034 0 (o1034).length) rfl (hn := ?_)
             refine LWo.move (e_int t6) rfl (hn := ?_)
             refine LWo.move (e_int t7) rfl (hn := ?_)
             refine LWo.build_impl_Pair (parts := [_, _]) (⟨t6, t7⟩ : S_impl_Pair) rfl rfl rfl .refl (hn := ?_)
             refine LWo.lit (ops := [_]) [(e_impl_Pair (⟨t6, t7⟩ : S_impl_Pair))] u_Limpl_Pair s_impl_Pair z_impl_Pair rfl rfl rfl rfl rfl rfl (hn := ?_)
             refine bk h fun x38 e38 h => ?_
             refine LWo.appendM (f := e_impl_Pair) e38 rfl u_Limpl_Pair u_Limpl_Pair (fun _ h => by cases h) s_impl_Pair i_impl_Pair rfl rfl rfl (.sl rfl) rfl rfl (hn := ?_)
             refine LWo.assign (.own 1034 0 (x38).length) rfl (hn := ?_)
             refine LWo.nil (hN28 (t0, t3, t6, t7, x38) _ ⟨rfl, rfl, rfl, rfl, rfl, trivial⟩ ⟨rfl, trivial⟩ h)
            ·have h := bF h37 h
             refine LWP.skip (hN28 (t0, t3, t6, t7, o1034) _ ⟨rfl, rfl, rfl, rfl, rfl, trivial⟩ ⟨rfl, trivial⟩ h)
           ·intro N35 hN35
            refine LWP.region (l := [_,_,_,_]) ?_
            refine LWo.move (e_bool t8) rfl (hn := ?_)
            refine LWo.move (e_bool t8) rfl (hn := ?_)
            refine LWo.byCases (t := 68) _ rfl (fun h36 => ?_) (fun h36 => ?_)
            ·have h := bT h36 h
             refine LWo.guardY (t := 68) rfl h36 rfl rfl ?_
             refine LWo.move (e_bool t9) rfl (hn := ?_)
             refine LWo.pickTM (e_bool t9) rfl h36 rfl (hn := ?_)
             refine LWo.nil (hN35 (t0, t3, t6, t7, t9, o1034) _ ⟨rfl, rfl, rfl, rfl, rfl, rfl, trivial⟩ ⟨rfl, trivial⟩ h)
            ·have h := bF h36 h
             refine LWo.guardNU (t := 68) rfl h36 rfl rfl rfl rfl rfl ?_
             refine LWo.pickFM (e_bool false) rfl h36 rfl (hn := ?_)
             refine LWo.nil (hN35 (t0, t3, t6, t7, false, o1034) _ ⟨rfl, rfl, rfl, rfl, rfl, rfl, trivial⟩ ⟨rfl, trivial⟩ h)
          ·intro N32 hN32
           refine LWP.region (l := [_,_,_,_,_,_,_,_,_,_,_,_,_]) ?_
           refine LWo.move (e_int t7) rfl (hn := ?_)
           refine LWo.fieldAddr _ u_impl_Pair rfl s_int rfl rfl (hn := ?_)
           refine LWo.load1 (c := (e_int t3.To)) g_int rfl (hn := ?_)
           refine LWo.int _ rfl rfl rfl (hn := ?_)
           refine LWo.move (e_bool (t7 == t3.To)) rfl (hn := ?_)
           refine LWo.byCases (t := 59) _ rfl (fun h33 => ?_) (fun h33 => ?_)
           ·have h := bT h33 h
            refine LWo.guardNU (t := 59) rfl h33 rfl rfl rfl rfl rfl ?_
            refine LWo.guardNU (t := 59) rfl h33 rfl rfl rfl rfl rfl ?_
            refine LWo.guardNU (t := 59) rfl h33 rfl rfl rfl rfl rfl ?_
            refine LWo.guardNU (t := 59) rfl h33 rfl rfl rfl rfl rfl ?_
            refine LWo.guardNU (t := 59) rfl h33 rfl rfl rfl rfl rfl ?_
            refine LWo.guardNU (t := 59) rfl h33 rfl rfl rfl rfl rfl ?_
            refine LWo.pickTM (e_bool true) rfl h33 rfl (hn := ?_)
            refine LWo.assign (e_bool true) rfl (hn := ?_)
            refine LWo.nil (hN32 (t0, t3, t6, t7, t8, true, o1034) _ ⟨rfl, rfl, rfl, rfl, rfl, rfl, rfl, trivial⟩ ⟨rfl, trivial⟩ h)
           ·have h := bF h33 h
            refine LWo.guardY (t := 59) rfl h33 rfl rfl ?_
            refine LWo.move (e_Limpl_Pair t0) rfl (hn := ?_)
            refine LWo.guardY (t := 59) rfl h33 rfl rfl ?_
            refine LWo.fieldAddr _ u_impl_Pair rfl s_int rfl rfl (hn := ?_)
            refine LWo.guardY (t := 59) rfl h33 rfl rfl ?_
            refine LWo.load1 (c := (e_int t3.To)) g_int rfl (hn := ?_)
            refine LWo.guardY (t := 59) rfl h33 rfl rfl ?_
            refine LWo.move (e_int t7) rfl (hn := ?_)
            refine LWo.guardY (t := 59) rfl h33 rfl rfl ?_
            refine LWo.build_impl_Pair (parts := [_, _]) (⟨t3.To, t7⟩ : S_impl_Pair) rfl rfl rfl .refl (hn := ?_)
            refine bk h fun x34 e34 h => ?_
            refine LWo.guardY (t := 59) rfl h33 rfl rfl ?_
            refine LWo.vcall rfl rfl (c_spec_l26Has _ _ _ e34) (.same (.same (.nil))) (hn := ?_)
            refine LWo.pickFM (e_bool x34) rfl h33 rfl (hn := ?_)
            refine LWo.assign (e_bool x34) rfl (hn := ?_)
            refine LWo.nil (hN32 (t0, t3, t6, t7, t8, x34, o1034) _ ⟨rfl, rfl, rfl, rfl, rfl, rfl, rfl, trivial⟩ ⟨rfl, trivial⟩ h)
         ·intro N29 hN29
          refine LWP.region (l := [_,_,_,_,_,_,_,_,_,_,_,_,_]) ?_
          refine LWo.move (e_int t6) rfl (hn := ?_)
          refine LWo.fieldAddr _ u_impl_Pair rfl s_int rfl rfl (hn := ?_)
          refine LWo.load1 (c := (e_int t3.From)) g_int rfl (hn := ?_)
          refine LWo.int _ rfl rfl rfl (hn := ?_)
          refine LWo.move (e_bool (t6 == t3.From)) rfl (hn := ?_)
          refine LWo.byCases (t := 47) _ rfl (fun h30 => ?_) (fun h30 => ?_)
          ·have h := bT h30 h
           refine LWo.guardNU (t := 47) rfl h30 rfl rfl rfl rfl rfl ?_
           refine LWo.guardNU (t := 47) rfl h30 rfl rfl rfl rfl rfl ?_
           refine LWo.guardNU (t := 47) rfl h30 rfl rfl rfl rfl rfl ?_
           refine LWo.guardNU (t := 47) rfl h30 rfl rfl rfl rfl rfl ?_
           refine LWo.guardNU (t := 47) rfl h30 rfl rfl rfl rfl rfl ?_
           refine LWo.guardNU (t := 47) rfl h30 rfl rfl rfl rfl rfl ?_
           refine LWo.pickTM (e_bool true) rfl h30 rfl (hn := ?_)
           refine LWo.assign (e_bool true) rfl (hn := ?_)
           refine LWo.nil (hN29 (t0, t3, t6, t7, true, o1034) _ ⟨rfl, rfl, rfl, rfl, rfl, rfl, trivial⟩ ⟨rfl, trivial⟩ h)
          ·have h := bF h30 h
           refine LWo.guardY (t := 47) rfl h30 rfl rfl ?_
           refine LWo.move (e_Limpl_Pair t0) rfl (hn := ?_)
           refine LWo.guardY (t := 47) rfl h30 rfl rfl ?_
           refine LWo.move (e_int t6) rfl (hn := ?_)
           refine LWo.guardY (t := 47) rfl h30 rfl rfl ?_
           refine LWo.fieldAddr _ u_impl_Pair rfl s_int rfl rfl (hn := ?_)
           refine LWo.guardY (t := 47) rfl h30 rfl rfl ?_
           refine LWo.load1 (c := (e_int t3.From)) g_int rfl (hn := ?_)
           refine LWo.guardY (t := 47) rfl h30 rfl rfl ?_
           refine LWo.build_impl_Pair (parts := [_, _]) (⟨t6, t3.From⟩ : S_impl_Pair) rfl rfl rfl .refl (hn := ?_)
           refine bk h fun x31 e31 h => ?_
           refine LWo.guardY (t := 47) rfl h30 rfl rfl ?_
           refine LWo.vcall rfl rfl (c_spec_l26Has _ _ _ e31) (.same (.same (.nil))) (hn := ?_)
           refine LWo.pickFM (e_bool x31) rfl h30 rfl (hn := ?_)
           refine LWo.assign (e_bool x31) rfl (hn := ?_)
           refine LWo.nil (hN29 (t0, t3, t6, t7, x31, o1034) _ ⟨rfl, rfl, rfl, rfl, rfl, rfl, trivial⟩ ⟨rfl, trivial⟩ h)
       ·have h := bF h27 h
        refine LWP.exit (hN21 (t0, t3, t6, o1034) _ ⟨rfl, rfl, rfl, rfl, trivial⟩ ⟨rfl, trivial⟩ h)
     ·have h := bF h20 h
      refine LWP.exit (hN14 (t0, o1034) _ ⟨rfl, rfl, trivial⟩ ⟨rfl, trivial⟩ h)
  ·intro N3 hN3
   refine LWP.region (l := [_,_,_,_,_,_,_,_,_,_,_,_,_,_,_,_,_,_,_,_,_,_,_]) ?_
   refine LWo.move (e_Limpl_Pair a0) rfl (hn := ?_)
   refine bk h fun x4 e4 h => ?_
   refine LWo.vcall rfl rfl (c_spec_PairsOk _ _ e4) (.same (.nil)) (hn := ?_)
   refine LWo.not rfl (hn := ?_)
   refine LWo.move (e_bool (!x4)) rfl (hn := ?_)
   refine LWo.byCases (t := 13) _ rfl (fun h5 => ?_) (fun h5 => ?_)
   ·have h := bT h5 h
    refine LWo.guardNU (t := 13) rfl h5 rfl rfl rfl rfl rfl ?_
    refine LWo.guardNU (t := 13) rfl h5 rfl rfl rfl rfl rfl ?_
    refine LWo.guardNU (t := 13) rfl h5 rfl rfl rfl rfl rfl ?_
    refine LWo.guardNU (t := 13) rfl h5 rfl rfl rfl rfl rfl ?_
    refine LWo.guardNU (t := 13) rfl h5 rfl rfl rfl rfl rfl ?_
    refine LWo.guardNU (t := 13) rfl h5 rfl rfl rfl rfl rfl ?_
    refine LWo.pickTM (e_bool true) rfl h5 rfl (hn := ?_)
    refine LWo.move (e_bool true) rfl (hn := ?_)
    refine LWo.guardNU (t := 21) rfl rfl rfl rfl rfl rfl rfl ?_
    refine LWo.guardNU (t := 21) rfl rfl rfl rfl rfl rfl rfl ?_
    refine LWo.guardNU (t := 21) rfl rfl rfl rfl rfl rfl rfl ?_
    refine LWo.guardNU (t := 21) rfl rfl rfl rfl rfl rfl rfl ?_
    refine LWo.pickTM (e_bool true) rfl rfl rfl (hn := ?_)
    refine LWo.move (e_bool true) rfl (hn := ?_)
    refine LWo.guardNU (t := 27) rfl rfl rfl rfl rfl rfl rfl ?_
    refine LWo.guardNU (t := 27) rfl rfl rfl rfl rfl rfl rfl ?_
    refine LWo.guardNU (t := 27) rfl rfl rfl rfl rfl rfl rfl ?_
    refine LWo.guardNU (t := 27) rfl rfl rfl rfl rfl rfl rfl ?_
    refine LWo.pickTM (e_bool true) rfl rfl rfl (hn := ?_)
    refine LWo.nil (hN3 (a0, a1, true) _ ⟨rfl, rfl, rfl, trivial⟩ trivial h)
   ·have h := bF h5 h
    refine LWo.guardY (t := 13) rfl h5 rfl rfl ?_
    refine LWo.move (e_Limpl_Pair a0) rfl (hn := ?_)
    refine bk h fun x6 e6 h => ?_
    refine LWo.guardY (t := 13) rfl h5 rfl rfl ?_
    refine LWo.vcall rfl rfl (c_spec_ClosureOf _ _ e6) (.same (.nil)) (hn := ?_)
    refine LWo.guardY (t := 13) rfl h5 rfl rfl ?_
    refine LWo.lenM (f := e_impl_Pair) (l := x6) u_Limpl_Pair rfl (hn := ?_)
    refine LWo.guardY (t := 13) rfl h5 rfl rfl ?_
    refine LWo.move (e_Limpl_Pair a0) rfl (hn := ?_)
    refine LWo.guardY (t := 13) rfl h5 rfl rfl ?_
    refine LWo.lenM (f := e_impl_Pair) (l := a0) u_Limpl_Pair rfl (hn := ?_)
    refine LWo.guardY (t := 13) rfl h5 rfl rfl ?_
    refine LWo.int _ rfl rfl rfl (hn := ?_)
    refine LWo.pickFM (e_bool ((x6.length : Int) != (a0.length : Int))) rfl h5 rfl (hn := ?_)
    refine LWo.move (e_bool ((x6.length : Int) != (a0.length : Int))) rfl (hn := ?_)
    refine LWo.byCases (t := 21) _ rfl (fun h7 => ?_) (fun h7 => ?_)
    ·have h := bT h7 h
     refine LWo.guardNU (t := 21) rfl h7 rfl rfl rfl rfl rfl ?_
     refine LWo.guardNU (t := 21) rfl h7 rfl rfl rfl rfl rfl ?_
     refine LWo.guardNU (t := 21) rfl h7 rfl rfl rfl rfl rfl ?_
     refine LWo.guardNU (t := 21) rfl h7 rfl rfl rfl rfl rfl ?_
     refine LWo.pickTM (e_bool true) rfl h7 rfl (hn := ?_)
     refine LWo.move (e_bool true) rfl (hn := ?_)
     refine LWo.guardNU (t := 27) rfl rfl rfl rfl rfl rfl rfl ?_
     refine LWo.guardNU (t := 27) rfl rfl rfl rfl rfl rfl rfl ?_
     refine LWo.guardNU (t := 27) rfl rfl rfl rfl rfl rfl rfl ?_
     refine LWo.guardNU (t := 27) rfl rfl rfl rfl rfl rfl rfl ?_
     refine LWo.pickTM (e_bool true) rfl rfl rfl (hn := ?_)
     refine LWo.nil (hN3 (a0, a1, true) _ ⟨rfl, rfl, rfl, trivial⟩ trivial h)
    ·have h := bF h7 h
     refine LWo.guardY (t := 21) rfl h7 rfl rfl ?_
     refine LWo.fieldAddr _ u_impl_Pair rfl s_int rfl rfl (hn := ?_)
     refine LWo.guardY (t := 21) rfl h7 rfl rfl ?_
     refine LWo.load1 (c := (e_int a1.From)) g_int rfl (hn := ?_)
     refine bk h fun x8 e8 h => ?_
     refine LWo.guardY (t := 21) rfl h7 rfl rfl ?_
     refine LWo.vcall rfl rfl (c_spec_l1In _ _ _ _ e8) (.same (.same (.same (.nil)))) (hn := ?_)
     refine LWo.guardY (t := 21) rfl h7 rfl rfl ?_
     refine LWo.not rfl (hn := ?_)
     refine LWo.pickFM (e_bool (!x8)) rfl h7 rfl (hn := ?_)
     refine LWo.move (e_bool (!x8)) rfl (hn := ?_)
     refine LWo.byCases (t := 27) _ rfl (fun h9 => ?_) (fun h9 => ?_)
     ·have h := bT h9 h
      refine LWo.guardNU (t := 27) rfl h9 rfl rfl rfl rfl rfl ?_
      refine LWo.guardNU (t := 27) rfl h9 rfl rfl rfl rfl rfl ?_
      refine LWo.guardNU (t := 27) rfl h9 rfl rfl rfl rfl rfl ?_
      refine LWo.guardNU (t := 27) rfl h9 rfl rfl rfl rfl rfl ?_
      refine LWo.pickTM (e_bool true) rfl h9 rfl (hn := ?_)
      refine LWo.nil (hN3 (a0, a1, true) _ ⟨rfl, rfl, rfl, trivial⟩ trivial h)
     ·have h := bF h9 h
      refine LWo.guardY (t := 27) rfl h9 rfl rfl ?_
      refine LWo.fieldAddr _ u_impl_Pair rfl s_int rfl rfl (hn := ?_)
      refine LWo.guardY (t := 27) rfl h9 rfl rfl ?_
      refine LWo.load1 (c := (e_int a1.To)) g_int rfl (hn := ?_)
      refine bk h fun x10 e10 h => ?_
      refine LWo.guardY (t := 27) rfl h9 rfl rfl ?_
      refine LWo.vcall rfl rfl (c_spec_l1In _ _ _ _ e10) (.same (.same (.same (.nil)))) (hn := ?_)
      refine LWo.guardY (t := 27) rfl h9 rfl rfl ?_
      refine LWo.not rfl (hn := ?_)
      refine LWo.pickFM (e_bool (!x10)) rfl h9 rfl (hn := ?_)
      refine LWo.nil (hN3 (a0, a1, (!x10)) _ ⟨rfl, rfl, rfl, trivial⟩ trivial h)

def m_laws_samePairs_j1  : Option Bool :=
  some true
def m_laws_samePairs_l1 : Nat → (List S_impl_Pair) → (List S_impl_Pair) → Int → Option Bool
  | 0, _, _, _ => none
  | n1 + 1, t0, t1, t5 =>
    bif decide (t5 < (t0.length : Int)) then ((at? t0 t5).bind fun x15 =>
    (at? t1 t5).bind fun x16 =>
    bif (!(decide (x15 = x16))) then (some false)
    else ((ckI (t5 + (1 : Int))).bind fun x19 =>
    (m_laws_samePairs_l1  n1) t0 t1 x19))
    else (m_laws_samePairs_j1  )
def m_laws_samePairs (a0 : (List S_impl_Pair)) (a1 : (List S_impl_Pair)) : Option Bool :=
  bif ((a0.length : Int) != (a1.length : Int)) then (some false)
  else (m_laws_samePairs_l1  (((a0.length : Int) - (0 : Int)).toNat + 1) a0 a1 (0 : Int))
theorem c_laws_samePairs (a0 : (List S_impl_Pair)) (a1 : (List S_impl_Pair)) (r : Bool) (h : m_laws_samePairs a0 a1 = some r) : Ret Try.prog f_laws_samePairs [e_Limpl_Pair a0, e_Limpl_Pair a1] (e_bool r) := by
  refine Does.goG [] F_laws_samePairs rfl e_laws_samePairs n_laws_samePairs rfl (rvs := [.tmp 4]) rfl rfl ?_
  intro w0 ok0 lent ρ0
  refine LWP.seq_k fun N1 hN1 => ?_
  refine LWP.region (l := [_]) ?_
  refine LWo.assign (e_bool false) rfl (hn := ?_)
  refine LWo.nil (hN1 _ ?_)
  refine LWP.seq_k fun N2 hN2 => ?_
  refine LWP.seq_k fun N3 hN3 => ?_
  refine LWP.region (l := [_,_,_,_,_]) ?_
  refine LWo.move (e_Limpl_Pair a0) rfl (hn := ?_)
  refine LWo.lenM (f := e_impl_Pair) (l := a0) u_Limpl_Pair rfl (hn := ?_)
  refine LWo.move (e_Limpl_Pair a1) rfl (hn := ?_)
  refine LWo.lenM (f := e_impl_Pair) (l := a1) u_Limpl_Pair rfl (hn := ?_)
  refine LWo.int _ rfl rfl rfl (hn := ?_)
  refine LWo.nil (hN3 _ ?_)
  refine LWP.cond_split rfl (fun h4 => ?_) (fun h4 => ?_)
  ·have h := bT h4 h
   refine LWP.seq_k fun N5 hN5 => ?_
   refine LWP.region (l := [_]) ?_
   refine LWo.assign (e_bool false) rfl (hn := ?_)
   refine LWo.nil (hN5 _ ?_)
   obtain rfl := Option.some.inj h
   refine LWP.ret (QG.mk (.inr rfl) (.cons (.tmp (x := (e_bool false)) rfl) (.nil)) (RetOK.one0 (.pure rfl) (by decide)) rfl rfl)
  ·have h := bF h4 h
   refine LWP.skip (hN2 _ ?_)
   refine LWP.join (α := Unit) (fun z : Unit => []) (fun z : Unit => []) (fun z : Unit => m_laws_samePairs_j1  ) r (fun _ => by simp [hkeys]) ?_ ?_
   ·rintro _ h
    replace h : m_laws_samePairs_j1   = some _ := h
    refine LWP.seq_k fun N20 hN20 => ?_
    refine LWP.region (l := [_]) ?_
    refine LWo.assign (e_bool true) rfl (hn := ?_)
    refine LWo.nil (hN20 _ ?_)
    obtain rfl := Option.some.inj h
    refine LWP.ret (QG.mk (.inr rfl) (.cons (.tmp (x := (e_bool true)) rfl) (.nil)) (RetOK.one0 (.pure rfl) (by decide)) rfl rfl)
   ·intro N6 hN6
    refine LWP.seq_k fun N7 hN7 => ?_
    refine LWP.region (l := [_]) ?_
    refine LWo.assign (e_int (0 : Int)) rfl (hn := ?_)
    refine LWo.nil (hN7 _ ?_)
    refine LWP.block ?_
    refine LWP.loopM (α := (List S_impl_Pair) × (List S_impl_Pair) × Int) (fun z : (List S_impl_Pair) × (List S_impl_Pair) × Int => [(0, (e_Limpl_Pair z.1)), (1, (e_Limpl_Pair z.2.1)), (5, (e_int z.2.2))]) (fun z : (List S_impl_Pair) × (List S_impl_Pair) × Int => []) (fun n1 (z : (List S_impl_Pair) × (List S_impl_Pair) × Int) => m_laws_samePairs_l1  n1 z.1 z.2.1 z.2.2) r _ (a0, a1, (0 : Int)) h (fun _ => rfl) (fun _ => by simp [hkeys]) ⟨rfl, rfl, rfl, trivial⟩ trivial ?_
    rintro n1 ⟨t0, t1, t5⟩ h N8 hN8
    replace h : m_laws_samePairs_l1  (n1 + 1) t0 t1 t5 = some _ := h
    refine LWP.seq_k fun N10 hN10 => ?_
    refine LWP.seq_k fun N11 hN11 => ?_
    refine LWP.region (l := [_,_,_,_]) ?_
    refine LWo.move (e_int t5) rfl (hn := ?_)
    refine LWo.move (e_Limpl_Pair t0) rfl (hn := ?_)
    refine LWo.lenM (f := e_impl_Pair) (l := t0) u_Limpl_Pair rfl (hn := ?_)
    refine LWo.int _ rfl rfl rfl (hn := ?_)
    refine LWo.nil (hN11 _ ?_)
    refine LWP.cond_split rfl (fun h12 => ?_) (fun h12 => ?_)
    ·have h := bT h12 h
     refine LWP.skip (hN10 _ ?_)
     refine LWP.seq_k fun N13 hN13 => ?_
     refine LWP.block ?_
     refine LWP.seq_k fun N14 hN14 => ?_
     refine bk h fun x15 e15 h => ?_
     refine bk h fun x16 e16 h => ?_
     refine LWP.drawF (l := [_,_,_,_,_,_,_,_,_]) [] [0, 1, 5] [([0], []), ([5], []), ([17, 18], []), ([19], []), ([1], []), ([5], []), ([21, 22], []), ([23], []), ([20, 24], [])] [0, 1, 5, 25] [] mixed (by kernel_rfl) rfl (by decide) ?_
     refine dq 17 rfl (fun _ g u h => LWo.move (e_Limpl_Pair t0) u.1 (hn := .nil (zn g))) ?_
     refine dq 18 rfl (fun _ g u h => LWo.move (e_int t5) u.1 (hn := .nil (zn g))) ?_
     refine dq 19 rfl (fun _ g u h => LWo.indexM (f := e_impl_Pair) e15 u_Limpl_Pair s_impl_Pair u.1 u.2.1 (hn := .nil (zn g))) ?_
     refine dq 20 rfl (fun _ g u h => LWo.loadN ((e_impl_Pair x15)).cells g_impl_Pair s_impl_Pair u.1 (Nat.le_of_ble_eq_true rfl) rfl (hn := .nil (zn g))) ?_
     refine dq 21 rfl (fun _ g u h => LWo.move (e_Limpl_Pair t1) u.1 (hn := .nil (zn g))) ?_
     refine dq 22 rfl (fun _ g u h => LWo.move (e_int t5) u.1 (hn := .nil (zn g))) ?_
     refine dq 23 rfl (fun _ g u h => LWo.indexM (f := e_impl_Pair) e16 u_Limpl_Pair s_impl_Pair u.1 u.2.1 (hn := .nil (zn g))) ?_
     refine dq 24 rfl (fun _ g u h => LWo.loadN ((e_impl_Pair x16)).cells g_impl_Pair s_impl_Pair u.1 (Nat.le_of_ble_eq_true rfl) rfl (hn := .nil (zn g))) ?_
     refine dq 25 rfl (fun _ g u h => LWo.ne_impl_Pair _ _ u.1 u.2.1 (hn := .nil (zn g))) ?_
     refine ⟨rfl, by kernel_rfl, hN14 _ ?_⟩
     refine LWP.cond_split rfl (fun h17 => ?_) (fun h17 => ?_)
     ·have h := bT h17 h
      refine LWP.seq_k fun N18 hN18 => ?_
      refine LWP.region (l := [_]) ?_
      refine LWo.assign (e_bool false) rfl (hn := ?_)
      refine LWo.nil (hN18 _ ?_)
      obtain rfl := Option.some.inj h
      refine LWP.ret (QG.mk (.inr rfl) (.cons (.tmp (x := (e_bool false)) rfl) (.nil)) (RetOK.one0 (.pure rfl) (by decide)) rfl rfl)
     ·have h := bF h17 h
      refine LWP.skip (hN13 _ ?_)
      refine LWP.region (l := [_,_,_]) ?_
      refine LWo.move (e_int t5) rfl (hn := ?_)
      refine bk h fun x19 e19 h => ?_
      refine LWo.int _ rfl rfl (add_ck e19) (hn := ?_)
      refine LWo.assign (e_int x19) rfl (hn := ?_)
      refine LWo.nil (hN8 (t0, t1, x19) _ ⟨rfl, rfl, rfl, trivial⟩ trivial h)
    ·have h := bF h12 h
     refine LWP.exit (hN6 () _ trivial trivial h)

def m_impl_letters_j1  : Option Bool :=
  some true
def m_impl_letters_l1 : Nat → (List UInt8) → Int → Int → Option Bool
  | 0, _, _, _ => none
  | n1 + 1, t6, t7, t8 =>
    bif decide (t8 < t7) then ((at? t6 t8).bind fun x12 =>
    (m_impl_between (x12.toNat : Int) (97 : Int) (122 : Int)).bind fun x14 =>
    bif (!x14) then (some false)
    else ((ckI (t8 + (1 : Int))).bind fun x17 =>
    (m_impl_letters_l1  n1) t6 t7 x17))
    else (m_impl_letters_j1  )
def m_impl_letters (a0 : ByteArray) : Option Bool :=
  (sBytes? a0).bind fun x4 =>
  m_impl_letters_l1  (((x4.length : Int) - (0 : Int)).toNat + 1) x4 (x4.length : Int) (0 : Int)
theorem c_impl_letters (a0 : ByteArray) (r : Bool) (h : m_impl_letters a0 = some r) : Ret Try.prog f_impl_letters [e_string a0] (e_bool r) := by
  refine Does.goG [] F_impl_letters rfl e_impl_letters n_impl_letters rfl (rvs := [.tmp 2]) rfl rfl ?_
  intro w0 ok0 lent ρ0
  refine LWP.seq_k fun N1 hN1 => ?_
  refine LWP.region (l := [_]) ?_
  refine LWo.assign (e_bool false) rfl (hn := ?_)
  refine LWo.nil (hN1 _ ?_)
  refine LWP.join (α := Unit) (fun z : Unit => []) (fun z : Unit => []) (fun z : Unit => m_impl_letters_j1  ) r (fun _ => by simp [hkeys]) ?_ ?_
  ·rintro _ h
   replace h : m_impl_letters_j1   = some _ := h
   refine LWP.seq_k fun N18 hN18 => ?_
   refine LWP.region (l := [_]) ?_
   refine LWo.assign (e_bool true) rfl (hn := ?_)
   refine LWo.nil (hN18 _ ?_)
   obtain rfl := Option.some.inj h
   refine LWP.ret (QG.mk (.inr rfl) (.cons (.tmp (x := (e_bool true)) rfl) (.nil)) (RetOK.one0 (.pure rfl) (by decide)) rfl rfl)
  ·intro N2 hN2
   refine LWP.seq_k fun N3 hN3 => ?_
   refine LWP.region (l := [_,_,_,_]) ?_
   refine LWo.move (e_string a0) rfl (hn := ?_)
   refine bk h fun x4 e4 h => ?_
   refine LWo.bytesM e4 u_string u_Luint8 u_uint8 rfl (hn := ?_)
   refine LWo.lenM (f := e_uint8) (l := x4) u_Luint8 rfl (hn := ?_)
   refine LWo.move (e_int (0 : Int)) rfl (hn := ?_)
   refine LWo.nil (hN3 _ ?_)
   refine LWP.block ?_
   refine LWP.loopM (α := (List UInt8) × Int × Int) (fun z : (List UInt8) × Int × Int => [(6, (e_Luint8 z.1)), (7, (e_int z.2.1)), (8, (e_int z.2.2))]) (fun z : (List UInt8) × Int × Int => []) (fun n1 (z : (List UInt8) × Int × Int) => m_impl_letters_l1  n1 z.1 z.2.1 z.2.2) r _ (x4, (x4.length : Int), (0 : Int)) h (fun _ => rfl) (fun _ => by simp [hkeys]) ⟨rfl, rfl, rfl, trivial⟩ trivial ?_
   rintro n1 ⟨t6, t7, t8⟩ h N5 hN5
   replace h : m_impl_letters_l1  (n1 + 1) t6 t7 t8 = some _ := h
   refine LWP.seq_k fun N7 hN7 => ?_
   refine LWP.region (l := [_]) ?_
   refine LWo.int _ rfl rfl rfl (hn := ?_)
   refine LWo.nil (hN7 _ ?_)
   refine LWP.seq_k fun N8 hN8 => ?_
   refine LWP.cond_split rfl (fun h9 => ?_) (fun h9 => ?_)
   ·have h := bT h9 h
    refine LWP.skip (hN8 _ ?_)
    refine LWP.seq_k fun N10 hN10 => ?_
    refine LWP.block ?_
    refine LWP.seq_k fun N11 hN11 => ?_
    refine LWP.region (l := [_,_,_]) ?_
    refine bk h fun x12 e12 h => ?_
    refine LWo.indexM (f := e_uint8) e12 u_Luint8 s_uint8 rfl rfl (hn := ?_)
    refine LWo.load1 (c := (e_uint8 x12)) g_uint8 rfl (hn := ?_)
    refine LWo.assign (e_uint8 x12) rfl (hn := ?_)
    refine LWo.nil (hN11 _ ?_)
    refine LWP.seq_k fun N13 hN13 => ?_
    refine LWP.region (l := [_,_,_,_]) ?_
    refine LWo.move (e_uint8 x12) rfl (hn := ?_)
    refine LWo.convByte _ u_uint8 u_int rfl (hn := ?_)
    refine bk h fun x14 e14 h => ?_
    refine LWo.vcall rfl rfl (c_impl_between _ _ _ _ e14) (.same (.same (.same (.nil)))) (hn := ?_)
    refine LWo.not rfl (hn := ?_)
    refine LWo.nil (hN13 _ ?_)
    refine LWP.cond_split rfl (fun h15 => ?_) (fun h15 => ?_)
    ·have h := bT h15 h
     refine LWP.seq_k fun N16 hN16 => ?_
     refine LWP.region (l := [_]) ?_
     refine LWo.assign (e_bool false) rfl (hn := ?_)
     refine LWo.nil (hN16 _ ?_)
     obtain rfl := Option.some.inj h
     refine LWP.ret (QG.mk (.inr rfl) (.cons (.tmp (x := (e_bool false)) rfl) (.nil)) (RetOK.one0 (.pure rfl) (by decide)) rfl rfl)
    ·have h := bF h15 h
     refine LWP.skip (hN10 _ ?_)
     refine LWP.region (l := [_,_]) ?_
     refine bk h fun x17 e17 h => ?_
     refine LWo.int _ rfl rfl (add_ck e17) (hn := ?_)
     refine LWo.move (e_int x17) rfl (hn := ?_)
     refine LWo.nil (hN5 (t6, t7, x17) _ ⟨rfl, rfl, rfl, trivial⟩ trivial h)
   ·have h := bF h9 h
    refine LWP.exit (hN2 () _ trivial trivial h)

def m_impl_Value_ok_j1 (t2 : Bool) : Option Bool :=
  some t2
def m_impl_Value_ok_j2 (t2 : Bool) : Option Bool :=
  some t2
def m_impl_Value_ok_j3 (t2 : Bool) : Option Bool :=
  some t2
def m_impl_Value_ok (a0 : S_impl_Value) : Option Bool :=
  bif (a0.Kind == (0 : Int)) then (some (decide (a0 = (⟨(0 : Int), (0 : Int), (⟨#[]⟩ : ByteArray)⟩ : S_impl_Value))))
  else (bif (a0.Kind == (1 : Int)) then (bif (sEq a0.S (⟨#[]⟩ : ByteArray)) then ((m_impl_between a0.N (-9999 : Int) (9999 : Int)).bind fun x11 =>
        m_impl_Value_ok_j1  x11)
      else (m_impl_Value_ok_j1  false))
    else (bif (a0.Kind == (2 : Int)) then (bif (a0.N == (0 : Int)) then (bif decide ((a0.S.size : Int) ≤ (6 : Int)) then ((m_impl_letters a0.S).bind fun x17 =>
            m_impl_Value_ok_j2  x17)
          else (m_impl_Value_ok_j2  false))
        else (m_impl_Value_ok_j2  false))
      else (bif (a0.Kind == (3 : Int)) then (bif (sEq a0.S (⟨#[]⟩ : ByteArray)) then ((m_impl_between a0.N (0 : Int) (1 : Int)).bind fun x22 =>
            m_impl_Value_ok_j3  x22)
          else (m_impl_Value_ok_j3  false))
        else (some false))))
theorem c_impl_Value_ok (a0 : S_impl_Value) (r : Bool) (h : m_impl_Value_ok a0 = some r) : Ret Try.prog f_impl_Value_ok [e_impl_Value a0] (e_bool r) := by
  refine Does.goG [] F_impl_Value_ok rfl e_impl_Value_ok n_impl_Value_ok rfl (rvs := [.tmp 2]) rfl rfl ?_
  intro w0 ok0 lent ρ0
  refine LWP.seq_k fun N1 hN1 => ?_
  refine LWP.region (l := [_,_]) ?_
  refine LWo.boxF (e_impl_Value a0) rfl rfl rfl (hn := ?_)
  refine LWo.assign (e_bool false) rfl (hn := ?_)
  refine LWo.nil (hN1 _ ?_)
  refine LWP.seq_k fun N2 hN2 => ?_
  refine LWP.seq_k fun N3 hN3 => ?_
  refine LWP.region (l := [_,_]) ?_
  refine LWo.fieldAddr _ u_impl_Value rfl s_int rfl rfl (hn := ?_)
  refine LWo.load1 (c := (e_int a0.Kind)) g_int rfl (hn := ?_)
  refine LWo.nil (hN3 _ ?_)
  refine LWP.block ?_
  refine LWP.seq_k fun N4 hN4 => ?_
  refine LWP.region (l := [_,_]) ?_
  refine LWo.int _ rfl rfl rfl (hn := ?_)
  refine LWo.assign (e_bool (a0.Kind == (0 : Int))) rfl (hn := ?_)
  refine LWo.nil (hN4 _ ?_)
  refine LWP.cond_split rfl (fun h5 => ?_) (fun h5 => ?_)
  ·have h := bT h5 h
   refine LWP.seq_k fun N6 hN6 => ?_
   refine LWP.region (l := [_,_,_,_]) ?_
   refine LWo.loadN ((e_impl_Value a0)).cells g_impl_Value s_impl_Value rfl (Nat.le_of_ble_eq_true rfl) rfl (hn := ?_)
   refine LWo.build_impl_Value (parts := []) (⟨(0 : Int), (0 : Int), (⟨#[]⟩ : ByteArray)⟩ : S_impl_Value) rfl rfl rfl .refl (hn := ?_)
   refine LWo.eq_impl_Value _ _ rfl rfl (hn := ?_)
   refine LWo.assign (e_bool (decide (a0 = (⟨(0 : Int), (0 : Int), (⟨#[]⟩ : ByteArray)⟩ : S_impl_Value)))) rfl (hn := ?_)
   refine LWo.nil (hN6 _ ?_)
   obtain rfl := Option.some.inj h
   refine LWP.ret (QG.mk (.inr rfl) (.cons (.tmp (x := (e_bool (decide (a0 = (⟨(0 : Int), (0 : Int), (⟨#[]⟩ : ByteArray)⟩ : S_impl_Value))))) rfl) (.nil)) (RetOK.one0 (.pure rfl) (by decide)) rfl rfl)
  ·have h := bF h5 h
   refine LWP.seq_k fun N7 hN7 => ?_
   refine LWP.region (l := [_,_]) ?_
   refine LWo.int _ rfl rfl rfl (hn := ?_)
   refine LWo.assign (e_bool (a0.Kind == (1 : Int))) rfl (hn := ?_)
   refine LWo.nil (hN7 _ ?_)
   refine LWP.cond_split rfl (fun h8 => ?_) (fun h8 => ?_)
   ·have h := bT h8 h
    refine LWP.join (α := Bool) (fun z : Bool => [(2, (e_bool z))]) (fun z : Bool => []) (fun z : Bool => m_impl_Value_ok_j1  z) r (fun _ => by simp [hkeys]) ?_ ?_
    ·rintro t2 h
     replace h : m_impl_Value_ok_j1  t2 = some _ := h
     obtain rfl := Option.some.inj h
     refine LWP.ret (QG.mk (.inr rfl) (.cons (.tmp (x := (e_bool t2)) rfl) (.nil)) (RetOK.one0 (.pure rfl) (by decide)) rfl rfl)
    ·intro N9 hN9
     refine LWP.region (l := [_,_,_,_,_,_,_,_,_]) ?_
     refine LWo.fieldAddr _ u_impl_Value rfl s_string rfl rfl (hn := ?_)
     refine LWo.load1 (c := (e_string a0.S)) g_string rfl (hn := ?_)
     refine LWo.str _ rfl rfl rfl (hn := ?_)
     refine LWo.move (e_bool (sEq a0.S (⟨#[]⟩ : ByteArray))) rfl (hn := ?_)
     refine LWo.byCases (t := 15) _ rfl (fun h10 => ?_) (fun h10 => ?_)
     ·have h := bT h10 h
      refine LWo.guardY (t := 15) rfl h10 rfl rfl ?_
      refine LWo.fieldAddr _ u_impl_Value rfl s_int rfl rfl (hn := ?_)
      refine LWo.guardY (t := 15) rfl h10 rfl rfl ?_
      refine LWo.load1 (c := (e_int a0.N)) g_int rfl (hn := ?_)
      refine bk h fun x11 e11 h => ?_
      refine LWo.guardY (t := 15) rfl h10 rfl rfl ?_
      refine LWo.vcall rfl rfl (c_impl_between _ _ _ _ e11) (.same (.same (.same (.nil)))) (hn := ?_)
      refine LWo.pickTM (e_bool x11) rfl h10 rfl (hn := ?_)
      refine LWo.assign (e_bool x11) rfl (hn := ?_)
      refine LWo.nil (hN9 x11 _ ⟨rfl, trivial⟩ trivial h)
     ·have h := bF h10 h
      refine LWo.guardNU (t := 15) rfl h10 rfl rfl rfl rfl rfl ?_
      refine LWo.guardNU (t := 15) rfl h10 rfl rfl rfl rfl rfl ?_
      refine LWo.guardNU (t := 15) rfl h10 rfl rfl rfl rfl rfl ?_
      refine LWo.pickFM (e_bool false) rfl h10 rfl (hn := ?_)
      refine LWo.assign (e_bool false) rfl (hn := ?_)
      refine LWo.nil (hN9 false _ ⟨rfl, trivial⟩ trivial h)
   ·have h := bF h8 h
    refine LWP.seq_k fun N12 hN12 => ?_
    refine LWP.region (l := [_,_]) ?_
    refine LWo.int _ rfl rfl rfl (hn := ?_)
    refine LWo.assign (e_bool (a0.Kind == (2 : Int))) rfl (hn := ?_)
    refine LWo.nil (hN12 _ ?_)
    refine LWP.cond_split rfl (fun h13 => ?_) (fun h13 => ?_)
    ·have h := bT h13 h
     refine LWP.join (α := Bool) (fun z : Bool => [(2, (e_bool z))]) (fun z : Bool => []) (fun z : Bool => m_impl_Value_ok_j2  z) r (fun _ => by simp [hkeys]) ?_ ?_
     ·rintro t2 h
      replace h : m_impl_Value_ok_j2  t2 = some _ := h
      obtain rfl := Option.some.inj h
      refine LWP.ret (QG.mk (.inr rfl) (.cons (.tmp (x := (e_bool t2)) rfl) (.nil)) (RetOK.one0 (.pure rfl) (by decide)) rfl rfl)
     ·intro N14 hN14
      refine LWP.region (l := [_,_,_,_,_,_,_,_,_,_,_,_,_,_,_]) ?_
      refine LWo.fieldAddr _ u_impl_Value rfl s_int rfl rfl (hn := ?_)
      refine LWo.load1 (c := (e_int a0.N)) g_int rfl (hn := ?_)
      refine LWo.int _ rfl rfl rfl (hn := ?_)
      refine LWo.move (e_bool (a0.N == (0 : Int))) rfl (hn := ?_)
      refine LWo.byCases (t := 25) _ rfl (fun h15 => ?_) (fun h15 => ?_)
      ·have h := bT h15 h
       refine LWo.guardY (t := 25) rfl h15 rfl rfl ?_
       refine LWo.fieldAddr _ u_impl_Value rfl s_string rfl rfl (hn := ?_)
       refine LWo.guardY (t := 25) rfl h15 rfl rfl ?_
       refine LWo.load1 (c := (e_string a0.S)) g_string rfl (hn := ?_)
       refine LWo.guardY (t := 25) rfl h15 rfl rfl ?_
       refine LWo.lenS u_string rfl (hn := ?_)
       refine LWo.guardY (t := 25) rfl h15 rfl rfl ?_
       refine LWo.int _ rfl rfl rfl (hn := ?_)
       refine LWo.pickTM (e_bool (decide ((a0.S.size : Int) ≤ (6 : Int)))) rfl h15 rfl (hn := ?_)
       refine LWo.move (e_bool (decide ((a0.S.size : Int) ≤ (6 : Int)))) rfl (hn := ?_)
       refine LWo.byCases (t := 31) _ rfl (fun h16 => ?_) (fun h16 => ?_)
       ·have h := bT h16 h
        refine LWo.guardY (t := 31) rfl h16 rfl rfl ?_
        refine LWo.fieldAddr _ u_impl_Value rfl s_string rfl rfl (hn := ?_)
        refine LWo.guardY (t := 31) rfl h16 rfl rfl ?_
        refine LWo.load1 (c := (e_string a0.S)) g_string rfl (hn := ?_)
        refine bk h fun x17 e17 h => ?_
        refine LWo.guardY (t := 31) rfl h16 rfl rfl ?_
        refine LWo.vcall rfl rfl (c_impl_letters _ _ e17) (.same (.nil)) (hn := ?_)
        refine LWo.pickTM (e_bool x17) rfl h16 rfl (hn := ?_)
        refine LWo.assign (e_bool x17) rfl (hn := ?_)
        refine LWo.nil (hN14 x17 _ ⟨rfl, trivial⟩ trivial h)
       ·have h := bF h16 h
        refine LWo.guardNU (t := 31) rfl h16 rfl rfl rfl rfl rfl ?_
        refine LWo.guardNU (t := 31) rfl h16 rfl rfl rfl rfl rfl ?_
        refine LWo.guardNU (t := 31) rfl h16 rfl rfl rfl rfl rfl ?_
        refine LWo.pickFM (e_bool false) rfl h16 rfl (hn := ?_)
        refine LWo.assign (e_bool false) rfl (hn := ?_)
        refine LWo.nil (hN14 false _ ⟨rfl, trivial⟩ trivial h)
      ·have h := bF h15 h
       refine LWo.guardNU (t := 25) rfl h15 rfl rfl rfl rfl rfl ?_
       refine LWo.guardNU (t := 25) rfl h15 rfl rfl rfl rfl rfl ?_
       refine LWo.guardNU (t := 25) rfl h15 rfl rfl rfl rfl rfl ?_
       refine LWo.guardNU (t := 25) rfl h15 rfl rfl rfl rfl rfl ?_
       refine LWo.pickFM (e_bool false) rfl h15 rfl (hn := ?_)
       refine LWo.move (e_bool false) rfl (hn := ?_)
       refine LWo.guardNU (t := 31) rfl rfl rfl rfl rfl rfl rfl ?_
       refine LWo.guardNU (t := 31) rfl rfl rfl rfl rfl rfl rfl ?_
       refine LWo.guardNU (t := 31) rfl rfl rfl rfl rfl rfl rfl ?_
       refine LWo.pickFM (e_bool false) rfl rfl rfl (hn := ?_)
       refine LWo.assign (e_bool false) rfl (hn := ?_)
       refine LWo.nil (hN14 false _ ⟨rfl, trivial⟩ trivial h)
    ·have h := bF h13 h
     refine LWP.seq_k fun N18 hN18 => ?_
     refine LWP.region (l := [_,_]) ?_
     refine LWo.int _ rfl rfl rfl (hn := ?_)
     refine LWo.assign (e_bool (a0.Kind == (3 : Int))) rfl (hn := ?_)
     refine LWo.nil (hN18 _ ?_)
     refine LWP.cond_split rfl (fun h19 => ?_) (fun h19 => ?_)
     ·have h := bT h19 h
      refine LWP.join (α := Bool) (fun z : Bool => [(2, (e_bool z))]) (fun z : Bool => []) (fun z : Bool => m_impl_Value_ok_j3  z) r (fun _ => by simp [hkeys]) ?_ ?_
      ·rintro t2 h
       replace h : m_impl_Value_ok_j3  t2 = some _ := h
       obtain rfl := Option.some.inj h
       refine LWP.ret (QG.mk (.inr rfl) (.cons (.tmp (x := (e_bool t2)) rfl) (.nil)) (RetOK.one0 (.pure rfl) (by decide)) rfl rfl)
      ·intro N20 hN20
       refine LWP.region (l := [_,_,_,_,_,_,_,_,_]) ?_
       refine LWo.fieldAddr _ u_impl_Value rfl s_string rfl rfl (hn := ?_)
       refine LWo.load1 (c := (e_string a0.S)) g_string rfl (hn := ?_)
       refine LWo.str _ rfl rfl rfl (hn := ?_)
       refine LWo.move (e_bool (sEq a0.S (⟨#[]⟩ : ByteArray))) rfl (hn := ?_)
       refine LWo.byCases (t := 41) _ rfl (fun h21 => ?_) (fun h21 => ?_)
       ·have h := bT h21 h
        refine LWo.guardY (t := 41) rfl h21 rfl rfl ?_
        refine LWo.fieldAddr _ u_impl_Value rfl s_int rfl rfl (hn := ?_)
        refine LWo.guardY (t := 41) rfl h21 rfl rfl ?_
        refine LWo.load1 (c := (e_int a0.N)) g_int rfl (hn := ?_)
        refine bk h fun x22 e22 h => ?_
        refine LWo.guardY (t := 41) rfl h21 rfl rfl ?_
        refine LWo.vcall rfl rfl (c_impl_between _ _ _ _ e22) (.same (.same (.same (.nil)))) (hn := ?_)
        refine LWo.pickTM (e_bool x22) rfl h21 rfl (hn := ?_)
        refine LWo.assign (e_bool x22) rfl (hn := ?_)
        refine LWo.nil (hN20 x22 _ ⟨rfl, trivial⟩ trivial h)
       ·have h := bF h21 h
        refine LWo.guardNU (t := 41) rfl h21 rfl rfl rfl rfl rfl ?_
        refine LWo.guardNU (t := 41) rfl h21 rfl rfl rfl rfl rfl ?_
        refine LWo.guardNU (t := 41) rfl h21 rfl rfl rfl rfl rfl ?_
        refine LWo.pickFM (e_bool false) rfl h21 rfl (hn := ?_)
        refine LWo.assign (e_bool false) rfl (hn := ?_)
        refine LWo.nil (hN20 false _ ⟨rfl, trivial⟩ trivial h)
     ·have h := bF h19 h
      refine LWP.skip (hN2 _ ?_)
      refine LWP.seq_k fun N23 hN23 => ?_
      refine LWP.region (l := [_]) ?_
      refine LWo.assign (e_bool false) rfl (hn := ?_)
      refine LWo.nil (hN23 _ ?_)
      obtain rfl := Option.some.inj h
      refine LWP.ret (QG.mk (.inr rfl) (.cons (.tmp (x := (e_bool false)) rfl) (.nil)) (RetOK.one0 (.pure rfl) (by decide)) rfl rfl)

def m_impl_ValueOk (a0 : S_impl_Value) : Option Bool :=
  (m_impl_Value_ok a0).bind fun x3 =>
  some x3
theorem c_impl_ValueOk (a0 : S_impl_Value) (r : Bool) (h : m_impl_ValueOk a0 = some r) : Ret Try.prog f_impl_ValueOk [e_impl_Value a0] (e_bool r) := by
  refine Does.goG [] F_impl_ValueOk rfl e_impl_ValueOk n_impl_ValueOk rfl (rvs := [.tmp 2]) rfl rfl ?_
  intro w0 ok0 lent ρ0
  refine LWP.seq_k fun N1 hN1 => ?_
  refine LWP.region (l := [_,_]) ?_
  refine LWo.boxF (e_impl_Value a0) rfl rfl rfl (hn := ?_)
  refine LWo.assign (e_bool false) rfl (hn := ?_)
  refine LWo.nil (hN1 _ ?_)
  refine LWP.seq_k fun N2 hN2 => ?_
  refine LWP.region (l := [_,_,_]) ?_
  refine LWo.loadN ((e_impl_Value a0)).cells g_impl_Value s_impl_Value rfl (Nat.le_of_ble_eq_true rfl) rfl (hn := ?_)
  refine bk h fun x3 e3 h => ?_
  refine LWo.vcall rfl rfl (c_impl_Value_ok _ _ e3) (.same (.nil)) (hn := ?_)
  refine LWo.assign (e_bool x3) rfl (hn := ?_)
  refine LWo.nil (hN2 _ ?_)
  obtain rfl := Option.some.inj h
  refine LWP.ret (QG.mk (.inr rfl) (.cons (.tmp (x := (e_bool x3)) rfl) (.nil)) (RetOK.one0 (.pure rfl) (by decide)) rfl rfl)

def m_laws_alive_j1 (t0 : Bool) : Option Bool :=
  some t0
def m_laws_alive  : Option Bool :=
  (m_impl_ValueOk (⟨(1 : Int), (3 : Int), (⟨#[]⟩ : ByteArray)⟩ : S_impl_Value)).bind fun x3 =>
  bif x3 then ((m_impl_ValueOk (⟨(9 : Int), (0 : Int), (⟨#[]⟩ : ByteArray)⟩ : S_impl_Value)).bind fun x5 =>
    m_laws_alive_j1  (!x5))
  else (m_laws_alive_j1  false)
theorem c_laws_alive  (r : Bool) (h : m_laws_alive  = some r) : Ret Try.prog f_laws_alive [] (e_bool r) := by
  refine Does.goG [] F_laws_alive rfl e_laws_alive n_laws_alive rfl (rvs := [.tmp 0]) rfl rfl ?_
  intro w0 ok0 lent ρ0
  refine LWP.seq_k fun N1 hN1 => ?_
  refine LWP.region (l := [_]) ?_
  refine LWo.assign (e_bool false) rfl (hn := ?_)
  refine LWo.nil (hN1 _ ?_)
  refine LWP.join (α := Bool) (fun z : Bool => [(0, (e_bool z))]) (fun z : Bool => []) (fun z : Bool => m_laws_alive_j1  z) r (fun _ => by simp [hkeys]) ?_ ?_
  ·rintro t0 h
   replace h : m_laws_alive_j1  t0 = some _ := h
   obtain rfl := Option.some.inj h
   refine LWP.ret (QG.mk (.inr rfl) (.cons (.tmp (x := (e_bool t0)) rfl) (.nil)) (RetOK.one0 (.pure rfl) (by decide)) rfl rfl)
  ·intro N2 hN2
   refine LWP.region (l := [_,_,_,_,_,_,_,_]) ?_
   refine LWo.build_impl_Value (parts := [_, _]) (⟨(1 : Int), (3 : Int), (⟨#[]⟩ : ByteArray)⟩ : S_impl_Value) rfl rfl rfl .refl (hn := ?_)
   refine bk h fun x3 e3 h => ?_
   refine LWo.vcall rfl rfl (c_impl_ValueOk _ _ e3) (.same (.nil)) (hn := ?_)
   refine LWo.move (e_bool x3) rfl (hn := ?_)
   refine LWo.byCases (t := 3) _ rfl (fun h4 => ?_) (fun h4 => ?_)
   ·have h := bT h4 h
    refine LWo.guardY (t := 3) rfl h4 rfl rfl ?_
    refine LWo.build_impl_Value (parts := [_]) (⟨(9 : Int), (0 : Int), (⟨#[]⟩ : ByteArray)⟩ : S_impl_Value) rfl rfl rfl .refl (hn := ?_)
    refine bk h fun x5 e5 h => ?_
    refine LWo.guardY (t := 3) rfl h4 rfl rfl ?_
    refine LWo.vcall rfl rfl (c_impl_ValueOk _ _ e5) (.same (.nil)) (hn := ?_)
    refine LWo.guardY (t := 3) rfl h4 rfl rfl ?_
    refine LWo.not rfl (hn := ?_)
    refine LWo.pickTM (e_bool (!x5)) rfl h4 rfl (hn := ?_)
    refine LWo.assign (e_bool (!x5)) rfl (hn := ?_)
    refine LWo.nil (hN2 (!x5) _ ⟨rfl, trivial⟩ trivial h)
   ·have h := bF h4 h
    refine LWo.guardNU (t := 3) rfl h4 rfl rfl rfl rfl rfl ?_
    refine LWo.guardNU (t := 3) rfl h4 rfl rfl rfl rfl rfl ?_
    refine LWo.guardNU (t := 3) rfl h4 rfl rfl rfl rfl rfl ?_
    refine LWo.pickFM (e_bool false) rfl h4 rfl (hn := ?_)
    refine LWo.assign (e_bool false) rfl (hn := ?_)
    refine LWo.nil (hN2 false _ ⟨rfl, trivial⟩ trivial h)

def m_impl_ClosureOf (a0 : (List S_impl_Pair)) : Option (List S_impl_Pair) :=
  (m_impl_PairsOk a0).bind fun x4 =>
  bif (!x4) then (some ([] : (List S_impl_Pair)))
  else ((m_impl_closure a0).bind fun x8 =>
  some x8)
theorem c_impl_ClosureOf (a0 : (List S_impl_Pair)) (r : (List S_impl_Pair)) (h : m_impl_ClosureOf a0 = some r) : Ret Try.prog f_impl_ClosureOf [e_Limpl_Pair a0] (.nw 2 (r.map e_impl_Pair) false) := by
  refine Does.goG [] F_impl_ClosureOf rfl e_impl_ClosureOf n_impl_ClosureOf rfl (rvs := [.tmp 2]) rfl rfl ?_
  intro w0 ok0 lent ρ0
  refine LWP.seq_k fun N1 hN1 => ?_
  refine LWP.region (l := [_]) ?_
  refine LWo.assign _ rfl (hn := ?_)
  refine LWo.ownNil 2 1002 2 rfl rfl rfl ?_
  refine LWo.known 2 (.own 1002 0 ([] : (List S_impl_Pair)).length) rfl ?_
  refine LWo.nil (hN1 _ ?_)
  refine LWP.seq_k fun N2 hN2 => ?_
  refine LWP.seq_k fun N3 hN3 => ?_
  refine LWP.region (l := [_,_,_]) ?_
  refine LWo.move (e_Limpl_Pair a0) rfl (hn := ?_)
  refine bk h fun x4 e4 h => ?_
  refine LWo.vcall rfl rfl (c_impl_PairsOk _ _ e4) (.same (.nil)) (hn := ?_)
  refine LWo.not rfl (hn := ?_)
  refine LWo.nil (hN3 _ ?_)
  refine LWP.cond_split rfl (fun h5 => ?_) (fun h5 => ?_)
  ·have h := bT h5 h
   refine LWP.seq_k fun N6 hN6 => ?_
   refine LWP.region (l := [_]) ?_
   refine LWo.assign _ rfl (hn := ?_)
   refine LWo.ownNil 2 1002 2 rfl rfl rfl ?_
   refine LWo.known 2 (.own 1002 0 ([] : (List S_impl_Pair)).length) rfl ?_
   refine LWo.nil (hN6 _ ?_)
   obtain rfl := Option.some.inj h
   refine LWP.ret (QG.mk (.inr rfl) (.cons (.tmp (x := (.own 1002 0 (([] : (List S_impl_Pair))).length)) rfl) (.nil)) (RetOK.one0 (.nwM rfl rfl) (by decide)) rfl rfl)
  ·have h := bF h5 h
   refine LWP.skip (hN2 _ ?_)
   refine LWP.seq_k fun N7 hN7 => ?_
   refine LWP.region (l := [_,_,_]) ?_
   refine LWo.move (e_Limpl_Pair a0) rfl (hn := ?_)
   refine bk h fun x8 e8 h => ?_
   refine LWo.ncall (e := e_impl_Pair) 1007 rfl rfl (c_impl_closure _ _ e8) (.same (.nil)) rfl (hn := ?_)
   refine LWo.assign (.own 1007 0 (x8).length) rfl (hn := ?_)
   refine LWo.nil (hN7 _ ?_)
   obtain rfl := Option.some.inj h
   refine LWP.ret (QG.mk (.inr rfl) (.cons (.tmp (x := (.own 1007 0 (x8).length)) rfl) (.nil)) (RetOK.one0 (.nwM rfl rfl) (by decide)) rfl rfl)

def m_laws_FnClosureMore_j5 (t5 : (List S_impl_Pair)) (o1030 : (List S_impl_Pair)) : Option Bool :=
  (m_impl_ClosureOf o1030).bind fun x54 =>
  (m_laws_samePairs t5 x54).bind fun x55 =>
  some x55
def m_laws_FnClosureMore_j4 (t5 : (List S_impl_Pair)) (t7 : Bool) (o4 : S_impl_Pair) (o1030 : (List S_impl_Pair)) : Option Bool :=
  bif (!t7) then ((app? o1030 ([o4] : (List S_impl_Pair))).bind fun x52 =>
    m_laws_FnClosureMore_j5  t5 x52)
  else (m_laws_FnClosureMore_j5  t5 o1030)
def m_laws_FnClosureMore_j3 (k1 : (List S_impl_Pair) → (List S_impl_Pair) → Bool → Int → S_impl_Pair → (List S_impl_Pair) → Option Bool) (t3 : (List S_impl_Pair)) (t5 : (List S_impl_Pair)) (t7 : Bool) (t8 : Int) (o4 : S_impl_Pair) (o1030 : (List S_impl_Pair)) : Option Bool :=
  (at? t3 t8).bind fun x46 =>
  (app? o1030 ([x46] : (List S_impl_Pair))).bind fun x47 =>
  (ckI (t8 + (1 : Int))).bind fun x48 =>
  k1 t3 t5 t7 x48 o4 x47
def m_laws_FnClosureMore_j2 (k1 : (List S_impl_Pair) → (List S_impl_Pair) → Bool → Int → S_impl_Pair → (List S_impl_Pair) → Option Bool) (t3 : (List S_impl_Pair)) (t5 : (List S_impl_Pair)) (t7 : Bool) (t8 : Int) (o4 : S_impl_Pair) (o1030 : (List S_impl_Pair)) : Option Bool :=
  bif t7 then (m_laws_FnClosureMore_j3  k1 t3 t5 true t8 o4 o1030)
  else ((at? t3 t8).bind fun x45 =>
    m_laws_FnClosureMore_j3  k1 t3 t5 (decide (x45 = o4)) t8 o4 o1030)
def m_laws_FnClosureMore_j1 (k1 : (List S_impl_Pair) → (List S_impl_Pair) → Bool → Int → S_impl_Pair → (List S_impl_Pair) → Option Bool) (t3 : (List S_impl_Pair)) (t5 : (List S_impl_Pair)) (t7 : Bool) (t8 : Int) (t68 : Bool) (o4 : S_impl_Pair) (o1030 : (List S_impl_Pair)) : Option Bool :=
  bif t68 then ((app? o1030 ([o4] : (List S_impl_Pair))).bind fun x42 =>
    m_laws_FnClosureMore_j2  k1 t3 t5 true t8 o4 x42)
  else (m_laws_FnClosureMore_j2  k1 t3 t5 t7 t8 o4 o1030)
def m_laws_FnClosureMore_l1 : Nat → (List S_impl_Pair) → (List S_impl_Pair) → Bool → Int → S_impl_Pair → (List S_impl_Pair) → Option Bool
  | 0, _, _, _, _, _, _ => none
  | n1 + 1, t3, t5, t7, t8, o4, o1030 =>
    bif decide (t8 < (t3.length : Int)) then (bif (!t7) then ((at? t3 t8).bind fun x35 =>
      bif decide (o4.From < x35.From) then (m_laws_FnClosureMore_j1  (m_laws_FnClosureMore_l1  n1) t3 t5 t7 t8 true o4 o1030)
      else ((at? t3 t8).bind fun x37 =>
        bif (o4.From == x37.From) then ((at? t3 t8).bind fun x39 =>
          m_laws_FnClosureMore_j1  (m_laws_FnClosureMore_l1  n1) t3 t5 t7 t8 (decide (o4.To < x39.To)) o4 o1030)
        else (m_laws_FnClosureMore_j1  (m_laws_FnClosureMore_l1  n1) t3 t5 t7 t8 false o4 o1030)))
    else (m_laws_FnClosureMore_j1  (m_laws_FnClosureMore_l1  n1) t3 t5 t7 t8 false o4 o1030))
    else (m_laws_FnClosureMore_j4  t5 t7 o4 o1030)
def m_laws_FnClosureMore (a0 : (List UInt8)) : Option Bool :=
  bif decide ((a0.length : Int) > (1048576 : Int)) then (some true)
  else ((m_spec_DrawClosureMore a0).bind fun x7 =>
  lt (x7.2) fun y8 =>
  (m_impl_ClosureMore x7.1 y8).bind fun x10 =>
  (m_spec_ClosureMore x7.1 y8).bind fun x13 =>
  (m_laws_samePairs x10 x13).bind fun x14 =>
  bif (!x14) then (some false)
  else (bif ((x10.length : Int) == (0 : Int)) then ((m_laws_alive ).bind fun x21 =>
    some x21)
  else (m_laws_FnClosureMore_l1  (((x7.1.length : Int) - (0 : Int)).toNat + 1) x7.1 x10 false (0 : Int) y8 ([] : (List S_impl_Pair)))))
theorem c_laws_FnClosureMore (a0 : (List UInt8)) (r : Bool) (h : m_laws_FnClosureMore a0 = some r) : Ret Try.prog f_laws_FnClosureMore [e_Luint8 a0] (e_bool r) := by
  refine Does.goG [] F_laws_FnClosureMore rfl e_laws_FnClosureMore n_laws_FnClosureMore rfl (rvs := [.tmp 2]) rfl rfl ?_
  intro w0 ok0 lent ρ0
  refine LWP.seq_k fun N1 hN1 => ?_
  refine LWP.region (l := [_]) ?_
  refine LWo.assign (e_bool false) rfl (hn := ?_)
  refine LWo.nil (hN1 _ ?_)
  refine LWP.seq_k fun N2 hN2 => ?_
  refine LWP.seq_k fun N3 hN3 => ?_
  refine LWP.region (l := [_,_,_]) ?_
  refine LWo.move (e_Luint8 a0) rfl (hn := ?_)
  refine LWo.lenM (f := e_uint8) (l := a0) u_Luint8 rfl (hn := ?_)
  refine LWo.int _ rfl rfl rfl (hn := ?_)
  refine LWo.nil (hN3 _ ?_)
  refine LWP.cond_split rfl (fun h4 => ?_) (fun h4 => ?_)
  ·have h := bT h4 h
   refine LWP.seq_k fun N5 hN5 => ?_
   refine LWP.region (l := [_]) ?_
   refine LWo.assign (e_bool true) rfl (hn := ?_)
   refine LWo.nil (hN5 _ ?_)
   obtain rfl := Option.some.inj h
   refine LWP.ret (QG.mk (.inr rfl) (.cons (.tmp (x := (e_bool true)) rfl) (.nil)) (RetOK.one0 (.pure rfl) (by decide)) rfl rfl)
  ·have h := bF h4 h
   refine LWP.skip (hN2 _ ?_)
   refine LWP.seq_k fun N6 hN6 => ?_
   refine LWP.region (l := [_,_,_,_,_,_,_,_]) ?_
   refine LWo.move (e_Luint8 a0) rfl (hn := ?_)
   refine bk h fun x7 e7 h => ?_
   refine LWo.vcall rfl rfl (c_spec_DrawClosureMore _ _ e7) (.same (.nil)) (hn := ?_)
   refine LWo.move (.tup [(e_Limpl_Pair x7.1), (e_impl_Pair x7.2)]) rfl (hn := ?_)
   refine LWo.extract (e_Limpl_Pair x7.1) rfl rfl (hn := ?_)
   refine LWo.extract (e_impl_Pair x7.2) rfl rfl (hn := ?_)
   refine LWo.alloc_impl_Pair 4 rfl (hn := ?_)
   refine LWo.assign (e_Limpl_Pair x7.1) rfl (hn := ?_)
   refine lk h fun y8 e8 h => ?_
   refine LWo.storeW (y := (⟨(0 : Int), (0 : Int)⟩ : S_impl_Pair)) y8 s_impl_Pair rfl rfl rfl rfl rfl rfl (by rw [e8]; exact .refl) rfl (hn := ?_)
   refine LWo.nil (hN6 _ ?_)
   refine LWP.seq_k fun N9 hN9 => ?_
   refine LWP.region (l := [_,_,_,_]) ?_
   refine LWo.move (e_Limpl_Pair x7.1) rfl (hn := ?_)
   refine LWo.loadVN ((e_impl_Pair y8)).cells  g_impl_Pair s_impl_Pair rfl rfl rfl rfl (hn := ?_)
   refine bk h fun x10 e10 h => ?_
   refine LWo.vcall rfl rfl (c_impl_ClosureMore _ _ _ e10) (.same (.same (.nil))) (hn := ?_)
   refine LWo.assign (e_Limpl_Pair x10) rfl (hn := ?_)
   refine LWo.nil (hN9 _ ?_)
   refine LWP.seq_k fun N11 hN11 => ?_
   refine LWP.seq_k fun N12 hN12 => ?_
   refine LWP.region (l := [_,_,_,_,_,_]) ?_
   refine LWo.move (e_Limpl_Pair x10) rfl (hn := ?_)
   refine LWo.move (e_Limpl_Pair x7.1) rfl (hn := ?_)
   refine LWo.loadVN ((e_impl_Pair y8)).cells  g_impl_Pair s_impl_Pair rfl rfl rfl rfl (hn := ?_)
   refine bk h fun x13 e13 h => ?_
   refine LWo.vcall rfl rfl (c_spec_ClosureMore _ _ _ e13) (.same (.same (.nil))) (hn := ?_)
   refine bk h fun x14 e14 h => ?_
   refine LWo.vcall rfl rfl (c_laws_samePairs _ _ _ e14) (.same (.same (.nil))) (hn := ?_)
   refine LWo.not rfl (hn := ?_)
   refine LWo.nil (hN12 _ ?_)
   refine LWP.cond_split rfl (fun h15 => ?_) (fun h15 => ?_)
   ·have h := bT h15 h
    refine LWP.seq_k fun N16 hN16 => ?_
    refine LWP.region (l := [_]) ?_
    refine LWo.assign (e_bool false) rfl (hn := ?_)
    refine LWo.nil (hN16 _ ?_)
    obtain rfl := Option.some.inj h
    refine LWP.ret (QG.mk (.inr rfl) (.cons (.tmp (x := (e_bool false)) rfl) (.nil)) (RetOK.one0 (.pure rfl) (by decide)) rfl rfl)
   ·have h := bF h15 h
    refine LWP.skip (hN11 _ ?_)
    refine LWP.seq_k fun N17 hN17 => ?_
    refine LWP.seq_k fun N18 hN18 => ?_
    refine LWP.region (l := [_,_,_]) ?_
    refine LWo.move (e_Limpl_Pair x10) rfl (hn := ?_)
    refine LWo.lenM (f := e_impl_Pair) (l := x10) u_Limpl_Pair rfl (hn := ?_)
    refine LWo.int _ rfl rfl rfl (hn := ?_)
    refine LWo.nil (hN18 _ ?_)
    refine LWP.cond_split rfl (fun h19 => ?_) (fun h19 => ?_)
    ·have h := bT h19 h
     refine LWP.seq_k fun N20 hN20 => ?_
     refine LWP.region (l := [_,_]) ?_
     refine bk h fun x21 e21 h => ?_
     refine LWo.vcall rfl rfl (c_laws_alive  _ e21) (.nil) (hn := ?_)
     refine LWo.assign (e_bool x21) rfl (hn := ?_)
     refine LWo.nil (hN20 _ ?_)
     obtain rfl := Option.some.inj h
     refine LWP.ret (QG.mk (.inr rfl) (.cons (.tmp (x := (e_bool x21)) rfl) (.nil)) (RetOK.one0 (.pure rfl) (by decide)) rfl rfl)
    ·have h := bF h19 h
     refine LWP.skip (hN17 _ ?_)
     refine LWP.seq_k fun N22 hN22 => ?_
     refine LWP.region (l := [_,_]) ?_
     refine LWo.lit0 1030 u_Limpl_Pair s_impl_Pair z_impl_Pair (hn := ?_)
     refine LWo.known 30 (.own 1030 0 ([] : (List S_impl_Pair)).length) rfl ?_
     refine LWo.assign (.own 1030 0 (([] : (List S_impl_Pair))).length) rfl (hn := ?_)
     refine LWo.nil (hN22 _ ?_)
     refine LWP.seq_k fun N23 hN23 => ?_
     refine LWP.region (l := [_]) ?_
     refine LWo.assign (e_bool false) rfl (hn := ?_)
     refine LWo.nil (hN23 _ ?_)
     refine LWP.join (α := (List S_impl_Pair) × Bool × S_impl_Pair × (List S_impl_Pair)) (fun z : (List S_impl_Pair) × Bool × S_impl_Pair × (List S_impl_Pair) => [(4, (.ptr 4 0 0)), (5, (e_Limpl_Pair z.1)), (6, (.own 1030 0 (z.2.2.2).length)), (7, (e_bool z.2.1))]) (fun z : (List S_impl_Pair) × Bool × S_impl_Pair × (List S_impl_Pair) => [(4, (vob 2 e_impl_Pair z.2.2.1)), (1030, (lob 2 e_impl_Pair z.2.2.2))]) (fun z : (List S_impl_Pair) × Bool × S_impl_Pair × (List S_impl_Pair) => m_laws_FnClosureMore_j4  z.1 z.2.1 z.2.2.1 z.2.2.2) r (fun _ => by simp [hkeys]) ?_ ?_
     ·rintro ⟨t5, t7, o4, o1030⟩ h
      replace h : m_laws_FnClosureMore_j4  t5 t7 o4 o1030 = some _ := h
      refine LWP.join (α := (List S_impl_Pair) × (List S_impl_Pair)) (fun z : (List S_impl_Pair) × (List S_impl_Pair) => [(5, (e_Limpl_Pair z.1)), (6, (.own 1030 0 (z.2).length))]) (fun z : (List S_impl_Pair) × (List S_impl_Pair) => [(1030, (lob 2 e_impl_Pair z.2))]) (fun z : (List S_impl_Pair) × (List S_impl_Pair) => m_laws_FnClosureMore_j5  z.1 z.2) r (fun _ => by simp [hkeys]) ?_ ?_
      ·rintro ⟨t5, o1030⟩ h
       replace h : m_laws_FnClosureMore_j5  t5 o1030 = some _ := h
       refine LWP.seq_k fun N53 hN53 => ?_
       refine LWP.region (l := [_,_,_,_,_]) ?_
       refine LWo.move (e_Limpl_Pair t5) rfl (hn := ?_)
       refine LWo.move (.own 1030 0 (o1030).length) rfl (hn := ?_)
       refine bk h fun x54 e54 h => ?_
       refine LWo.frzL (f := e_impl_Pair) (l := o1030) [6, 96] 1030 rfl rfl ⟨rfl, rfl, trivial⟩ ?_
       refine LWo.vcall rfl rfl (c_impl_ClosureOf _ _ e54) (.same (.nil)) (hn := ?_)
       refine bk h fun x55 e55 h => ?_
       refine LWo.vcall rfl rfl (c_laws_samePairs _ _ _ e55) (.same (.same (.nil))) (hn := ?_)
       refine LWo.assign (e_bool x55) rfl (hn := ?_)
       refine LWo.nil (hN53 _ ?_)
       obtain rfl := Option.some.inj h
       refine LWP.ret (QG.mk (.inr rfl) (.cons (.tmp (x := (e_bool x55)) rfl) (.nil)) (RetOK.one0 (.pure rfl) (by decide)) rfl rfl)
      ·intro N49 hN49
       refine LWP.seq_k fun N50 hN50 => ?_
       refine LWP.region (l := [_,_]) ?_
       refine LWo.move (e_bool t7) rfl (hn := ?_)
       refine LWo.not rfl (hn := ?_)
       refine LWo.nil (hN50 _ ?_)
       refine LWP.cond_split rfl (fun h51 => ?_) (fun h51 => ?_)
       ·have h := bT h51 h
        refine LWP.region (l := [_,_,_,_,_]) ?_
        refine LWo.move (.own 1030 0 (o1030).length) rfl (hn := ?_)
        refine LWo.loadVN ((e_impl_Pair o4)).cells  g_impl_Pair s_impl_Pair rfl rfl rfl rfl (hn := ?_)
        refine LWo.lit (ops := [_]) [(e_impl_Pair o4)] u_Limpl_Pair s_impl_Pair z_impl_Pair rfl rfl rfl rfl rfl rfl (hn := ?_)
        refine bk h fun x52 e52 h => ?_
        refine LWo.appendM (f := e_impl_Pair) e52 rfl u_Limpl_Pair u_Limpl_Pair (fun _ h => by cases h) s_impl_Pair i_impl_Pair rfl rfl rfl (.sl rfl) rfl rfl (hn := ?_)
        refine LWo.assign (.own 1030 0 (x52).length) rfl (hn := ?_)
        refine LWo.nil (hN49 (t5, x52) _ ⟨rfl, rfl, trivial⟩ ⟨rfl, trivial⟩ h)
       ·have h := bF h51 h
        refine LWP.skip (hN49 (t5, o1030) _ ⟨rfl, rfl, trivial⟩ ⟨rfl, trivial⟩ h)
     ·intro N24 hN24
      refine LWP.seq_k fun N25 hN25 => ?_
      refine LWP.region (l := [_]) ?_
      refine LWo.assign (e_int (0 : Int)) rfl (hn := ?_)
      refine LWo.nil (hN25 _ ?_)
      refine LWP.block ?_
      refine LWP.loopM (α := (List S_impl_Pair) × (List S_impl_Pair) × Bool × Int × S_impl_Pair × (List S_impl_Pair)) (fun z : (List S_impl_Pair) × (List S_impl_Pair) × Bool × Int × S_impl_Pair × (List S_impl_Pair) => [(3, (e_Limpl_Pair z.1)), (4, (.ptr 4 0 0)), (5, (e_Limpl_Pair z.2.1)), (6, (.own 1030 0 (z.2.2.2.2.2).length)), (7, (e_bool z.2.2.1)), (8, (e_int z.2.2.2.1))]) (fun z : (List S_impl_Pair) × (List S_impl_Pair) × Bool × Int × S_impl_Pair × (List S_impl_Pair) => [(4, (vob 2 e_impl_Pair z.2.2.2.2.1)), (1030, (lob 2 e_impl_Pair z.2.2.2.2.2))]) (fun n1 (z : (List S_impl_Pair) × (List S_impl_Pair) × Bool × Int × S_impl_Pair × (List S_impl_Pair)) => m_laws_FnClosureMore_l1  n1 z.1 z.2.1 z.2.2.1 z.2.2.2.1 z.2.2.2.2.1 z.2.2.2.2.2) r _ (x7.1, x10, false, (0 : Int), y8, ([] : (List S_impl_Pair))) h (fun _ => rfl) (fun _ => by simp [hkeys]) ⟨rfl, rfl, rfl, rfl, rfl, rfl, trivial⟩ ⟨rfl, rfl, trivial⟩ ?_
      rintro n1 ⟨t3, t5, t7, t8, o4, o1030⟩ h N26 hN26
      replace h : m_laws_FnClosureMore_l1  (n1 + 1) t3 t5 t7 t8 o4 o1030 = some _ := h
      refine LWP.seq_k fun N28 hN28 => ?_
      refine LWP.seq_k fun N29 hN29 => ?_
      refine LWP.region (l := [_,_,_,_]) ?_
      refine LWo.move (e_int t8) rfl (hn := ?_)
      refine LWo.move (e_Limpl_Pair t3) rfl (hn := ?_)
      refine LWo.lenM (f := e_impl_Pair) (l := t3) u_Limpl_Pair rfl (hn := ?_)
      refine LWo.int _ rfl rfl rfl (hn := ?_)
      refine LWo.nil (hN29 _ ?_)
      refine LWP.cond_split rfl (fun h30 => ?_) (fun h30 => ?_)
      ·have h := bT h30 h
       refine LWP.skip (hN28 _ ?_)
       refine LWP.seq_k fun N31 hN31 => ?_
       refine LWP.block ?_
       refine LWP.join (α := (List S_impl_Pair) × (List S_impl_Pair) × Bool × Int × S_impl_Pair × (List S_impl_Pair)) (fun z : (List S_impl_Pair) × (List S_impl_Pair) × Bool × Int × S_impl_Pair × (List S_impl_Pair) => [(3, (e_Limpl_Pair z.1)), (4, (.ptr 4 0 0)), (5, (e_Limpl_Pair z.2.1)), (6, (.own 1030 0 (z.2.2.2.2.2).length)), (7, (e_bool z.2.2.1)), (8, (e_int z.2.2.2.1))]) (fun z : (List S_impl_Pair) × (List S_impl_Pair) × Bool × Int × S_impl_Pair × (List S_impl_Pair) => [(4, (vob 2 e_impl_Pair z.2.2.2.2.1)), (1030, (lob 2 e_impl_Pair z.2.2.2.2.2))]) (fun z : (List S_impl_Pair) × (List S_impl_Pair) × Bool × Int × S_impl_Pair × (List S_impl_Pair) => m_laws_FnClosureMore_j2  (m_laws_FnClosureMore_l1  n1) z.1 z.2.1 z.2.2.1 z.2.2.2.1 z.2.2.2.2.1 z.2.2.2.2.2) r (fun _ => by simp [hkeys]) ?_ ?_
       ·rintro ⟨t3, t5, t7, t8, o4, o1030⟩ h
        replace h : m_laws_FnClosureMore_j2  (m_laws_FnClosureMore_l1  n1) t3 t5 t7 t8 o4 o1030 = some _ := h
        refine LWP.join (α := (List S_impl_Pair) × (List S_impl_Pair) × Bool × Int × S_impl_Pair × (List S_impl_Pair)) (fun z : (List S_impl_Pair) × (List S_impl_Pair) × Bool × Int × S_impl_Pair × (List S_impl_Pair) => [(3, (e_Limpl_Pair z.1)), (4, (.ptr 4 0 0)), (5, (e_Limpl_Pair z.2.1)), (6, (.own 1030 0 (z.2.2.2.2.2).length)), (7, (e_bool z.2.2.1)), (8, (e_int z.2.2.2.1))]) (fun z : (List S_impl_Pair) × (List S_impl_Pair) × Bool × Int × S_impl_Pair × (List S_impl_Pair) => [(4, (vob 2 e_impl_Pair z.2.2.2.2.1)), (1030, (lob 2 e_impl_Pair z.2.2.2.2.2))]) (fun z : (List S_impl_Pair) × (List S_impl_Pair) × Bool × Int × S_impl_Pair × (List S_impl_Pair) => m_laws_FnClosureMore_j3  (m_laws_FnClosureMore_l1  n1) z.1 z.2.1 z.2.2.1 z.2.2.2.1 z.2.2.2.2.1 z.2.2.2.2.2) r (fun _ => by simp [hkeys]) ?_ ?_
        ·rintro ⟨t3, t5, t7, t8, o4, o1030⟩ h
         replace h : m_laws_FnClosureMore_j3  (m_laws_FnClosureMore_l1  n1) t3 t5 t7 t8 o4 o1030 = some _ := h
         refine LWP.region (l := [_,_,_,_,_,_,_,_]) ?_
         refine LWo.move (.own 1030 0 (o1030).length) rfl (hn := ?_)
         refine LWo.move (e_Limpl_Pair t3) rfl (hn := ?_)
         refine LWo.move (e_int t8) rfl (hn := ?_)
         refine bk h fun x46 e46 h => ?_
         refine LWo.indexM (f := e_impl_Pair) e46 u_Limpl_Pair s_impl_Pair rfl rfl (hn := ?_)
         refine LWo.loadN ((e_impl_Pair x46)).cells g_impl_Pair s_impl_Pair rfl (Nat.le_of_ble_eq_true rfl) rfl (hn := ?_)
         refine LWo.lit (ops := [_]) [(e_impl_Pair x46)] u_Limpl_Pair s_impl_Pair z_impl_Pair rfl rfl rfl rfl rfl rfl (hn := ?_)
         refine bk h fun x47 e47 h => ?_
         refine LWo.appendM (f := e_impl_Pair) e47 rfl u_Limpl_Pair u_Limpl_Pair (fun _ h => by cases h) s_impl_Pair i_impl_Pair rfl rfl rfl (.sl rfl) rfl rfl (hn := ?_)
         refine LWo.assign (.own 1030 0 (x47).length) rfl (hn := ?_)
         refine LWo.nil (hN31 _ ?_)
         refine LWP.region (l := [_,_,_]) ?_
         refine LWo.move (e_int t8) rfl (hn := ?_)
         refine bk h fun x48 e48 h => ?_
         refine LWo.int _ rfl rfl (add_ck e48) (hn := ?_)
         refine LWo.assign (e_int x48) rfl (hn := ?_)
         refine LWo.nil (hN26 (t3, t5, t7, x48, o4, x47) _ ⟨rfl, rfl, rfl, rfl, rfl, rfl, trivial⟩ ⟨rfl, rfl, trivial⟩ h)
        ·intro N43 hN43
         refine bS (t7) (fun h44 => ?_) (fun h44 => ?_)
         ·have h := bT h44 h
          refine LWP.drawF (l := [_,_,_,_,_,_,_,_,_,_]) [] [3, 4, 5, 6, 7, 8] [([7], []), ([73], []), ([3, 74], []), ([8, 74], []), ([74, 75, 76], []), ([74, 77], []), ([4, 74], []), ([74, 78, 79], []), ([74, 80], []), ([81], [])] [3, 4, 5, 6, 7, 8] [4, 1030] mixed (by kernel_rfl) rfl (by decide) ?_
          refine dq 73 rfl (fun _ g u h => LWo.move (e_bool t7) u.1 (hn := .nil (zn g))) ?_
          refine dq 74 rfl (fun _ g u h => LWo.move (e_bool t7) u.1 (hn := .nil (zn g))) ?_
          refine dq 75 rfl (fun _ g u h => LWo.guardNU (t := 74) u.2.1 h44 rfl rfl rfl rfl rfl (.nil (zn g))) ?_
          refine dq 76 rfl (fun _ g u h => LWo.guardNU (t := 74) u.2.1 h44 rfl rfl rfl rfl rfl (.nil (zn g))) ?_
          refine dq 77 rfl (fun _ g u h => LWo.guardNU (t := 74) u.1 h44 rfl rfl rfl rfl rfl (.nil (zn g))) ?_
          refine dq 78 rfl (fun _ g u h => LWo.guardNU (t := 74) u.1 h44 rfl rfl rfl rfl rfl (.nil (zn g))) ?_
          refine dq 79 rfl (fun _ g u h => LWo.guardNU (t := 74) u.2.1 h44 rfl rfl rfl rfl rfl (.nil (zn g))) ?_
          refine dq 80 rfl (fun _ g u h => LWo.guardNU (t := 74) u.1 h44 rfl rfl rfl rfl rfl (.nil (zn g))) ?_
          refine dq 81 rfl (fun _ g u h => LWo.pickTM (e_bool true) u.1 h44 rfl (hn := .nil (zn g))) ?_
          refine dq 7 rfl (fun _ g u h => LWo.assign (e_bool true) u.1 (hn := .nil (zn g))) ?_
          refine ⟨rfl, by kernel_rfl, hN43 (t3, t5, true, t8, o4, o1030) _ ⟨rfl, rfl, rfl, rfl, rfl, rfl, trivial⟩ ⟨rfl, rfl, trivial⟩ h⟩
         ·have h := bF h44 h
          refine bk h fun x45 e45 h => ?_
          refine LWP.drawF (l := [_,_,_,_,_,_,_,_,_,_]) [] [3, 4, 5, 6, 7, 8] [([7], []), ([73], []), ([3, 74], []), ([8, 74], []), ([74, 75, 76], []), ([74, 77], []), ([4, 74], [4]), ([74, 78, 79], []), ([74, 80], []), ([81], [])] [3, 4, 5, 6, 7, 8] [4, 1030] mixed (by kernel_rfl) rfl (by decide) ?_
          refine dq 73 rfl (fun _ g u h => LWo.move (e_bool t7) u.1 (hn := .nil (zn g))) ?_
          refine dq 74 rfl (fun _ g u h => LWo.move (e_bool t7) u.1 (hn := .nil (zn g))) ?_
          refine dq 75 rfl (fun _ g u h => LWo.guardY (t := 74) u.2.1 h44 rfl rfl (LWo.move (e_Limpl_Pair t3) u.1 (hn := .nil (zn g)))) ?_
          refine dq 76 rfl (fun _ g u h => LWo.guardY (t := 74) u.2.1 h44 rfl rfl (LWo.move (e_int t8) u.1 (hn := .nil (zn g)))) ?_
          refine dq 77 rfl (fun _ g u h => LWo.guardY (t := 74) u.1 h44 rfl rfl (LWo.indexM (f := e_impl_Pair) e45 u_Limpl_Pair s_impl_Pair u.2.1 u.2.2.1 (hn := .nil (zn g)))) ?_
          refine dq 78 rfl (fun _ g u h => LWo.guardY (t := 74) u.1 h44 rfl rfl (LWo.loadN ((e_impl_Pair x45)).cells g_impl_Pair s_impl_Pair u.2.1 (Nat.le_of_ble_eq_true rfl) rfl (hn := .nil (zn g)))) ?_
          refine dq 79 rfl (fun _ g u h => LWo.guardY (t := 74) u.2.1 h44 rfl rfl (LWo.loadVN ((e_impl_Pair o4)).cells  g_impl_Pair s_impl_Pair u.1 h.1 rfl rfl (hn := .nil (zn g)))) ?_
          refine dq 80 rfl (fun _ g u h => LWo.guardY (t := 74) u.1 h44 rfl rfl (LWo.eq_impl_Pair _ _ u.2.1 u.2.2.1 (hn := .nil (zn g)))) ?_
          refine dq 81 rfl (fun _ g u h => LWo.pickFM (e_bool (decide (x45 = o4))) u.1 h44 u.2.1 (hn := .nil (zn g))) ?_
          refine dq 7 rfl (fun _ g u h => LWo.assign (e_bool (decide (x45 = o4))) u.1 (hn := .nil (zn g))) ?_
          refine ⟨rfl, by kernel_rfl, hN43 (t3, t5, (decide (x45 = o4)), t8, o4, o1030) _ ⟨rfl, rfl, rfl, rfl, rfl, rfl, trivial⟩ ⟨rfl, rfl, trivial⟩ h⟩
       ·intro N32 hN32
        refine LWP.join (α := (List S_impl_Pair) × (List S_impl_Pair) × Bool × Int × Bool × S_impl_Pair × (List S_impl_Pair)) (fun z : (List S_impl_Pair) × (List S_impl_Pair) × Bool × Int × Bool × S_impl_Pair × (List S_impl_Pair) => [(3, (e_Limpl_Pair z.1)), (4, (.ptr 4 0 0)), (5, (e_Limpl_Pair z.2.1)), (6, (.own 1030 0 (z.2.2.2.2.2.2).length)), (7, (e_bool z.2.2.1)), (8, (e_int z.2.2.2.1)), (68, (e_bool z.2.2.2.2.1))]) (fun z : (List S_impl_Pair) × (List S_impl_Pair) × Bool × Int × Bool × S_impl_Pair × (List S_impl_Pair) => [(4, (vob 2 e_impl_Pair z.2.2.2.2.2.1)), (1030, (lob 2 e_impl_Pair z.2.2.2.2.2.2))]) (fun z : (List S_impl_Pair) × (List S_impl_Pair) × Bool × Int × Bool × S_impl_Pair × (List S_impl_Pair) => m_laws_FnClosureMore_j1  (m_laws_FnClosureMore_l1  n1) z.1 z.2.1 z.2.2.1 z.2.2.2.1 z.2.2.2.2.1 z.2.2.2.2.2.1 z.2.2.2.2.2.2) r (fun _ => by simp [hkeys]) ?_ ?_
        ·rintro ⟨t3, t5, t7, t8, t68, o4, o1030⟩ h
         replace h : m_laws_FnClosureMore_j1  (m_laws_FnClosureMore_l1  n1) t3 t5 t7 t8 t68 o4 o1030 = some _ := h
         refine LWP.cond_split rfl (fun h40 => ?_) (fun h40 => ?_)
         ·have h := bT h40 h
          refine LWP.seq_k fun N41 hN41 => ?_
          refine LWP.region (l := [_,_,_,_,_]) ?_
          refine LWo.move (.own 1030 0 (o1030).length) rfl (hn := ?_)
          refine LWo.loadVN ((e_impl_Pair o4)).cells  g_impl_Pair s_impl_Pair rfl rfl rfl rfl (hn := ?_)
          refine LWo.lit (ops := [_]) [(e_impl_Pair o4)] u_Limpl_Pair s_impl_Pair z_impl_Pair rfl rfl rfl rfl rfl rfl (hn := ?_)
          refine bk h fun x42 e42 h => ?_
          refine LWo.appendM (f := e_impl_Pair) e42 rfl u_Limpl_Pair u_Limpl_Pair (fun _ h => by cases h) s_impl_Pair i_impl_Pair rfl rfl rfl (.sl rfl) rfl rfl (hn := ?_)
          refine LWo.assign (.own 1030 0 (x42).length) rfl (hn := ?_)
          refine LWo.nil (hN41 _ ?_)
          refine LWP.region (l := [_]) ?_
          refine LWo.assign (e_bool true) rfl (hn := ?_)
          refine LWo.nil (hN32 (t3, t5, true, t8, o4, x42) _ ⟨rfl, rfl, rfl, rfl, rfl, rfl, trivial⟩ ⟨rfl, rfl, trivial⟩ h)
         ·have h := bF h40 h
          refine LWP.skip (hN32 (t3, t5, t7, t8, o4, o1030) _ ⟨rfl, rfl, rfl, rfl, rfl, rfl, trivial⟩ ⟨rfl, rfl, trivial⟩ h)
        ·intro N33 hN33
         refine bS ((!t7)) (fun h34 => ?_) (fun h34 => ?_)
         ·have h := bT h34 h
          refine bk h fun x35 e35 h => ?_
          refine bS (decide (o4.From < x35.From)) (fun h36 => ?_) (fun h36 => ?_)
          ·have h := bT h36 h
           refine LWP.drawF (l := [_,_,_,_,_,_,_,_,_,_,_,_,_,_,_,_,_,_,_,_,_,_,_,_,_,_,_,_,_,_,_,_]) [] [3, 4, 5, 6, 7, 8] [([7], []), ([37], []), ([38], []), ([4, 39], []), ([39, 40], [4]), ([3, 39], []), ([8, 39], []), ([39, 42, 43], []), ([39, 44], []), ([39, 45], []), ([39, 41, 46], []), ([39, 47], []), ([4, 48], []), ([48, 49], []), ([3, 48], []), ([8, 48], []), ([48, 51, 52], []), ([48, 53], []), ([48, 54], []), ([48, 50, 55], []), ([48, 56], []), ([4, 57], []), ([57, 58], []), ([3, 57], []), ([8, 57], []), ([57, 60, 61], []), ([57, 62], []), ([57, 63], []), ([57, 59, 64], []), ([48, 57, 65], []), ([39, 48, 66], []), ([39, 67], [])] [3, 4, 5, 6, 7, 8, 68] [4, 1030] mixed (by kernel_rfl) rfl (by decide) ?_
           refine dq 37 rfl (fun _ g u h => LWo.move (e_bool t7) u.1 (hn := .nil (zn g))) ?_
           refine dq 38 rfl (fun _ g u h => LWo.not u.1 (hn := .nil (zn g))) ?_
           refine dq 39 rfl (fun _ g u h => LWo.move (e_bool (!t7)) u.1 (hn := .nil (zn g))) ?_
           refine dq 40 rfl (fun _ g u h => LWo.guardY (t := 39) u.2.1 h34 rfl rfl (LWo.fieldPtr u_impl_Pair rfl s_int u.1 rfl (hn := .nil (zn g)))) ?_
           refine dq 41 rfl (fun _ g u h => LWo.guardY (t := 39) u.1 h34 rfl rfl (LWo.loadV1 (e_int o4.From)  g_int u.2.1 h.1 rfl (hn := .nil (zn g)))) ?_
           refine dq 42 rfl (fun _ g u h => LWo.guardY (t := 39) u.2.1 h34 rfl rfl (LWo.move (e_Limpl_Pair t3) u.1 (hn := .nil (zn g)))) ?_
           refine dq 43 rfl (fun _ g u h => LWo.guardY (t := 39) u.2.1 h34 rfl rfl (LWo.move (e_int t8) u.1 (hn := .nil (zn g)))) ?_
           refine dq 44 rfl (fun _ g u h => LWo.guardY (t := 39) u.1 h34 rfl rfl (LWo.indexM (f := e_impl_Pair) e35 u_Limpl_Pair s_impl_Pair u.2.1 u.2.2.1 (hn := .nil (zn g)))) ?_
           refine dq 45 rfl (fun _ g u h => LWo.guardY (t := 39) u.1 h34 rfl rfl (LWo.fieldAddr _ u_impl_Pair rfl s_int u.2.1 rfl (hn := .nil (zn g)))) ?_
           refine dq 46 rfl (fun _ g u h => LWo.guardY (t := 39) u.1 h34 rfl rfl (LWo.load1 (c := (e_int x35.From)) g_int u.2.1 (hn := .nil (zn g)))) ?_
           refine dq 47 rfl (fun _ g u h => LWo.guardY (t := 39) u.1 h34 rfl rfl (LWo.int _ u.2.1 u.2.2.1 rfl (hn := .nil (zn g)))) ?_
           refine dq 48 rfl (fun _ g u h => LWo.guardY (t := 39) u.1 h34 rfl rfl (LWo.move (e_bool (decide (o4.From < x35.From))) u.2.1 (hn := .nil (zn g)))) ?_
           refine dq 49 rfl (fun _ g u h => LWo.guardNU (t := 48) u.2.1 h36 rfl rfl rfl rfl rfl (.nil (zn g))) ?_
           refine dq 50 rfl (fun _ g u h => LWo.guardNU (t := 48) u.1 h36 rfl rfl rfl rfl rfl (.nil (zn g))) ?_
           refine dq 51 rfl (fun _ g u h => LWo.guardNU (t := 48) u.2.1 h36 rfl rfl rfl rfl rfl (.nil (zn g))) ?_
           refine dq 52 rfl (fun _ g u h => LWo.guardNU (t := 48) u.2.1 h36 rfl rfl rfl rfl rfl (.nil (zn g))) ?_
           refine dq 53 rfl (fun _ g u h => LWo.guardNU (t := 48) u.1 h36 rfl rfl rfl rfl rfl (.nil (zn g))) ?_
           refine dq 54 rfl (fun _ g u h => LWo.guardNU (t := 48) u.1 h36 rfl rfl rfl rfl rfl (.nil (zn g))) ?_
           refine dq 55 rfl (fun _ g u h => LWo.guardNU (t := 48) u.1 h36 rfl rfl rfl rfl rfl (.nil (zn g))) ?_
           refine dq 56 rfl (fun _ g u h => LWo.guardNU (t := 48) u.1 h36 rfl rfl rfl rfl rfl (.nil (zn g))) ?_
           refine dq 57 rfl (fun _ g u h => LWo.guardNU (t := 48) u.1 h36 rfl rfl rfl rfl rfl (.nil (zn g))) ?_
           refine dq 58 rfl (fun _ g u h => LWo.guardU (t := 57) u.2.1 rfl rfl rfl rfl (.nil (zn g))) ?_
           refine dq 59 rfl (fun _ g u h => LWo.guardU (t := 57) u.1 rfl rfl rfl rfl (.nil (zn g))) ?_
           refine dq 60 rfl (fun _ g u h => LWo.guardU (t := 57) u.2.1 rfl rfl rfl rfl (.nil (zn g))) ?_
           refine dq 61 rfl (fun _ g u h => LWo.guardU (t := 57) u.2.1 rfl rfl rfl rfl (.nil (zn g))) ?_
           refine dq 62 rfl (fun _ g u h => LWo.guardU (t := 57) u.1 rfl rfl rfl rfl (.nil (zn g))) ?_
           refine dq 63 rfl (fun _ g u h => LWo.guardU (t := 57) u.1 rfl rfl rfl rfl (.nil (zn g))) ?_
           refine dq 64 rfl (fun _ g u h => LWo.guardU (t := 57) u.1 rfl rfl rfl rfl (.nil (zn g))) ?_
           refine dq 65 rfl (fun _ g u h => LWo.guardU (t := 57) u.1 rfl rfl rfl rfl (.nil (zn g))) ?_
           refine dq 66 rfl (fun _ g u h => LWo.guardNU (t := 48) u.1 h36 rfl rfl rfl rfl rfl (.nil (zn g))) ?_
           refine dq 67 rfl (fun _ g u h => LWo.guardY (t := 39) u.1 h34 rfl rfl (LWo.pickTM (e_bool true) u.2.1 h36 rfl (hn := .nil (zn g)))) ?_
           refine dq 68 rfl (fun _ g u h => LWo.pickTM (e_bool true) u.1 h34 u.2.1 (hn := .nil (zn g))) ?_
           refine ⟨rfl, by kernel_rfl, hN33 (t3, t5, t7, t8, true, o4, o1030) _ ⟨rfl, rfl, rfl, rfl, rfl, rfl, rfl, trivial⟩ ⟨rfl, rfl, trivial⟩ h⟩
          ·have h := bF h36 h
           refine bk h fun x37 e37 h => ?_
           refine bS ((o4.From == x37.From)) (fun h38 => ?_) (fun h38 => ?_)
           ·have h := bT h38 h
            refine bk h fun x39 e39 h => ?_
            refine LWP.drawF (l := [_,_,_,_,_,_,_,_,_,_,_,_,_,_,_,_,_,_,_,_,_,_,_,_,_,_,_,_,_,_,_,_]) [] [3, 4, 5, 6, 7, 8] [([7], []), ([37], []), ([38], []), ([4, 39], []), ([39, 40], [4]), ([3, 39], []), ([8, 39], []), ([39, 42, 43], []), ([39, 44], []), ([39, 45], []), ([39, 41, 46], []), ([39, 47], []), ([4, 48], []), ([48, 49], [4]), ([3, 48], []), ([8, 48], []), ([48, 51, 52], []), ([48, 53], []), ([48, 54], []), ([48, 50, 55], []), ([48, 56], []), ([4, 57], []), ([57, 58], [4]), ([3, 57], []), ([8, 57], []), ([57, 60, 61], []), ([57, 62], []), ([57, 63], []), ([57, 59, 64], []), ([48, 57, 65], []), ([39, 48, 66], []), ([39, 67], [])] [3, 4, 5, 6, 7, 8, 68] [4, 1030] mixed (by kernel_rfl) rfl (by decide) ?_
            refine dq 37 rfl (fun _ g u h => LWo.move (e_bool t7) u.1 (hn := .nil (zn g))) ?_
            refine dq 38 rfl (fun _ g u h => LWo.not u.1 (hn := .nil (zn g))) ?_
            refine dq 39 rfl (fun _ g u h => LWo.move (e_bool (!t7)) u.1 (hn := .nil (zn g))) ?_
            refine dq 40 rfl (fun _ g u h => LWo.guardY (t := 39) u.2.1 h34 rfl rfl (LWo.fieldPtr u_impl_Pair rfl s_int u.1 rfl (hn := .nil (zn g)))) ?_
            refine dq 41 rfl (fun _ g u h => LWo.guardY (t := 39) u.1 h34 rfl rfl (LWo.loadV1 (e_int o4.From)  g_int u.2.1 h.1 rfl (hn := .nil (zn g)))) ?_
            refine dq 42 rfl (fun _ g u h => LWo.guardY (t := 39) u.2.1 h34 rfl rfl (LWo.move (e_Limpl_Pair t3) u.1 (hn := .nil (zn g)))) ?_
            refine dq 43 rfl (fun _ g u h => LWo.guardY (t := 39) u.2.1 h34 rfl rfl (LWo.move (e_int t8) u.1 (hn := .nil (zn g)))) ?_
            refine dq 44 rfl (fun _ g u h => LWo.guardY (t := 39) u.1 h34 rfl rfl (LWo.indexM (f := e_impl_Pair) e35 u_Limpl_Pair s_impl_Pair u.2.1 u.2.2.1 (hn := .nil (zn g)))) ?_
            refine dq 45 rfl (fun _ g u h => LWo.guardY (t := 39) u.1 h34 rfl rfl (LWo.fieldAddr _ u_impl_Pair rfl s_int u.2.1 rfl (hn := .nil (zn g)))) ?_
            refine dq 46 rfl (fun _ g u h => LWo.guardY (t := 39) u.1 h34 rfl rfl (LWo.load1 (c := (e_int x35.From)) g_int u.2.1 (hn := .nil (zn g)))) ?_
            refine dq 47 rfl (fun _ g u h => LWo.guardY (t := 39) u.1 h34 rfl rfl (LWo.int _ u.2.1 u.2.2.1 rfl (hn := .nil (zn g)))) ?_
            refine dq 48 rfl (fun _ g u h => LWo.guardY (t := 39) u.1 h34 rfl rfl (LWo.move (e_bool (decide (o4.From < x35.From))) u.2.1 (hn := .nil (zn g)))) ?_
            refine dq 49 rfl (fun _ g u h => LWo.guardY (t := 48) u.2.1 h36 rfl rfl (LWo.fieldPtr u_impl_Pair rfl s_int u.1 rfl (hn := .nil (zn g)))) ?_
            refine dq 50 rfl (fun _ g u h => LWo.guardY (t := 48) u.1 h36 rfl rfl (LWo.loadV1 (e_int o4.From)  g_int u.2.1 h.1 rfl (hn := .nil (zn g)))) ?_
            refine dq 51 rfl (fun _ g u h => LWo.guardY (t := 48) u.2.1 h36 rfl rfl (LWo.move (e_Limpl_Pair t3) u.1 (hn := .nil (zn g)))) ?_
            refine dq 52 rfl (fun _ g u h => LWo.guardY (t := 48) u.2.1 h36 rfl rfl (LWo.move (e_int t8) u.1 (hn := .nil (zn g)))) ?_
            refine dq 53 rfl (fun _ g u h => LWo.guardY (t := 48) u.1 h36 rfl rfl (LWo.indexM (f := e_impl_Pair) e37 u_Limpl_Pair s_impl_Pair u.2.1 u.2.2.1 (hn := .nil (zn g)))) ?_
            refine dq 54 rfl (fun _ g u h => LWo.guardY (t := 48) u.1 h36 rfl rfl (LWo.fieldAddr _ u_impl_Pair rfl s_int u.2.1 rfl (hn := .nil (zn g)))) ?_
            refine dq 55 rfl (fun _ g u h => LWo.guardY (t := 48) u.1 h36 rfl rfl (LWo.load1 (c := (e_int x37.From)) g_int u.2.1 (hn := .nil (zn g)))) ?_
            refine dq 56 rfl (fun _ g u h => LWo.guardY (t := 48) u.1 h36 rfl rfl (LWo.int _ u.2.1 u.2.2.1 rfl (hn := .nil (zn g)))) ?_
            refine dq 57 rfl (fun _ g u h => LWo.guardY (t := 48) u.1 h36 rfl rfl (LWo.move (e_bool (o4.From == x37.From)) u.2.1 (hn := .nil (zn g)))) ?_
            refine dq 58 rfl (fun _ g u h => LWo.guardY (t := 57) u.2.1 h38 rfl rfl (LWo.fieldPtr u_impl_Pair rfl s_int u.1 rfl (hn := .nil (zn g)))) ?_
            refine dq 59 rfl (fun _ g u h => LWo.guardY (t := 57) u.1 h38 rfl rfl (LWo.loadV1 (e_int o4.To)  g_int u.2.1 h.1 rfl (hn := .nil (zn g)))) ?_
            refine dq 60 rfl (fun _ g u h => LWo.guardY (t := 57) u.2.1 h38 rfl rfl (LWo.move (e_Limpl_Pair t3) u.1 (hn := .nil (zn g)))) ?_
            refine dq 61 rfl (fun _ g u h => LWo.guardY (t := 57) u.2.1 h38 rfl rfl (LWo.move (e_int t8) u.1 (hn := .nil (zn g)))) ?_
            refine dq 62 rfl (fun _ g u h => LWo.guardY (t := 57) u.1 h38 rfl rfl (LWo.indexM (f := e_impl_Pair) e39 u_Limpl_Pair s_impl_Pair u.2.1 u.2.2.1 (hn := .nil (zn g)))) ?_
            refine dq 63 rfl (fun _ g u h => LWo.guardY (t := 57) u.1 h38 rfl rfl (LWo.fieldAddr _ u_impl_Pair rfl s_int u.2.1 rfl (hn := .nil (zn g)))) ?_
            refine dq 64 rfl (fun _ g u h => LWo.guardY (t := 57) u.1 h38 rfl rfl (LWo.load1 (c := (e_int x39.To)) g_int u.2.1 (hn := .nil (zn g)))) ?_
            refine dq 65 rfl (fun _ g u h => LWo.guardY (t := 57) u.1 h38 rfl rfl (LWo.int _ u.2.1 u.2.2.1 rfl (hn := .nil (zn g)))) ?_
            refine dq 66 rfl (fun _ g u h => LWo.guardY (t := 48) u.1 h36 rfl rfl (LWo.pickTM (e_bool (decide (o4.To < x39.To))) u.2.1 h38 u.2.2.1 (hn := .nil (zn g)))) ?_
            refine dq 67 rfl (fun _ g u h => LWo.guardY (t := 39) u.1 h34 rfl rfl (LWo.pickFM (e_bool (decide (o4.To < x39.To))) u.2.1 h36 u.2.2.1 (hn := .nil (zn g)))) ?_
            refine dq 68 rfl (fun _ g u h => LWo.pickTM (e_bool (decide (o4.To < x39.To))) u.1 h34 u.2.1 (hn := .nil (zn g))) ?_
            refine ⟨rfl, by kernel_rfl, hN33 (t3, t5, t7, t8, decide (o4.To < x39.To), o4, o1030) _ ⟨rfl, rfl, rfl, rfl, rfl, rfl, rfl, trivial⟩ ⟨rfl, rfl, trivial⟩ h⟩
           ·have h := bF h38 h
            refine LWP.drawF (l := [_,_,_,_,_,_,_,_,_,_,_,_,_,_,_,_,_,_,_,_,_,_,_,_,_,_,_,_,_,_,_,_]) [] [3, 4, 5, 6, 7, 8] [([7], []), ([37], []), ([38], []), ([4, 39], []), ([39, 40], [4]), ([3, 39], []), ([8, 39], []), ([39, 42, 43], []), ([39, 44], []), ([39, 45], []), ([39, 41, 46], []), ([39, 47], []), ([4, 48], []), ([48, 49], [4]), ([3, 48], []), ([8, 48], []), ([48, 51, 52], []), ([48, 53], []), ([48, 54], []), ([48, 50, 55], []), ([48, 56], []), ([4, 57], []), ([57, 58], []), ([3, 57], []), ([8, 57], []), ([57, 60, 61], []), ([57, 62], []), ([57, 63], []), ([57, 59, 64], []), ([48, 57, 65], []), ([39, 48, 66], []), ([39, 67], [])] [3, 4, 5, 6, 7, 8, 68] [4, 1030] mixed (by kernel_rfl) rfl (by decide) ?_
            refine dq 37 rfl (fun _ g u h => LWo.move (e_bool t7) u.1 (hn := .nil (zn g))) ?_
            refine dq 38 rfl (fun _ g u h => LWo.not u.1 (hn := .nil (zn g))) ?_
            refine dq 39 rfl (fun _ g u h => LWo.move (e_bool (!t7)) u.1 (hn := .nil (zn g))) ?_
            refine dq 40 rfl (fun _ g u h => LWo.guardY (t := 39) u.2.1 h34 rfl rfl (LWo.fieldPtr u_impl_Pair rfl s_int u.1 rfl (hn := .nil (zn g)))) ?_
            refine dq 41 rfl (fun _ g u h => LWo.guardY (t := 39) u.1 h34 rfl rfl (LWo.loadV1 (e_int o4.From)  g_int u.2.1 h.1 rfl (hn := .nil (zn g)))) ?_
            refine dq 42 rfl (fun _ g u h => LWo.guardY (t := 39) u.2.1 h34 rfl rfl (LWo.move (e_Limpl_Pair t3) u.1 (hn := .nil (zn g)))) ?_
            refine dq 43 rfl (fun _ g u h => LWo.guardY (t := 39) u.2.1 h34 rfl rfl (LWo.move (e_int t8) u.1 (hn := .nil (zn g)))) ?_
            refine dq 44 rfl (fun _ g u h => LWo.guardY (t := 39) u.1 h34 rfl rfl (LWo.indexM (f := e_impl_Pair) e35 u_Limpl_Pair s_impl_Pair u.2.1 u.2.2.1 (hn := .nil (zn g)))) ?_
            refine dq 45 rfl (fun _ g u h => LWo.guardY (t := 39) u.1 h34 rfl rfl (LWo.fieldAddr _ u_impl_Pair rfl s_int u.2.1 rfl (hn := .nil (zn g)))) ?_
            refine dq 46 rfl (fun _ g u h => LWo.guardY (t := 39) u.1 h34 rfl rfl (LWo.load1 (c := (e_int x35.From)) g_int u.2.1 (hn := .nil (zn g)))) ?_
            refine dq 47 rfl (fun _ g u h => LWo.guardY (t := 39) u.1 h34 rfl rfl (LWo.int _ u.2.1 u.2.2.1 rfl (hn := .nil (zn g)))) ?_
            refine dq 48 rfl (fun _ g u h => LWo.guardY (t := 39) u.1 h34 rfl rfl (LWo.move (e_bool (decide (o4.From < x35.From))) u.2.1 (hn := .nil (zn g)))) ?_
            refine dq 49 rfl (fun _ g u h => LWo.guardY (t := 48) u.2.1 h36 rfl rfl (LWo.fieldPtr u_impl_Pair rfl s_int u.1 rfl (hn := .nil (zn g)))) ?_
            refine dq 50 rfl (fun _ g u h => LWo.guardY (t := 48) u.1 h36 rfl rfl (LWo.loadV1 (e_int o4.From)  g_int u.2.1 h.1 rfl (hn := .nil (zn g)))) ?_
            refine dq 51 rfl (fun _ g u h => LWo.guardY (t := 48) u.2.1 h36 rfl rfl (LWo.move (e_Limpl_Pair t3) u.1 (hn := .nil (zn g)))) ?_
            refine dq 52 rfl (fun _ g u h => LWo.guardY (t := 48) u.2.1 h36 rfl rfl (LWo.move (e_int t8) u.1 (hn := .nil (zn g)))) ?_
            refine dq 53 rfl (fun _ g u h => LWo.guardY (t := 48) u.1 h36 rfl rfl (LWo.indexM (f := e_impl_Pair) e37 u_Limpl_Pair s_impl_Pair u.2.1 u.2.2.1 (hn := .nil (zn g)))) ?_
            refine dq 54 rfl (fun _ g u h => LWo.guardY (t := 48) u.1 h36 rfl rfl (LWo.fieldAddr _ u_impl_Pair rfl s_int u.2.1 rfl (hn := .nil (zn g)))) ?_
            refine dq 55 rfl (fun _ g u h => LWo.guardY (t := 48) u.1 h36 rfl rfl (LWo.load1 (c := (e_int x37.From)) g_int u.2.1 (hn := .nil (zn g)))) ?_
            refine dq 56 rfl (fun _ g u h => LWo.guardY (t := 48) u.1 h36 rfl rfl (LWo.int _ u.2.1 u.2.2.1 rfl (hn := .nil (zn g)))) ?_
            refine dq 57 rfl (fun _ g u h => LWo.guardY (t := 48) u.1 h36 rfl rfl (LWo.move (e_bool (o4.From == x37.From)) u.2.1 (hn := .nil (zn g)))) ?_
            refine dq 58 rfl (fun _ g u h => LWo.guardNU (t := 57) u.2.1 h38 rfl rfl rfl rfl rfl (.nil (zn g))) ?_
            refine dq 59 rfl (fun _ g u h => LWo.guardNU (t := 57) u.1 h38 rfl rfl rfl rfl rfl (.nil (zn g))) ?_
            refine dq 60 rfl (fun _ g u h => LWo.guardNU (t := 57) u.2.1 h38 rfl rfl rfl rfl rfl (.nil (zn g))) ?_
            refine dq 61 rfl (fun _ g u h => LWo.guardNU (t := 57) u.2.1 h38 rfl rfl rfl rfl rfl (.nil (zn g))) ?_
            refine dq 62 rfl (fun _ g u h => LWo.guardNU (t := 57) u.1 h38 rfl rfl rfl rfl rfl (.nil (zn g))) ?_
            refine dq 63 rfl (fun _ g u h => LWo.guardNU (t := 57) u.1 h38 rfl rfl rfl rfl rfl (.nil (zn g))) ?_
            refine dq 64 rfl (fun _ g u h => LWo.guardNU (t := 57) u.1 h38 rfl rfl rfl rfl rfl (.nil (zn g))) ?_
            refine dq 65 rfl (fun _ g u h => LWo.guardNU (t := 57) u.1 h38 rfl rfl rfl rfl rfl (.nil (zn g))) ?_
            refine dq 66 rfl (fun _ g u h => LWo.guardY (t := 48) u.1 h36 rfl rfl (LWo.pickFM (e_bool false) u.2.1 h38 rfl (hn := .nil (zn g)))) ?_
            refine dq 67 rfl (fun _ g u h => LWo.guardY (t := 39) u.1 h34 rfl rfl (LWo.pickFM (e_bool false) u.2.1 h36 u.2.2.1 (hn := .nil (zn g)))) ?_
            refine dq 68 rfl (fun _ g u h => LWo.pickTM (e_bool false) u.1 h34 u.2.1 (hn := .nil (zn g))) ?_
            refine ⟨rfl, by kernel_rfl, hN33 (t3, t5, t7, t8, false, o4, o1030) _ ⟨rfl, rfl, rfl, rfl, rfl, rfl, rfl, trivial⟩ ⟨rfl, rfl, trivial⟩ h⟩
         ·have h := bF h34 h
          refine LWP.drawF (l := [_,_,_,_,_,_,_,_,_,_,_,_,_,_,_,_,_,_,_,_,_,_,_,_,_,_,_,_,_,_,_,_]) [] [3, 4, 5, 6, 7, 8] [([7], []), ([37], []), ([38], []), ([4, 39], []), ([39, 40], []), ([3, 39], []), ([8, 39], []), ([39, 42, 43], []), ([39, 44], []), ([39, 45], []), ([39, 41, 46], []), ([39, 47], []), ([4, 48], []), ([48, 49], []), ([3, 48], []), ([8, 48], []), ([48, 51, 52], []), ([48, 53], []), ([48, 54], []), ([48, 50, 55], []), ([48, 56], []), ([4, 57], []), ([57, 58], []), ([3, 57], []), ([8, 57], []), ([57, 60, 61], []), ([57, 62], []), ([57, 63], []), ([57, 59, 64], []), ([48, 57, 65], []), ([39, 48, 66], []), ([39, 67], [])] [3, 4, 5, 6, 7, 8, 68] [4, 1030] mixed (by kernel_rfl) rfl (by decide) ?_
          refine dq 37 rfl (fun _ g u h => LWo.move (e_bool t7) u.1 (hn := .nil (zn g))) ?_
          refine dq 38 rfl (fun _ g u h => LWo.not u.1 (hn := .nil (zn g))) ?_
          refine dq 39 rfl (fun _ g u h => LWo.move (e_bool (!t7)) u.1 (hn := .nil (zn g))) ?_
          refine dq 40 rfl (fun _ g u h => LWo.guardNU (t := 39) u.2.1 h34 rfl rfl rfl rfl rfl (.nil (zn g))) ?_
          refine dq 41 rfl (fun _ g u h => LWo.guardNU (t := 39) u.1 h34 rfl rfl rfl rfl rfl (.nil (zn g))) ?_
          refine dq 42 rfl (fun _ g u h => LWo.guardNU (t := 39) u.2.1 h34 rfl rfl rfl rfl rfl (.nil (zn g))) ?_
          refine dq 43 rfl (fun _ g u h => LWo.guardNU (t := 39) u.2.1 h34 rfl rfl rfl rfl rfl (.nil (zn g))) ?_
          refine dq 44 rfl (fun _ g u h => LWo.guardNU (t := 39) u.1 h34 rfl rfl rfl rfl rfl (.nil (zn g))) ?_
          refine dq 45 rfl (fun _ g u h => LWo.guardNU (t := 39) u.1 h34 rfl rfl rfl rfl rfl (.nil (zn g))) ?_
          refine dq 46 rfl (fun _ g u h => LWo.guardNU (t := 39) u.1 h34 rfl rfl rfl rfl rfl (.nil (zn g))) ?_
          refine dq 47 rfl (fun _ g u h => LWo.guardNU (t := 39) u.1 h34 rfl rfl rfl rfl rfl (.nil (zn g))) ?_
          refine dq 48 rfl (fun _ g u h => LWo.guardNU (t := 39) u.1 h34 rfl rfl rfl rfl rfl (.nil (zn g))) ?_
          refine dq 49 rfl (fun _ g u h => LWo.guardU (t := 48) u.2.1 rfl rfl rfl rfl (.nil (zn g))) ?_
          refine dq 50 rfl (fun _ g u h => LWo.guardU (t := 48) u.1 rfl rfl rfl rfl (.nil (zn g))) ?_
          refine dq 51 rfl (fun _ g u h => LWo.guardU (t := 48) u.2.1 rfl rfl rfl rfl (.nil (zn g))) ?_
          refine dq 52 rfl (fun _ g u h => LWo.guardU (t := 48) u.2.1 rfl rfl rfl rfl (.nil (zn g))) ?_
          refine dq 53 rfl (fun _ g u h => LWo.guardU (t := 48) u.1 rfl rfl rfl rfl (.nil (zn g))) ?_
          refine dq 54 rfl (fun _ g u h => LWo.guardU (t := 48) u.1 rfl rfl rfl rfl (.nil (zn g))) ?_
          refine dq 55 rfl (fun _ g u h => LWo.guardU (t := 48) u.1 rfl rfl rfl rfl (.nil (zn g))) ?_
          refine dq 56 rfl (fun _ g u h => LWo.guardU (t := 48) u.1 rfl rfl rfl rfl (.nil (zn g))) ?_
          refine dq 57 rfl (fun _ g u h => LWo.guardU (t := 48) u.1 rfl rfl rfl rfl (.nil (zn g))) ?_
          refine dq 58 rfl (fun _ g u h => LWo.guardU (t := 57) u.2.1 rfl rfl rfl rfl (.nil (zn g))) ?_
          refine dq 59 rfl (fun _ g u h => LWo.guardU (t := 57) u.1 rfl rfl rfl rfl (.nil (zn g))) ?_
          refine dq 60 rfl (fun _ g u h => LWo.guardU (t := 57) u.2.1 rfl rfl rfl rfl (.nil (zn g))) ?_
          refine dq 61 rfl (fun _ g u h => LWo.guardU (t := 57) u.2.1 rfl rfl rfl rfl (.nil (zn g))) ?_
          refine dq 62 rfl (fun _ g u h => LWo.guardU (t := 57) u.1 rfl rfl rfl rfl (.nil (zn g))) ?_
          refine dq 63 rfl (fun _ g u h => LWo.guardU (t := 57) u.1 rfl rfl rfl rfl (.nil (zn g))) ?_
          refine dq 64 rfl (fun _ g u h => LWo.guardU (t := 57) u.1 rfl rfl rfl rfl (.nil (zn g))) ?_
          refine dq 65 rfl (fun _ g u h => LWo.guardU (t := 57) u.1 rfl rfl rfl rfl (.nil (zn g))) ?_
          refine dq 66 rfl (fun _ g u h => LWo.guardU (t := 48) u.1 rfl rfl rfl rfl (.nil (zn g))) ?_
          refine dq 67 rfl (fun _ g u h => LWo.guardNU (t := 39) u.1 h34 rfl rfl rfl rfl rfl (.nil (zn g))) ?_
          refine dq 68 rfl (fun _ g u h => LWo.pickFM (e_bool false) u.1 h34 rfl (hn := .nil (zn g))) ?_
          refine ⟨rfl, by kernel_rfl, hN33 (t3, t5, t7, t8, false, o4, o1030) _ ⟨rfl, rfl, rfl, rfl, rfl, rfl, rfl, trivial⟩ ⟨rfl, rfl, trivial⟩ h⟩
      ·have h := bF h30 h
       refine LWP.exit (hN24 (t5, t7, o4, o1030) _ ⟨rfl, rfl, rfl, rfl, trivial⟩ ⟨rfl, rfl, trivial⟩ h)
end Go.Proofs.Ytkgmomocjkmipaa
