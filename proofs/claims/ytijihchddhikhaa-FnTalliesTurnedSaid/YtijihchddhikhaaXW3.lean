/- Mirrors of functions, and that the functions return what the mirrors say. -/
import Derived.Test.YtijihchddhikhaaXW2
set_option linter.unusedVariables false
set_option linter.unusedSimpArgs false
set_option linter.unnecessarySimpa false
namespace Go.Proofs.Ytijihchddhikhaa
open Go.Proofs Go.Lift Go.RowKit
def m_spec_l20Tallies_j2 (o0 : S_spec_l20Rd) (o1009 : (List S_impl_Tally)) : Option ((List S_impl_Tally) × S_spec_l20Rd) :=
  some (o1009, o0)
def m_spec_l20Tallies_j1 (t17 : Bool) (o0 : S_spec_l20Rd) (o1009 : (List S_impl_Tally)) : Option ((List S_impl_Tally) × S_spec_l20Rd) :=
  bif t17 then ((m_Pspec_l20Rd_pick o0 (o1009.length : Int)).bind fun x11 =>
    (m_Pspec_l20Rd_pick x11.2 (4 : Int)).bind fun x13 =>
    bif (x13.1 == (0 : Int)) then ((m_Pspec_l20Rd_pick x13.2 (4 : Int)).bind fun x16 =>
      (ckI (x16.1 - (1 : Int))).bind fun x17 =>
      (at? o1009 x11.1).bind fun x18 =>
      (at? o1009 x11.1).bind fun x19 =>
      lt ({ x19 with Rows := x17 }) fun y20 =>
      m_spec_l20Tallies_j2  x16.2 (o1009.set (x11.1).toNat y20))
    else (bif (x13.1 == (1 : Int)) then ((at? o1009 x11.1).bind fun x23 =>
        (at? o1009 x11.1).bind fun x24 =>
        lt ({ x24 with Sum := (99999999 : Int) }) fun y25 =>
        m_spec_l20Tallies_j2  x13.2 (o1009.set (x11.1).toNat y25))
      else (bif (x13.1 == (2 : Int)) then ((m_Pspec_l20Rd_pick x13.2 (9 : Int)).bind fun x28 =>
          (ckI (x28.1 - (1 : Int))).bind fun x29 =>
          (at? o1009 x11.1).bind fun x30 =>
          (at? o1009 x11.1).bind fun x31 =>
          lt ({ x31 with Many := x29 }) fun y32 =>
          m_spec_l20Tallies_j2  x28.2 (o1009.set (x11.1).toNat y32))
        else ((at? o1009 x11.1).bind fun x33 =>
          (at? o1009 x11.1).bind fun x34 =>
          (app? o1009 ([x34] : (List S_impl_Tally))).bind fun x35 =>
          m_spec_l20Tallies_j2  x13.2 x35))))
  else (m_spec_l20Tallies_j2  o0 o1009)
def m_spec_l20Tallies (o0 : S_spec_l20Rd) (a1 : Int) : Option ((List S_impl_Tally) × S_spec_l20Rd) :=
  (m_spec_l20Twos o0 (0 : Int)).bind fun x3 =>
  (m_spec_TalliesOf x3.1).bind fun x4 =>
  bif decide ((x4.length : Int) > (0 : Int)) then ((m_Pspec_l20Rd_odd x3.2 a1).bind fun x8 =>
    m_spec_l20Tallies_j1  x8.1 x8.2 x4)
  else (m_spec_l20Tallies_j1  false x3.2 x4)
theorem c_spec_l20Tallies (o0 : S_spec_l20Rd) (a1 : Int) (r : ((List S_impl_Tally) × S_spec_l20Rd)) (h : m_spec_l20Tallies o0 a1 = some r) : Does Try.prog f_spec_l20Tallies [.ptr 0 0 0, e_int a1] [(0, (vob 2 e_spec_l20Rd o0))] (fun x hh => x = .nw 4 (r.1.map e_impl_Tally) false ∧ hh = [(0, (vob 2 e_spec_l20Rd r.2))]) := by
  refine Does.goG [0] F_spec_l20Tallies rfl e_spec_l20Tallies n_spec_l20Tallies rfl (rvs := [.tmp 4]) rfl rfl ?_
  intro w0 ok0 lent ρ0
  refine LWP.seq_k fun N1 hN1 => ?_
  refine LWP.region (l := [_]) ?_
  refine LWo.assign _ rfl (hn := ?_)
  refine LWo.ownNil 4 1004 4 rfl rfl rfl ?_
  refine LWo.known 4 (.own 1004 0 ([] : (List S_impl_Tally)).length) rfl ?_
  refine LWo.nil (hN1 _ ?_)
  refine LWP.seq_k fun N2 hN2 => ?_
  refine LWP.region (l := [_,_,_,_]) ?_
  refine LWo.move (.ptr 0 0 0) rfl (hn := ?_)
  refine bk h fun x3 e3 h => ?_
  refine LWo.lcall rfl rfl (k_spec_l20Twos _ _ _ e3 0) rfl rfl rfl (hn := ?_)
  refine bk h fun x4 e4 h => ?_
  refine LWo.ncall (e := e_impl_Tally) 1009 rfl rfl (c_spec_TalliesOf _ _ e4) (.same (.nil)) rfl (hn := ?_)
  refine LWo.assign (.own 1009 0 (x4).length) rfl (hn := ?_)
  refine LWo.nil (hN2 _ ?_)
  refine LWP.join (α := S_spec_l20Rd × (List S_impl_Tally)) (fun z : S_spec_l20Rd × (List S_impl_Tally) => [(5, (.own 1009 0 (z.2).length))]) (fun z : S_spec_l20Rd × (List S_impl_Tally) => [(0, (vob 2 e_spec_l20Rd z.1)), (1009, (lob 4 e_impl_Tally z.2))]) (fun z : S_spec_l20Rd × (List S_impl_Tally) => m_spec_l20Tallies_j2  z.1 z.2) r (fun _ => by simp [hkeys]) ?_ ?_
  ·rintro ⟨o0, o1009⟩ h
   replace h : m_spec_l20Tallies_j2  o0 o1009 = some _ := h
   refine LWP.seq_k fun N36 hN36 => ?_
   refine LWP.region (l := [_,_]) ?_
   refine LWo.move (.own 1009 0 (o1009).length) rfl (hn := ?_)
   refine LWo.assign (.own 1009 0 (o1009).length) rfl (hn := ?_)
   refine LWo.nil (hN36 _ ?_)
   obtain rfl := Option.some.inj h
   refine LWP.ret (QG.mk (.inr rfl) (.cons (.tmp (x := (.own 1009 0 (o1009).length)) rfl) (.nil)) (RetOK.one1 (.nwM rfl rfl) (by decide) rfl rfl rfl rfl rfl) rfl rfl)
  ·intro N5 hN5
   refine LWP.join (α := Bool × S_spec_l20Rd × (List S_impl_Tally)) (fun z : Bool × S_spec_l20Rd × (List S_impl_Tally) => [(0, (.ptr 0 0 0)), (5, (.own 1009 0 (z.2.2).length)), (17, (e_bool z.1))]) (fun z : Bool × S_spec_l20Rd × (List S_impl_Tally) => [(0, (vob 2 e_spec_l20Rd z.2.1)), (1009, (lob 4 e_impl_Tally z.2.2))]) (fun z : Bool × S_spec_l20Rd × (List S_impl_Tally) => m_spec_l20Tallies_j1  z.1 z.2.1 z.2.2) r (fun _ => by simp [hkeys]) ?_ ?_
   ·rintro ⟨t17, o0, o1009⟩ h
    replace h : m_spec_l20Tallies_j1  t17 o0 o1009 = some _ := h
    refine LWP.cond_split rfl (fun h9 => ?_) (fun h9 => ?_)
    ·have h := bT h9 h
     refine LWP.seq_k fun N10 hN10 => ?_
     refine LWP.region (l := [_,_,_,_,_]) ?_
     refine LWo.move (.ptr 0 0 0) rfl (hn := ?_)
     refine LWo.move (.own 1009 0 (o1009).length) rfl (hn := ?_)
     refine LWo.lenO u_Limpl_Tally rfl (hn := ?_)
     refine bk h fun x11 e11 h => ?_
     refine LWo.lcall rfl rfl (k_Pspec_l20Rd_pick _ _ _ e11 0) rfl rfl rfl (hn := ?_)
     refine LWo.assign (e_int x11.1) rfl (hn := ?_)
     refine LWo.nil (hN10 _ ?_)
     refine LWP.seq_k fun N12 hN12 => ?_
     refine LWP.region (l := [_,_]) ?_
     refine LWo.move (.ptr 0 0 0) rfl (hn := ?_)
     refine bk h fun x13 e13 h => ?_
     refine LWo.lcall rfl rfl (k_Pspec_l20Rd_pick _ _ _ e13 0) rfl rfl rfl (hn := ?_)
     refine LWo.nil (hN12 _ ?_)
     refine LWP.block ?_
     refine LWP.seq_k fun N14 hN14 => ?_
     refine LWP.region (l := [_,_]) ?_
     refine LWo.int _ rfl rfl rfl (hn := ?_)
     refine LWo.assign (e_bool (x13.1 == (0 : Int))) rfl (hn := ?_)
     refine LWo.nil (hN14 _ ?_)
     refine LWP.cond_split rfl (fun h15 => ?_) (fun h15 => ?_)
     ·have h := bT h15 h
      refine LWP.region (l := [_,_,_,_,_,_,_,_]) ?_
      refine LWo.move (.own 1009 0 (o1009).length) rfl (hn := ?_)
      refine LWo.move (e_int x11.1) rfl (hn := ?_)
      refine LWo.move (.ptr 0 0 0) rfl (hn := ?_)
      refine bk h fun x16 e16 h => ?_
      refine LWo.lcall rfl rfl (k_Pspec_l20Rd_pick _ _ _ e16 0) rfl rfl rfl (hn := ?_)
      refine bk h fun x17 e17 h => ?_
      refine LWo.int _ rfl rfl (sub_ck e17) (hn := ?_)
      refine bk h fun x18 e18 h => ?_
      refine LWo.indexO e18 rfl u_Limpl_Tally s_impl_Tally rfl rfl rfl (hn := ?_)
      refine LWo.fieldPtr u_impl_Tally rfl s_int rfl rfl (hn := ?_)
      refine bk h fun x19 e19 h => ?_
      refine lk h fun y20 e20 h => ?_
      refine LWo.storeO y20 e19 s_int rfl rfl rfl rfl rfl rfl rfl (by rw [e20]; rfl) (hn := ?_)
      refine LWo.nil (hN5 (x16.2, (o1009.set (x11.1).toNat y20)) _ ⟨(congrArg (LV.own 1009 0) List.length_set.symm), trivial⟩ ⟨rfl, rfl, trivial⟩ h)
     ·have h := bF h15 h
      refine LWP.seq_k fun N21 hN21 => ?_
      refine LWP.region (l := [_,_]) ?_
      refine LWo.int _ rfl rfl rfl (hn := ?_)
      refine LWo.assign (e_bool (x13.1 == (1 : Int))) rfl (hn := ?_)
      refine LWo.nil (hN21 _ ?_)
      refine LWP.cond_split rfl (fun h22 => ?_) (fun h22 => ?_)
      ·have h := bT h22 h
       refine LWP.region (l := [_,_,_,_,_]) ?_
       refine LWo.move (.own 1009 0 (o1009).length) rfl (hn := ?_)
       refine LWo.move (e_int x11.1) rfl (hn := ?_)
       refine bk h fun x23 e23 h => ?_
       refine LWo.indexO e23 rfl u_Limpl_Tally s_impl_Tally rfl rfl rfl (hn := ?_)
       refine LWo.fieldPtr u_impl_Tally rfl s_int rfl rfl (hn := ?_)
       refine bk h fun x24 e24 h => ?_
       refine lk h fun y25 e25 h => ?_
       refine LWo.storeO y25 e24 s_int rfl rfl rfl rfl rfl rfl rfl (by rw [e25]; rfl) (hn := ?_)
       refine LWo.nil (hN5 (x13.2, (o1009.set (x11.1).toNat y25)) _ ⟨(congrArg (LV.own 1009 0) List.length_set.symm), trivial⟩ ⟨rfl, rfl, trivial⟩ h)
      ·have h := bF h22 h
       refine LWP.seq_k fun N26 hN26 => ?_
       refine LWP.region (l := [_,_]) ?_
       refine LWo.int _ rfl rfl rfl (hn := ?_)
       refine LWo.assign (e_bool (x13.1 == (2 : Int))) rfl (hn := ?_)
       refine LWo.nil (hN26 _ ?_)
       refine LWP.cond_split rfl (fun h27 => ?_) (fun h27 => ?_)
       ·have h := bT h27 h
        refine LWP.region (l := [_,_,_,_,_,_,_,_]) ?_
        refine LWo.move (.own 1009 0 (o1009).length) rfl (hn := ?_)
        refine LWo.move (e_int x11.1) rfl (hn := ?_)
        refine LWo.move (.ptr 0 0 0) rfl (hn := ?_)
        refine bk h fun x28 e28 h => ?_
        refine LWo.lcall rfl rfl (k_Pspec_l20Rd_pick _ _ _ e28 0) rfl rfl rfl (hn := ?_)
        refine bk h fun x29 e29 h => ?_
        refine LWo.int _ rfl rfl (sub_ck e29) (hn := ?_)
        refine bk h fun x30 e30 h => ?_
        refine LWo.indexO e30 rfl u_Limpl_Tally s_impl_Tally rfl rfl rfl (hn := ?_)
        refine LWo.fieldPtr u_impl_Tally rfl s_int rfl rfl (hn := ?_)
        refine bk h fun x31 e31 h => ?_
        refine lk h fun y32 e32 h => ?_
        refine LWo.storeO y32 e31 s_int rfl rfl rfl rfl rfl rfl rfl (by rw [e32]; rfl) (hn := ?_)
        refine LWo.nil (hN5 (x28.2, (o1009.set (x11.1).toNat y32)) _ ⟨(congrArg (LV.own 1009 0) List.length_set.symm), trivial⟩ ⟨rfl, rfl, trivial⟩ h)
       ·have h := bF h27 h
        refine LWP.region (l := [_,_,_,_,_,_,_,_]) ?_
        refine LWo.move (.own 1009 0 (o1009).length) rfl (hn := ?_)
        refine LWo.move (.own 1009 0 (o1009).length) rfl (hn := ?_)
        refine LWo.move (e_int x11.1) rfl (hn := ?_)
        refine bk h fun x33 e33 h => ?_
        refine LWo.indexO e33 rfl u_Limpl_Tally s_impl_Tally rfl rfl rfl (hn := ?_)
        refine bk h fun x34 e34 h => ?_
        refine LWo.loadON ((e_impl_Tally x34)).cells e34 g_impl_Tally s_impl_Tally rfl rfl rfl rfl (hn := ?_)
        refine LWo.lit (ops := [_]) [(e_impl_Tally x34)] u_Limpl_Tally s_impl_Tally z_impl_Tally rfl rfl rfl rfl rfl rfl (hn := ?_)
        refine bk h fun x35 e35 h => ?_
        refine LWo.appendM (f := e_impl_Tally) e35 rfl u_Limpl_Tally u_Limpl_Tally (fun _ h => by cases h) s_impl_Tally i_impl_Tally rfl rfl rfl (.sl rfl) rfl rfl (hn := ?_)
        refine LWo.assign (.own 1009 0 (x35).length) rfl (hn := ?_)
        refine LWo.nil (hN5 (x13.2, x35) _ ⟨rfl, trivial⟩ ⟨rfl, rfl, trivial⟩ h)
    ·have h := bF h9 h
     refine LWP.skip (hN5 (o0, o1009) _ ⟨rfl, trivial⟩ ⟨rfl, rfl, trivial⟩ h)
   ·intro N6 hN6
    refine LWP.region (l := [_,_,_,_,_,_,_,_]) ?_
    refine LWo.move (.own 1009 0 (x4).length) rfl (hn := ?_)
    refine LWo.lenO u_Limpl_Tally rfl (hn := ?_)
    refine LWo.int _ rfl rfl rfl (hn := ?_)
    refine LWo.move (e_bool (decide ((x4.length : Int) > (0 : Int)))) rfl (hn := ?_)
    refine LWo.byCases (t := 13) _ rfl (fun h7 => ?_) (fun h7 => ?_)
    ·have h := bT h7 h
     refine LWo.guardY (t := 13) rfl h7 rfl rfl ?_
     refine LWo.move (.ptr 0 0 0) rfl (hn := ?_)
     refine LWo.guardY (t := 13) rfl h7 rfl rfl ?_
     refine LWo.move (e_int a1) rfl (hn := ?_)
     refine bk h fun x8 e8 h => ?_
     refine LWo.guardY (t := 13) rfl h7 rfl rfl ?_
     refine LWo.lcall rfl rfl (k_Pspec_l20Rd_odd _ _ _ e8 0) rfl rfl rfl (hn := ?_)
     refine LWo.pickTM (e_bool x8.1) rfl h7 rfl (hn := ?_)
     refine LWo.nil (hN6 (x8.1, x8.2, x4) _ ⟨rfl, rfl, rfl, trivial⟩ ⟨rfl, rfl, trivial⟩ h)
    ·have h := bF h7 h
     refine LWo.guardNU (t := 13) rfl h7 rfl rfl rfl rfl rfl ?_
     refine LWo.guardNU (t := 13) rfl h7 rfl rfl rfl rfl rfl ?_
     refine LWo.guardNU (t := 13) rfl h7 rfl rfl rfl rfl rfl ?_
     refine LWo.pickFM (e_bool false) rfl h7 rfl (hn := ?_)
     refine LWo.nil (hN6 (false, x3.2, x4) _ ⟨rfl, rfl, rfl, trivial⟩ ⟨rfl, rfl, trivial⟩ h)
theorem k_spec_l20Tallies (o0 : S_spec_l20Rd) (a1 : Int) (r : ((List S_impl_Tally) × S_spec_l20Rd)) (h : m_spec_l20Tallies o0 a1 = some r) (k : Nat) : Does Try.prog f_spec_l20Tallies [.ptr k 0 0, e_int a1] [(k, (vob 2 e_spec_l20Rd o0))] (fun x hh => x = .nw 4 (r.1.map e_impl_Tally) false ∧ hh = [(k, (vob 2 e_spec_l20Rd r.2))]) :=
  Does.nameV (c_spec_l20Tallies o0 a1 r h) rfl rfl rfl rfl rfl rfl k

def m_spec_DrawTalliesTurned_j3 (t7 : (List S_impl_Tally)) (o1015 : (List S_impl_Delta)) : Option ((List S_impl_Tally) × (List S_impl_Delta)) :=
  some (t7, o1015)
def m_spec_DrawTalliesTurned_j2 (t5 : (List (List S_impl_Value))) (o9 : S_spec_l20Rd) (o1015 : (List S_impl_Delta)) : Option ((List S_impl_Tally) × (List S_impl_Delta)) :=
  (m_spec_TalliesOf t5).bind fun x21 =>
  (m_Pspec_l20Rd_pick o9 (12 : Int)).bind fun x24 =>
  bif (x24.1 == (0 : Int)) then ((m_spec_l20Tallies x24.2 (1 : Int)).bind fun x26 =>
    m_spec_DrawTalliesTurned_j3  x26.1 o1015)
  else (m_spec_DrawTalliesTurned_j3  x21 o1015)
def m_spec_DrawTalliesTurned_j1 (t5 : (List (List S_impl_Value))) (t23 : Bool) (o9 : S_spec_l20Rd) (o1015 : (List S_impl_Delta)) : Option ((List S_impl_Tally) × (List S_impl_Delta)) :=
  bif t23 then ((m_Pspec_l20Rd_pick o9 (o1015.length : Int)).bind fun x14 =>
    (m_Pspec_l20Rd_pick x14.2 (9 : Int)).bind fun x15 =>
    (ckI (x15.1 - (6 : Int))).bind fun x16 =>
    (at? o1015 x14.1).bind fun x17 =>
    (at? o1015 x14.1).bind fun x18 =>
    lt ({ x18 with Many := x16 }) fun y19 =>
    m_spec_DrawTalliesTurned_j2  t5 x15.2 (o1015.set (x14.1).toNat y19))
  else (m_spec_DrawTalliesTurned_j2  t5 o9 o1015)
def m_spec_DrawTalliesTurned (a0 : (List UInt8)) : Option ((List S_impl_Tally) × (List S_impl_Delta)) :=
  (m_spec_l20Open a0).bind fun x3 =>
  (m_spec_l20Twos x3 (0 : Int)).bind fun x5 =>
  (m_spec_l20Twos x5.2 (0 : Int)).bind fun x7 =>
  (m_spec_DeltaOf x5.1 x7.1).bind fun x8 =>
  bif decide ((x8.length : Int) > (0 : Int)) then ((m_Pspec_l20Rd_pick x7.2 (5 : Int)).bind fun x12 =>
    m_spec_DrawTalliesTurned_j1  x5.1 (x12.1 == (0 : Int)) x12.2 x8)
  else (m_spec_DrawTalliesTurned_j1  x5.1 false x7.2 x8)
theorem c_spec_DrawTalliesTurned (a0 : (List UInt8)) (r : ((List S_impl_Tally) × (List S_impl_Delta))) (h : m_spec_DrawTalliesTurned a0 = some r) : Ret Try.prog f_spec_DrawTalliesTurned [e_Luint8 a0] (.tup [e_Limpl_Tally r.1, .nw 2 (r.2.map e_impl_Delta) false]) := by
  refine Does.goG [] F_spec_DrawTalliesTurned rfl e_spec_DrawTalliesTurned n_spec_DrawTalliesTurned rfl (rvs := [.tmp 2, .tmp 3]) rfl rfl ?_
  intro w0 ok0 lent ρ0
  refine LWP.seq_k fun N1 hN1 => ?_
  refine LWP.region (l := [_,_]) ?_
  refine LWo.assign _ rfl (hn := ?_)
  refine LWo.weakT 2 (e_Limpl_Tally ([] : (List S_impl_Tally))) rfl .nil ?_
  refine LWo.assign _ rfl (hn := ?_)
  refine LWo.ownNil 3 1003 2 rfl rfl rfl ?_
  refine LWo.known 3 (.own 1003 0 ([] : (List S_impl_Delta)).length) rfl ?_
  refine LWo.nil (hN1 _ ?_)
  refine LWP.seq_k fun N2 hN2 => ?_
  refine LWP.region (l := [_,_,_]) ?_
  refine LWo.move (e_Luint8 a0) rfl (hn := ?_)
  refine bk h fun x3 e3 h => ?_
  refine LWo.bcallM (e := e_spec_l20Rd) 9 rfl rfl (c_spec_l20Open _ _ e3) (.same (.nil)) rfl rfl rfl (hn := ?_)
  refine LWo.assign (.ptr 9 0 0) rfl (hn := ?_)
  refine LWo.nil (hN2 _ ?_)
  refine LWP.seq_k fun N4 hN4 => ?_
  refine LWP.region (l := [_,_,_]) ?_
  refine LWo.move (.ptr 9 0 0) rfl (hn := ?_)
  refine bk h fun x5 e5 h => ?_
  refine LWo.lcall rfl rfl (k_spec_l20Twos _ _ _ e5 9) rfl rfl rfl (hn := ?_)
  refine LWo.assign (e_LLimpl_Value x5.1) rfl (hn := ?_)
  refine LWo.nil (hN4 _ ?_)
  refine LWP.seq_k fun N6 hN6 => ?_
  refine LWP.region (l := [_,_,_,_,_]) ?_
  refine LWo.move (e_LLimpl_Value x5.1) rfl (hn := ?_)
  refine LWo.move (.ptr 9 0 0) rfl (hn := ?_)
  refine bk h fun x7 e7 h => ?_
  refine LWo.lcall rfl rfl (k_spec_l20Twos _ _ _ e7 9) rfl rfl rfl (hn := ?_)
  refine bk h fun x8 e8 h => ?_
  refine LWo.ncall (e := e_impl_Delta) 1015 rfl rfl (c_spec_DeltaOf _ _ _ e8) (.same (.same (.nil))) rfl (hn := ?_)
  refine LWo.assign (.own 1015 0 (x8).length) rfl (hn := ?_)
  refine LWo.nil (hN6 _ ?_)
  refine LWP.join (α := (List (List S_impl_Value)) × S_spec_l20Rd × (List S_impl_Delta)) (fun z : (List (List S_impl_Value)) × S_spec_l20Rd × (List S_impl_Delta) => [(4, (.ptr 9 0 0)), (5, (e_LLimpl_Value z.1)), (6, (.own 1015 0 (z.2.2).length))]) (fun z : (List (List S_impl_Value)) × S_spec_l20Rd × (List S_impl_Delta) => [(9, (vob 2 e_spec_l20Rd z.2.1)), (1015, (lob 2 e_impl_Delta z.2.2))]) (fun z : (List (List S_impl_Value)) × S_spec_l20Rd × (List S_impl_Delta) => m_spec_DrawTalliesTurned_j2  z.1 z.2.1 z.2.2) r (fun _ => by simp [hkeys]) ?_ ?_
  ·rintro ⟨t5, o9, o1015⟩ h
   replace h : m_spec_DrawTalliesTurned_j2  t5 o9 o1015 = some _ := h
   refine LWP.seq_k fun N20 hN20 => ?_
   refine LWP.region (l := [_,_,_]) ?_
   refine LWo.move (e_LLimpl_Value t5) rfl (hn := ?_)
   refine bk h fun x21 e21 h => ?_
   refine LWo.vcall rfl rfl (c_spec_TalliesOf _ _ e21) (.same (.nil)) (hn := ?_)
   refine LWo.assign (e_Limpl_Tally x21) rfl (hn := ?_)
   refine LWo.nil (hN20 _ ?_)
   refine LWP.join (α := (List S_impl_Tally) × (List S_impl_Delta)) (fun z : (List S_impl_Tally) × (List S_impl_Delta) => [(6, (.own 1015 0 (z.2).length)), (7, (e_Limpl_Tally z.1))]) (fun z : (List S_impl_Tally) × (List S_impl_Delta) => [(1015, (lob 2 e_impl_Delta z.2))]) (fun z : (List S_impl_Tally) × (List S_impl_Delta) => m_spec_DrawTalliesTurned_j3  z.1 z.2) r (fun _ => by simp [hkeys]) ?_ ?_
   ·rintro ⟨t7, o1015⟩ h
    replace h : m_spec_DrawTalliesTurned_j3  t7 o1015 = some _ := h
    refine LWP.seq_k fun N27 hN27 => ?_
    refine LWP.region (l := [_,_,_,_]) ?_
    refine LWo.move (e_Limpl_Tally t7) rfl (hn := ?_)
    refine LWo.move (.own 1015 0 (o1015).length) rfl (hn := ?_)
    refine LWo.assign (e_Limpl_Tally t7) rfl (hn := ?_)
    refine LWo.assign (.own 1015 0 (o1015).length) rfl (hn := ?_)
    refine LWo.nil (hN27 _ ?_)
    obtain rfl := Option.some.inj h
    refine LWP.ret (QG.mk (.inr rfl) (.cons (.tmp (x := (e_Limpl_Tally t7)) rfl) (.cons (.tmp (x := (.own 1015 0 (o1015).length)) rfl) (.nil))) (RetOK.many0 (.cons (.pure rfl) (.cons (.nwM rfl rfl) (.nil))) (by simp) (by decide)) rfl rfl)
   ·intro N22 hN22
    refine LWP.seq_k fun N23 hN23 => ?_
    refine LWP.region (l := [_,_,_]) ?_
    refine LWo.move (.ptr 9 0 0) rfl (hn := ?_)
    refine bk h fun x24 e24 h => ?_
    refine LWo.lcall rfl rfl (k_Pspec_l20Rd_pick _ _ _ e24 9) rfl rfl rfl (hn := ?_)
    refine LWo.int _ rfl rfl rfl (hn := ?_)
    refine LWo.nil (hN23 _ ?_)
    refine LWP.cond_split rfl (fun h25 => ?_) (fun h25 => ?_)
    ·have h := bT h25 h
     refine LWP.region (l := [_,_,_]) ?_
     refine LWo.move (.ptr 9 0 0) rfl (hn := ?_)
     refine bk h fun x26 e26 h => ?_
     refine LWo.lcall rfl rfl (k_spec_l20Tallies _ _ _ e26 9) rfl rfl rfl (hn := ?_)
     refine LWo.assign (e_Limpl_Tally x26.1) rfl (hn := ?_)
     refine LWo.nil (hN22 (x26.1, o1015) _ ⟨rfl, rfl, trivial⟩ ⟨rfl, trivial⟩ h)
    ·have h := bF h25 h
     refine LWP.skip (hN22 (x21, o1015) _ ⟨rfl, rfl, trivial⟩ ⟨rfl, trivial⟩ h)
  ·intro N9 hN9
   refine LWP.join (α := (List (List S_impl_Value)) × Bool × S_spec_l20Rd × (List S_impl_Delta)) (fun z : (List (List S_impl_Value)) × Bool × S_spec_l20Rd × (List S_impl_Delta) => [(4, (.ptr 9 0 0)), (5, (e_LLimpl_Value z.1)), (6, (.own 1015 0 (z.2.2.2).length)), (23, (e_bool z.2.1))]) (fun z : (List (List S_impl_Value)) × Bool × S_spec_l20Rd × (List S_impl_Delta) => [(9, (vob 2 e_spec_l20Rd z.2.2.1)), (1015, (lob 2 e_impl_Delta z.2.2.2))]) (fun z : (List (List S_impl_Value)) × Bool × S_spec_l20Rd × (List S_impl_Delta) => m_spec_DrawTalliesTurned_j1  z.1 z.2.1 z.2.2.1 z.2.2.2) r (fun _ => by simp [hkeys]) ?_ ?_
   ·rintro ⟨t5, t23, o9, o1015⟩ h
    replace h : m_spec_DrawTalliesTurned_j1  t5 t23 o9 o1015 = some _ := h
    refine LWP.cond_split rfl (fun h13 => ?_) (fun h13 => ?_)
    ·have h := bT h13 h
     refine LWP.region (l := [_,_,_,_,_,_,_,_,_,_,_]) ?_
     refine LWo.move (.own 1015 0 (o1015).length) rfl (hn := ?_)
     refine LWo.move (.ptr 9 0 0) rfl (hn := ?_)
     refine LWo.move (.own 1015 0 (o1015).length) rfl (hn := ?_)
     refine LWo.lenO u_Limpl_Delta rfl (hn := ?_)
     refine bk h fun x14 e14 h => ?_
     refine LWo.lcall rfl rfl (k_Pspec_l20Rd_pick _ _ _ e14 9) rfl rfl rfl (hn := ?_)
     refine LWo.move (.ptr 9 0 0) rfl (hn := ?_)
     refine bk h fun x15 e15 h => ?_
     refine LWo.lcall rfl rfl (k_Pspec_l20Rd_pick _ _ _ e15 9) rfl rfl rfl (hn := ?_)
     refine bk h fun x16 e16 h => ?_
     refine LWo.int _ rfl rfl (sub_ck e16) (hn := ?_)
     refine bk h fun x17 e17 h => ?_
     refine LWo.indexO e17 rfl u_Limpl_Delta s_impl_Delta rfl rfl rfl (hn := ?_)
     refine LWo.fieldPtr u_impl_Delta rfl s_int rfl rfl (hn := ?_)
     refine bk h fun x18 e18 h => ?_
     refine lk h fun y19 e19 h => ?_
     refine LWo.storeO y19 e18 s_int rfl rfl rfl rfl rfl rfl rfl (by rw [e19]; rfl) (hn := ?_)
     refine LWo.nil (hN9 (t5, x15.2, (o1015.set (x14.1).toNat y19)) _ ⟨rfl, rfl, (congrArg (LV.own 1015 0) List.length_set.symm), trivial⟩ ⟨rfl, rfl, trivial⟩ h)
    ·have h := bF h13 h
     refine LWP.skip (hN9 (t5, o9, o1015) _ ⟨rfl, rfl, rfl, trivial⟩ ⟨rfl, rfl, trivial⟩ h)
   ·intro N10 hN10
    refine LWP.region (l := [_,_,_,_,_,_,_,_]) ?_
    refine LWo.move (.own 1015 0 (x8).length) rfl (hn := ?_)
    refine LWo.lenO u_Limpl_Delta rfl (hn := ?_)
    refine LWo.int _ rfl rfl rfl (hn := ?_)
    refine LWo.move (e_bool (decide ((x8.length : Int) > (0 : Int)))) rfl (hn := ?_)
    refine LWo.byCases (t := 19) _ rfl (fun h11 => ?_) (fun h11 => ?_)
    ·have h := bT h11 h
     refine LWo.guardY (t := 19) rfl h11 rfl rfl ?_
     refine LWo.move (.ptr 9 0 0) rfl (hn := ?_)
     refine bk h fun x12 e12 h => ?_
     refine LWo.guardY (t := 19) rfl h11 rfl rfl ?_
     refine LWo.lcall rfl rfl (k_Pspec_l20Rd_pick _ _ _ e12 9) rfl rfl rfl (hn := ?_)
     refine LWo.guardY (t := 19) rfl h11 rfl rfl ?_
     refine LWo.int _ rfl rfl rfl (hn := ?_)
     refine LWo.pickTM (e_bool (x12.1 == (0 : Int))) rfl h11 rfl (hn := ?_)
     refine LWo.nil (hN10 (x5.1, (x12.1 == (0 : Int)), x12.2, x8) _ ⟨rfl, rfl, rfl, rfl, trivial⟩ ⟨rfl, rfl, trivial⟩ h)
    ·have h := bF h11 h
     refine LWo.guardNU (t := 19) rfl h11 rfl rfl rfl rfl rfl ?_
     refine LWo.guardNU (t := 19) rfl h11 rfl rfl rfl rfl rfl ?_
     refine LWo.guardNU (t := 19) rfl h11 rfl rfl rfl rfl rfl ?_
     refine LWo.pickFM (e_bool false) rfl h11 rfl (hn := ?_)
     refine LWo.nil (hN10 (x5.1, false, x7.2, x8) _ ⟨rfl, rfl, rfl, rfl, trivial⟩ ⟨rfl, rfl, trivial⟩ h)

def m_slices_IndexFunc_Limpl_Value_impl_Value_j1 (p1 : S_impl_Value → Option Bool)  : Option Int :=
  some (-1 : Int)
def m_slices_IndexFunc_Limpl_Value_impl_Value_l1 (p1 : S_impl_Value → Option Bool) : Nat → (List S_impl_Value) → Int → Int → Option Int
  | 0, _, _, _ => none
  | n1 + 1, t0, t7, t8 =>
    bif decide (t8 < t7) then ((at? t0 t8).bind fun x12 =>
    (p1 x12).bind fun x13 =>
    bif x13 then (some t8)
    else ((ckI (t8 + (1 : Int))).bind fun x16 =>
    (m_slices_IndexFunc_Limpl_Value_impl_Value_l1 p1 n1) t0 t7 x16))
    else (m_slices_IndexFunc_Limpl_Value_impl_Value_j1 p1 )
def m_slices_IndexFunc_Limpl_Value_impl_Value (a0 : (List S_impl_Value)) (p1 : S_impl_Value → Option Bool) : Option Int :=
  m_slices_IndexFunc_Limpl_Value_impl_Value_l1 p1 (((a0.length : Int) - (0 : Int)).toNat + 1) a0 (a0.length : Int) (0 : Int)
theorem c_slices_IndexFunc_Limpl_Value_impl_Value (a0 : (List S_impl_Value)) (p1 : S_impl_Value → Option Bool) (f1 : FuncId) (q1 : List LV) (hq1 : ∀ k, LV.at?.atL k q1 = false) (hf1 : ∀ a0 v, p1 a0 = some v → Ret Try.prog f1 (e_impl_Value a0 :: q1) (e_bool v)) (r : Int) (h : m_slices_IndexFunc_Limpl_Value_impl_Value a0 p1 = some r) : Ret Try.prog f_slices_IndexFunc_Limpl_Value_impl_Value [e_Limpl_Value a0, .clo f1 q1] (e_int r) := by
  refine Does.goG [] F_slices_IndexFunc_Limpl_Value_impl_Value rfl e_slices_IndexFunc_Limpl_Value_impl_Value n_slices_IndexFunc_Limpl_Value_impl_Value rfl (rvs := [.tmp 4]) rfl rfl ?_
  intro w0 ok0 lent ρ0
  refine LWP.seq_k fun N1 hN1 => ?_
  refine LWP.region (l := [_]) ?_
  refine LWo.assign (e_int (0 : Int)) rfl (hn := ?_)
  refine LWo.nil (hN1 _ ?_)
  refine LWP.join (α := Unit) (fun z : Unit => []) (fun z : Unit => []) (fun z : Unit => m_slices_IndexFunc_Limpl_Value_impl_Value_j1 p1 ) r (fun _ => by simp [hkeys]) ?_ ?_
  ·rintro _ h
   replace h : m_slices_IndexFunc_Limpl_Value_impl_Value_j1 p1  = some _ := h
   refine LWP.seq_k fun N17 hN17 => ?_
   refine LWP.region (l := [_]) ?_
   refine LWo.assign (e_int (-1 : Int)) rfl (hn := ?_)
   refine LWo.nil (hN17 _ ?_)
   obtain rfl := Option.some.inj h
   refine LWP.ret (QG.mk (.inr rfl) (.cons (.tmp (x := (e_int (-1 : Int))) rfl) (.nil)) (RetOK.one0 (.pure rfl) (by decide)) rfl rfl)
  ·intro N2 hN2
   refine LWP.seq_k fun N3 hN3 => ?_
   refine LWP.region (l := [_,_,_]) ?_
   refine LWo.move (e_Limpl_Value a0) rfl (hn := ?_)
   refine LWo.lenM (f := e_impl_Value) (l := a0) u_Limpl_Value rfl (hn := ?_)
   refine LWo.move (e_int (0 : Int)) rfl (hn := ?_)
   refine LWo.nil (hN3 _ ?_)
   refine LWP.block ?_
   refine LWP.loopM (α := (List S_impl_Value) × Int × Int) (fun z : (List S_impl_Value) × Int × Int => [(0, (e_Limpl_Value z.1)), (1, (.clo f1 q1)), (7, (e_int z.2.1)), (8, (e_int z.2.2))]) (fun z : (List S_impl_Value) × Int × Int => []) (fun n1 (z : (List S_impl_Value) × Int × Int) => m_slices_IndexFunc_Limpl_Value_impl_Value_l1 p1 n1 z.1 z.2.1 z.2.2) r _ (a0, (a0.length : Int), (0 : Int)) h (fun _ => rfl) (fun _ => by simp [hkeys]) ⟨rfl, rfl, rfl, rfl, trivial⟩ trivial ?_
   rintro n1 ⟨t0, t7, t8⟩ h N4 hN4
   replace h : m_slices_IndexFunc_Limpl_Value_impl_Value_l1 p1 (n1 + 1) t0 t7 t8 = some _ := h
   refine LWP.seq_k fun N6 hN6 => ?_
   refine LWP.region (l := [_]) ?_
   refine LWo.int _ rfl rfl rfl (hn := ?_)
   refine LWo.nil (hN6 _ ?_)
   refine LWP.seq_k fun N7 hN7 => ?_
   refine LWP.cond_split rfl (fun h8 => ?_) (fun h8 => ?_)
   ·have h := bT h8 h
    refine LWP.skip (hN7 _ ?_)
    refine LWP.seq_k fun N9 hN9 => ?_
    refine LWP.block ?_
    refine LWP.seq_k fun N10 hN10 => ?_
    refine LWP.region (l := [_,_]) ?_
    refine LWo.move (e_int t8) rfl (hn := ?_)
    refine LWo.assign (e_int t8) rfl (hn := ?_)
    refine LWo.nil (hN10 _ ?_)
    refine LWP.seq_k fun N11 hN11 => ?_
    refine LWP.region (l := [_,_,_,_,_,_]) ?_
    refine LWo.move (.clo f1 q1) rfl (hn := ?_)
    refine LWo.move (e_Limpl_Value t0) rfl (hn := ?_)
    refine LWo.move (e_int t8) rfl (hn := ?_)
    refine bk h fun x12 e12 h => ?_
    refine LWo.indexM (f := e_impl_Value) e12 u_Limpl_Value s_impl_Value rfl rfl (hn := ?_)
    refine LWo.loadN ((e_impl_Value x12)).cells g_impl_Value s_impl_Value rfl (Nat.le_of_ble_eq_true rfl) rfl (hn := ?_)
    refine bk h fun x13 e13 h => ?_
    refine LWo.vcall rfl rfl (hf1 _ _ e13) .refl (hn := ?_)
    refine LWo.nil (hN11 _ ?_)
    refine LWP.cond_split rfl (fun h14 => ?_) (fun h14 => ?_)
    ·have h := bT h14 h
     refine LWP.seq_k fun N15 hN15 => ?_
     refine LWP.region (l := [_,_]) ?_
     refine LWo.move (e_int t8) rfl (hn := ?_)
     refine LWo.assign (e_int t8) rfl (hn := ?_)
     refine LWo.nil (hN15 _ ?_)
     obtain rfl := Option.some.inj h
     refine LWP.ret (QG.mk (.inr rfl) (.cons (.tmp (x := (e_int t8)) rfl) (.nil)) (RetOK.one0 (.pure rfl) (by decide)) rfl rfl)
    ·have h := bF h14 h
     refine LWP.skip (hN9 _ ?_)
     refine LWP.region (l := [_,_]) ?_
     refine bk h fun x16 e16 h => ?_
     refine LWo.int _ rfl rfl (add_ck e16) (hn := ?_)
     refine LWo.move (e_int x16) rfl (hn := ?_)
     refine LWo.nil (hN4 (t0, t7, x16) _ ⟨rfl, rfl, rfl, rfl, trivial⟩ trivial h)
   ·have h := bF h8 h
    refine LWP.exit (hN2 () _ trivial trivial h)

def m_slices_ContainsFunc_Limpl_Value_impl_Value (a0 : (List S_impl_Value)) (p1 : S_impl_Value → Option Bool) : Option Bool :=
  (m_slices_IndexFunc_Limpl_Value_impl_Value a0 p1).bind fun x3 =>
  some (decide (x3 ≥ (0 : Int)))
theorem c_slices_ContainsFunc_Limpl_Value_impl_Value (a0 : (List S_impl_Value)) (p1 : S_impl_Value → Option Bool) (f1 : FuncId) (q1 : List LV) (hq1 : ∀ k, LV.at?.atL k q1 = false) (hf1 : ∀ a0 v, p1 a0 = some v → Ret Try.prog f1 (e_impl_Value a0 :: q1) (e_bool v)) (r : Bool) (h : m_slices_ContainsFunc_Limpl_Value_impl_Value a0 p1 = some r) : Ret Try.prog f_slices_ContainsFunc_Limpl_Value_impl_Value [e_Limpl_Value a0, .clo f1 q1] (e_bool r) := by
  refine Does.goG [] F_slices_ContainsFunc_Limpl_Value_impl_Value rfl e_slices_ContainsFunc_Limpl_Value_impl_Value n_slices_ContainsFunc_Limpl_Value_impl_Value rfl (rvs := [.tmp 4]) rfl rfl ?_
  intro w0 ok0 lent ρ0
  refine LWP.seq_k fun N1 hN1 => ?_
  refine LWP.region (l := [_]) ?_
  refine LWo.assign (e_bool false) rfl (hn := ?_)
  refine LWo.nil (hN1 _ ?_)
  refine LWP.seq_k fun N2 hN2 => ?_
  refine LWP.region (l := [_,_,_,_,_]) ?_
  refine LWo.move (e_Limpl_Value a0) rfl (hn := ?_)
  refine LWo.move (.clo f1 q1) rfl (hn := ?_)
  refine bk h fun x3 e3 h => ?_
  refine LWo.vcall rfl rfl (c_slices_IndexFunc_Limpl_Value_impl_Value _ _ f1 q1 hq1 hf1 _ e3) (.same (.same (.nil))) (hn := ?_)
  refine LWo.int _ rfl rfl rfl (hn := ?_)
  refine LWo.assign (e_bool (decide (x3 ≥ (0 : Int)))) rfl (hn := ?_)
  refine LWo.nil (hN2 _ ?_)
  obtain rfl := Option.some.inj h
  refine LWP.ret (QG.mk (.inr rfl) (.cons (.tmp (x := (e_bool (decide (x3 ≥ (0 : Int))))) rfl) (.nil)) (RetOK.one0 (.pure rfl) (by decide)) rfl rfl)

def m_impl_between_j1 (t6 : Bool) : Option Bool :=
  some t6
def m_impl_between (a0 : Int) (a1 : Int) (a2 : Int) : Option Bool :=
  bif decide (a0 ≥ a1) then (m_impl_between_j1  (decide (a0 ≤ a2)))
  else (m_impl_between_j1  false)
theorem c_impl_between (a0 : Int) (a1 : Int) (a2 : Int) (r : Bool) (h : m_impl_between a0 a1 a2 = some r) : Ret Try.prog f_impl_between [e_int a0, e_int a1, e_int a2] (e_bool r) := by
  refine Does.goG [] F_impl_between rfl e_impl_between n_impl_between rfl (rvs := [.tmp 6]) rfl rfl ?_
  intro w0 ok0 lent ρ0
  refine LWP.seq_k fun N1 hN1 => ?_
  refine LWP.region (l := [_]) ?_
  refine LWo.assign (e_bool false) rfl (hn := ?_)
  refine LWo.nil (hN1 _ ?_)
  refine LWP.join (α := Bool) (fun z : Bool => [(6, (e_bool z))]) (fun z : Bool => []) (fun z : Bool => m_impl_between_j1  z) r (fun _ => by simp [hkeys]) ?_ ?_
  ·rintro t6 h
   replace h : m_impl_between_j1  t6 = some _ := h
   obtain rfl := Option.some.inj h
   refine LWP.ret (QG.mk (.inr rfl) (.cons (.tmp (x := (e_bool t6)) rfl) (.nil)) (RetOK.one0 (.pure rfl) (by decide)) rfl rfl)
  ·intro N2 hN2
   refine LWP.region (l := [_,_,_,_,_,_,_,_,_]) ?_
   refine LWo.move (e_int a0) rfl (hn := ?_)
   refine LWo.move (e_int a1) rfl (hn := ?_)
   refine LWo.int _ rfl rfl rfl (hn := ?_)
   refine LWo.move (e_bool (decide (a0 ≥ a1))) rfl (hn := ?_)
   refine LWo.byCases (t := 10) _ rfl (fun h3 => ?_) (fun h3 => ?_)
   ·have h := bT h3 h
    refine LWo.guardY (t := 10) rfl h3 rfl rfl ?_
    refine LWo.move (e_int a0) rfl (hn := ?_)
    refine LWo.guardY (t := 10) rfl h3 rfl rfl ?_
    refine LWo.move (e_int a2) rfl (hn := ?_)
    refine LWo.guardY (t := 10) rfl h3 rfl rfl ?_
    refine LWo.int _ rfl rfl rfl (hn := ?_)
    refine LWo.pickTM (e_bool (decide (a0 ≤ a2))) rfl h3 rfl (hn := ?_)
    refine LWo.assign (e_bool (decide (a0 ≤ a2))) rfl (hn := ?_)
    refine LWo.nil (hN2 (decide (a0 ≤ a2)) _ ⟨rfl, trivial⟩ trivial h)
   ·have h := bF h3 h
    refine LWo.guardNU (t := 10) rfl h3 rfl rfl rfl rfl rfl ?_
    refine LWo.guardNU (t := 10) rfl h3 rfl rfl rfl rfl rfl ?_
    refine LWo.guardNU (t := 10) rfl h3 rfl rfl rfl rfl rfl ?_
    refine LWo.pickFM (e_bool false) rfl h3 rfl (hn := ?_)
    refine LWo.assign (e_bool false) rfl (hn := ?_)
    refine LWo.nil (hN2 false _ ⟨rfl, trivial⟩ trivial h)

def m_impl_letters_j1  : Option Bool :=
  some true
def m_impl_letters_l1 : Nat → (List UInt8) → Int → Int → Option Bool
  | 0, _, _, _ => none
  | n1 + 1, t6, t7, t8 =>
    bif decide (t8 < t7) then ((at? t6 t8).bind fun x12 =>
    (m_impl_between (x12.toNat : Int) (97 : Int) (122 : Int)).bind fun x14 =>
    bif (!x14) then (some false)
    else ((ckI (t8 + (1 : Int))).bind fun x17 =>
    (m_impl_letters_l1  n1) t6 t7 x17))
    else (m_impl_letters_j1  )
def m_impl_letters (a0 : ByteArray) : Option Bool :=
  (sBytes? a0).bind fun x4 =>
  m_impl_letters_l1  (((x4.length : Int) - (0 : Int)).toNat + 1) x4 (x4.length : Int) (0 : Int)
theorem c_impl_letters (a0 : ByteArray) (r : Bool) (h : m_impl_letters a0 = some r) : Ret Try.prog f_impl_letters [e_string a0] (e_bool r) := by
  refine Does.goG [] F_impl_letters rfl e_impl_letters n_impl_letters rfl (rvs := [.tmp 2]) rfl rfl ?_
  intro w0 ok0 lent ρ0
  refine LWP.seq_k fun N1 hN1 => ?_
  refine LWP.region (l := [_]) ?_
  refine LWo.assign (e_bool false) rfl (hn := ?_)
  refine LWo.nil (hN1 _ ?_)
  refine LWP.join (α := Unit) (fun z : Unit => []) (fun z : Unit => []) (fun z : Unit => m_impl_letters_j1  ) r (fun _ => by simp [hkeys]) ?_ ?_
  ·rintro _ h
   replace h : m_impl_letters_j1   = some _ := h
   refine LWP.seq_k fun N18 hN18 => ?_
   refine LWP.region (l := [_]) ?_
   refine LWo.assign (e_bool true) rfl (hn := ?_)
   refine LWo.nil (hN18 _ ?_)
   obtain rfl := Option.some.inj h
   refine LWP.ret (QG.mk (.inr rfl) (.cons (.tmp (x := (e_bool true)) rfl) (.nil)) (RetOK.one0 (.pure rfl) (by decide)) rfl rfl)
  ·intro N2 hN2
   refine LWP.seq_k fun N3 hN3 => ?_
   refine LWP.region (l := [_,_,_,_]) ?_
   refine LWo.move (e_string a0) rfl (hn := ?_)
   refine bk h fun x4 e4 h => ?_
   refine LWo.bytesM e4 u_string u_Luint8 u_uint8 rfl (hn := ?_)
   refine LWo.lenM (f := e_uint8) (l := x4) u_Luint8 rfl (hn := ?_)
   refine LWo.move (e_int (0 : Int)) rfl (hn := ?_)
   refine LWo.nil (hN3 _ ?_)
   refine LWP.block ?_
   refine LWP.loopM (α := (List UInt8) × Int × Int) (fun z : (List UInt8) × Int × Int => [(6, (e_Luint8 z.1)), (7, (e_int z.2.1)), (8, (e_int z.2.2))]) (fun z : (List UInt8) × Int × Int => []) (fun n1 (z : (List UInt8) × Int × Int) => m_impl_letters_l1  n1 z.1 z.2.1 z.2.2) r _ (x4, (x4.length : Int), (0 : Int)) h (fun _ => rfl) (fun _ => by simp [hkeys]) ⟨rfl, rfl, rfl, trivial⟩ trivial ?_
   rintro n1 ⟨t6, t7, t8⟩ h N5 hN5
   replace h : m_impl_letters_l1  (n1 + 1) t6 t7 t8 = some _ := h
   refine LWP.seq_k fun N7 hN7 => ?_
   refine LWP.region (l := [_]) ?_
   refine LWo.int _ rfl rfl rfl (hn := ?_)
   refine LWo.nil (hN7 _ ?_)
   refine LWP.seq_k fun N8 hN8 => ?_
   refine LWP.cond_split rfl (fun h9 => ?_) (fun h9 => ?_)
   ·have h := bT h9 h
    refine LWP.skip (hN8 _ ?_)
    refine LWP.seq_k fun N10 hN10 => ?_
    refine LWP.block ?_
    refine LWP.seq_k fun N11 hN11 => ?_
    refine LWP.region (l := [_,_,_]) ?_
    refine bk h fun x12 e12 h => ?_
    refine LWo.indexM (f := e_uint8) e12 u_Luint8 s_uint8 rfl rfl (hn := ?_)
    refine LWo.load1 (c := (e_uint8 x12)) g_uint8 rfl (hn := ?_)
    refine LWo.assign (e_uint8 x12) rfl (hn := ?_)
    refine LWo.nil (hN11 _ ?_)
    refine LWP.seq_k fun N13 hN13 => ?_
    refine LWP.region (l := [_,_,_,_]) ?_
    refine LWo.move (e_uint8 x12) rfl (hn := ?_)
    refine LWo.convByte _ u_uint8 u_int rfl (hn := ?_)
    refine bk h fun x14 e14 h => ?_
    refine LWo.vcall rfl rfl (c_impl_between _ _ _ _ e14) (.same (.same (.same (.nil)))) (hn := ?_)
    refine LWo.not rfl (hn := ?_)
    refine LWo.nil (hN13 _ ?_)
    refine LWP.cond_split rfl (fun h15 => ?_) (fun h15 => ?_)
    ·have h := bT h15 h
     refine LWP.seq_k fun N16 hN16 => ?_
     refine LWP.region (l := [_]) ?_
     refine LWo.assign (e_bool false) rfl (hn := ?_)
     refine LWo.nil (hN16 _ ?_)
     obtain rfl := Option.some.inj h
     refine LWP.ret (QG.mk (.inr rfl) (.cons (.tmp (x := (e_bool false)) rfl) (.nil)) (RetOK.one0 (.pure rfl) (by decide)) rfl rfl)
    ·have h := bF h15 h
     refine LWP.skip (hN10 _ ?_)
     refine LWP.region (l := [_,_]) ?_
     refine bk h fun x17 e17 h => ?_
     refine LWo.int _ rfl rfl (add_ck e17) (hn := ?_)
     refine LWo.move (e_int x17) rfl (hn := ?_)
     refine LWo.nil (hN5 (t6, t7, x17) _ ⟨rfl, rfl, rfl, trivial⟩ trivial h)
   ·have h := bF h9 h
    refine LWP.exit (hN2 () _ trivial trivial h)

def m_impl_Value_ok_j1 (t2 : Bool) : Option Bool :=
  some t2
def m_impl_Value_ok_j2 (t2 : Bool) : Option Bool :=
  some t2
def m_impl_Value_ok_j3 (t2 : Bool) : Option Bool :=
  some t2
def m_impl_Value_ok (a0 : S_impl_Value) : Option Bool :=
  bif (a0.Kind == (0 : Int)) then (some (decide (a0 = (⟨(0 : Int), (0 : Int), (⟨#[]⟩ : ByteArray)⟩ : S_impl_Value))))
  else (bif (a0.Kind == (1 : Int)) then (bif (sEq a0.S (⟨#[]⟩ : ByteArray)) then ((m_impl_between a0.N (-9999 : Int) (9999 : Int)).bind fun x11 =>
        m_impl_Value_ok_j1  x11)
      else (m_impl_Value_ok_j1  false))
    else (bif (a0.Kind == (2 : Int)) then (bif (a0.N == (0 : Int)) then (bif decide ((a0.S.size : Int) ≤ (6 : Int)) then ((m_impl_letters a0.S).bind fun x17 =>
            m_impl_Value_ok_j2  x17)
          else (m_impl_Value_ok_j2  false))
        else (m_impl_Value_ok_j2  false))
      else (bif (a0.Kind == (3 : Int)) then (bif (sEq a0.S (⟨#[]⟩ : ByteArray)) then ((m_impl_between a0.N (0 : Int) (1 : Int)).bind fun x22 =>
            m_impl_Value_ok_j3  x22)
          else (m_impl_Value_ok_j3  false))
        else (some false))))
theorem c_impl_Value_ok (a0 : S_impl_Value) (r : Bool) (h : m_impl_Value_ok a0 = some r) : Ret Try.prog f_impl_Value_ok [e_impl_Value a0] (e_bool r) := by
  refine Does.goG [] F_impl_Value_ok rfl e_impl_Value_ok n_impl_Value_ok rfl (rvs := [.tmp 2]) rfl rfl ?_
  intro w0 ok0 lent ρ0
  refine LWP.seq_k fun N1 hN1 => ?_
  refine LWP.region (l := [_,_]) ?_
  refine LWo.boxF (e_impl_Value a0) rfl rfl rfl (hn := ?_)
  refine LWo.assign (e_bool false) rfl (hn := ?_)
  refine LWo.nil (hN1 _ ?_)
  refine LWP.seq_k fun N2 hN2 => ?_
  refine LWP.seq_k fun N3 hN3 => ?_
  refine LWP.region (l := [_,_]) ?_
  refine LWo.fieldAddr _ u_impl_Value rfl s_int rfl rfl (hn := ?_)
  refine LWo.load1 (c := (e_int a0.Kind)) g_int rfl (hn := ?_)
  refine LWo.nil (hN3 _ ?_)
  refine LWP.block ?_
  refine LWP.seq_k fun N4 hN4 => ?_
  refine LWP.region (l := [_,_]) ?_
  refine LWo.int _ rfl rfl rfl (hn := ?_)
  refine LWo.assign (e_bool (a0.Kind == (0 : Int))) rfl (hn := ?_)
  refine LWo.nil (hN4 _ ?_)
  refine LWP.cond_split rfl (fun h5 => ?_) (fun h5 => ?_)
  ·have h := bT h5 h
   refine LWP.seq_k fun N6 hN6 => ?_
   refine LWP.region (l := [_,_,_,_]) ?_
   refine LWo.loadN ((e_impl_Value a0)).cells g_impl_Value s_impl_Value rfl (Nat.le_of_ble_eq_true rfl) rfl (hn := ?_)
   refine LWo.build_impl_Value (parts := []) (⟨(0 : Int), (0 : Int), (⟨#[]⟩ : ByteArray)⟩ : S_impl_Value) rfl rfl rfl .refl (hn := ?_)
   refine LWo.eq_impl_Value _ _ rfl rfl (hn := ?_)
   refine LWo.assign (e_bool (decide (a0 = (⟨(0 : Int), (0 : Int), (⟨#[]⟩ : ByteArray)⟩ : S_impl_Value)))) rfl (hn := ?_)
   refine LWo.nil (hN6 _ ?_)
   obtain rfl := Option.some.inj h
   refine LWP.ret (QG.mk (.inr rfl) (.cons (.tmp (x := (e_bool (decide (a0 = (⟨(0 : Int), (0 : Int), (⟨#[]⟩ : ByteArray)⟩ : S_impl_Value))))) rfl) (.nil)) (RetOK.one0 (.pure rfl) (by decide)) rfl rfl)
  ·have h := bF h5 h
   refine LWP.seq_k fun N7 hN7 => ?_
   refine LWP.region (l := [_,_]) ?_
   refine LWo.int _ rfl rfl rfl (hn := ?_)
   refine LWo.assign (e_bool (a0.Kind == (1 : Int))) rfl (hn := ?_)
   refine LWo.nil (hN7 _ ?_)
   refine LWP.cond_split rfl (fun h8 => ?_) (fun h8 => ?_)
   ·have h := bT h8 h
    refine LWP.join (α := Bool) (fun z : Bool => [(2, (e_bool z))]) (fun z : Bool => []) (fun z : Bool => m_impl_Value_ok_j1  z) r (fun _ => by simp [hkeys]) ?_ ?_
    ·rintro t2 h
     replace h : m_impl_Value_ok_j1  t2 = some _ := h
     obtain rfl := Option.some.inj h
     refine LWP.ret (QG.mk (.inr rfl) (.cons (.tmp (x := (e_bool t2)) rfl) (.nil)) (RetOK.one0 (.pure rfl) (by decide)) rfl rfl)
    ·intro N9 hN9
     refine LWP.region (l := [_,_,_,_,_,_,_,_,_]) ?_
     refine LWo.fieldAddr _ u_impl_Value rfl s_string rfl rfl (hn := ?_)
     refine LWo.load1 (c := (e_string a0.S)) g_string rfl (hn := ?_)
     refine LWo.str _ rfl rfl rfl (hn := ?_)
     refine LWo.move (e_bool (sEq a0.S (⟨#[]⟩ : ByteArray))) rfl (hn := ?_)
     refine LWo.byCases (t := 15) _ rfl (fun h10 => ?_) (fun h10 => ?_)
     ·have h := bT h10 h
      refine LWo.guardY (t := 15) rfl h10 rfl rfl ?_
      refine LWo.fieldAddr _ u_impl_Value rfl s_int rfl rfl (hn := ?_)
      refine LWo.guardY (t := 15) rfl h10 rfl rfl ?_
      refine LWo.load1 (c := (e_int a0.N)) g_int rfl (hn := ?_)
      refine bk h fun x11 e11 h => ?_
      refine LWo.guardY (t := 15) rfl h10 rfl rfl ?_
      refine LWo.vcall rfl rfl (c_impl_between _ _ _ _ e11) (.same (.same (.same (.nil)))) (hn := ?_)
      refine LWo.pickTM (e_bool x11) rfl h10 rfl (hn := ?_)
      refine LWo.assign (e_bool x11) rfl (hn := ?_)
      refine LWo.nil (hN9 x11 _ ⟨rfl, trivial⟩ trivial h)
     ·have h := bF h10 h
      refine LWo.guardNU (t := 15) rfl h10 rfl rfl rfl rfl rfl ?_
      refine LWo.guardNU (t := 15) rfl h10 rfl rfl rfl rfl rfl ?_
      refine LWo.guardNU (t := 15) rfl h10 rfl rfl rfl rfl rfl ?_
      refine LWo.pickFM (e_bool false) rfl h10 rfl (hn := ?_)
      refine LWo.assign (e_bool false) rfl (hn := ?_)
      refine LWo.nil (hN9 false _ ⟨rfl, trivial⟩ trivial h)
   ·have h := bF h8 h
    refine LWP.seq_k fun N12 hN12 => ?_
    refine LWP.region (l := [_,_]) ?_
    refine LWo.int _ rfl rfl rfl (hn := ?_)
    refine LWo.assign (e_bool (a0.Kind == (2 : Int))) rfl (hn := ?_)
    refine LWo.nil (hN12 _ ?_)
    refine LWP.cond_split rfl (fun h13 => ?_) (fun h13 => ?_)
    ·have h := bT h13 h
     refine LWP.join (α := Bool) (fun z : Bool => [(2, (e_bool z))]) (fun z : Bool => []) (fun z : Bool => m_impl_Value_ok_j2  z) r (fun _ => by simp [hkeys]) ?_ ?_
     ·rintro t2 h
      replace h : m_impl_Value_ok_j2  t2 = some _ := h
      obtain rfl := Option.some.inj h
      refine LWP.ret (QG.mk (.inr rfl) (.cons (.tmp (x := (e_bool t2)) rfl) (.nil)) (RetOK.one0 (.pure rfl) (by decide)) rfl rfl)
     ·intro N14 hN14
      refine LWP.region (l := [_,_,_,_,_,_,_,_,_,_,_,_,_,_,_]) ?_
      refine LWo.fieldAddr _ u_impl_Value rfl s_int rfl rfl (hn := ?_)
      refine LWo.load1 (c := (e_int a0.N)) g_int rfl (hn := ?_)
      refine LWo.int _ rfl rfl rfl (hn := ?_)
      refine LWo.move (e_bool (a0.N == (0 : Int))) rfl (hn := ?_)
      refine LWo.byCases (t := 25) _ rfl (fun h15 => ?_) (fun h15 => ?_)
      ·have h := bT h15 h
       refine LWo.guardY (t := 25) rfl h15 rfl rfl ?_
       refine LWo.fieldAddr _ u_impl_Value rfl s_string rfl rfl (hn := ?_)
       refine LWo.guardY (t := 25) rfl h15 rfl rfl ?_
       refine LWo.load1 (c := (e_string a0.S)) g_string rfl (hn := ?_)
       refine LWo.guardY (t := 25) rfl h15 rfl rfl ?_
       refine LWo.lenS u_string rfl (hn := ?_)
       refine LWo.guardY (t := 25) rfl h15 rfl rfl ?_
       refine LWo.int _ rfl rfl rfl (hn := ?_)
       refine LWo.pickTM (e_bool (decide ((a0.S.size : Int) ≤ (6 : Int)))) rfl h15 rfl (hn := ?_)
       refine LWo.move (e_bool (decide ((a0.S.size : Int) ≤ (6 : Int)))) rfl (hn := ?_)
       refine LWo.byCases (t := 31) _ rfl (fun h16 => ?_) (fun h16 => ?_)
       ·have h := bT h16 h
        refine LWo.guardY (t := 31) rfl h16 rfl rfl ?_
        refine LWo.fieldAddr _ u_impl_Value rfl s_string rfl rfl (hn := ?_)
        refine LWo.guardY (t := 31) rfl h16 rfl rfl ?_
        refine LWo.load1 (c := (e_string a0.S)) g_string rfl (hn := ?_)
        refine bk h fun x17 e17 h => ?_
        refine LWo.guardY (t := 31) rfl h16 rfl rfl ?_
        refine LWo.vcall rfl rfl (c_impl_letters _ _ e17) (.same (.nil)) (hn := ?_)
        refine LWo.pickTM (e_bool x17) rfl h16 rfl (hn := ?_)
        refine LWo.assign (e_bool x17) rfl (hn := ?_)
        refine LWo.nil (hN14 x17 _ ⟨rfl, trivial⟩ trivial h)
       ·have h := bF h16 h
        refine LWo.guardNU (t := 31) rfl h16 rfl rfl rfl rfl rfl ?_
        refine LWo.guardNU (t := 31) rfl h16 rfl rfl rfl rfl rfl ?_
        refine LWo.guardNU (t := 31) rfl h16 rfl rfl rfl rfl rfl ?_
        refine LWo.pickFM (e_bool false) rfl h16 rfl (hn := ?_)
        refine LWo.assign (e_bool false) rfl (hn := ?_)
        refine LWo.nil (hN14 false _ ⟨rfl, trivial⟩ trivial h)
      ·have h := bF h15 h
       refine LWo.guardNU (t := 25) rfl h15 rfl rfl rfl rfl rfl ?_
       refine LWo.guardNU (t := 25) rfl h15 rfl rfl rfl rfl rfl ?_
       refine LWo.guardNU (t := 25) rfl h15 rfl rfl rfl rfl rfl ?_
       refine LWo.guardNU (t := 25) rfl h15 rfl rfl rfl rfl rfl ?_
       refine LWo.pickFM (e_bool false) rfl h15 rfl (hn := ?_)
       refine LWo.move (e_bool false) rfl (hn := ?_)
       refine LWo.guardNU (t := 31) rfl rfl rfl rfl rfl rfl rfl ?_
       refine LWo.guardNU (t := 31) rfl rfl rfl rfl rfl rfl rfl ?_
       refine LWo.guardNU (t := 31) rfl rfl rfl rfl rfl rfl rfl ?_
       refine LWo.pickFM (e_bool false) rfl rfl rfl (hn := ?_)
       refine LWo.assign (e_bool false) rfl (hn := ?_)
       refine LWo.nil (hN14 false _ ⟨rfl, trivial⟩ trivial h)
    ·have h := bF h13 h
     refine LWP.seq_k fun N18 hN18 => ?_
     refine LWP.region (l := [_,_]) ?_
     refine LWo.int _ rfl rfl rfl (hn := ?_)
     refine LWo.assign (e_bool (a0.Kind == (3 : Int))) rfl (hn := ?_)
     refine LWo.nil (hN18 _ ?_)
     refine LWP.cond_split rfl (fun h19 => ?_) (fun h19 => ?_)
     ·have h := bT h19 h
      refine LWP.join (α := Bool) (fun z : Bool => [(2, (e_bool z))]) (fun z : Bool => []) (fun z : Bool => m_impl_Value_ok_j3  z) r (fun _ => by simp [hkeys]) ?_ ?_
      ·rintro t2 h
       replace h : m_impl_Value_ok_j3  t2 = some _ := h
       obtain rfl := Option.some.inj h
       refine LWP.ret (QG.mk (.inr rfl) (.cons (.tmp (x := (e_bool t2)) rfl) (.nil)) (RetOK.one0 (.pure rfl) (by decide)) rfl rfl)
      ·intro N20 hN20
       refine LWP.region (l := [_,_,_,_,_,_,_,_,_]) ?_
       refine LWo.fieldAddr _ u_impl_Value rfl s_string rfl rfl (hn := ?_)
       refine LWo.load1 (c := (e_string a0.S)) g_string rfl (hn := ?_)
       refine LWo.str _ rfl rfl rfl (hn := ?_)
       refine LWo.move (e_bool (sEq a0.S (⟨#[]⟩ : ByteArray))) rfl (hn := ?_)
       refine LWo.byCases (t := 41) _ rfl (fun h21 => ?_) (fun h21 => ?_)
       ·have h := bT h21 h
        refine LWo.guardY (t := 41) rfl h21 rfl rfl ?_
        refine LWo.fieldAddr _ u_impl_Value rfl s_int rfl rfl (hn := ?_)
        refine LWo.guardY (t := 41) rfl h21 rfl rfl ?_
        refine LWo.load1 (c := (e_int a0.N)) g_int rfl (hn := ?_)
        refine bk h fun x22 e22 h => ?_
        refine LWo.guardY (t := 41) rfl h21 rfl rfl ?_
        refine LWo.vcall rfl rfl (c_impl_between _ _ _ _ e22) (.same (.same (.same (.nil)))) (hn := ?_)
        refine LWo.pickTM (e_bool x22) rfl h21 rfl (hn := ?_)
        refine LWo.assign (e_bool x22) rfl (hn := ?_)
        refine LWo.nil (hN20 x22 _ ⟨rfl, trivial⟩ trivial h)
       ·have h := bF h21 h
        refine LWo.guardNU (t := 41) rfl h21 rfl rfl rfl rfl rfl ?_
        refine LWo.guardNU (t := 41) rfl h21 rfl rfl rfl rfl rfl ?_
        refine LWo.guardNU (t := 41) rfl h21 rfl rfl rfl rfl rfl ?_
        refine LWo.pickFM (e_bool false) rfl h21 rfl (hn := ?_)
        refine LWo.assign (e_bool false) rfl (hn := ?_)
        refine LWo.nil (hN20 false _ ⟨rfl, trivial⟩ trivial h)
     ·have h := bF h19 h
      refine LWP.skip (hN2 _ ?_)
      refine LWP.seq_k fun N23 hN23 => ?_
      refine LWP.region (l := [_]) ?_
      refine LWo.assign (e_bool false) rfl (hn := ?_)
      refine LWo.nil (hN23 _ ?_)
      obtain rfl := Option.some.inj h
      refine LWP.ret (QG.mk (.inr rfl) (.cons (.tmp (x := (e_bool false)) rfl) (.nil)) (RetOK.one0 (.pure rfl) (by decide)) rfl rfl)

def m_impl_RowOk_1 (a0 : S_impl_Value) : Option Bool :=
  (m_impl_Value_ok a0).bind fun x3 =>
  some (!x3)
theorem c_impl_RowOk_1 (a0 : S_impl_Value) (r : Bool) (h : m_impl_RowOk_1 a0 = some r) : Ret Try.prog f_impl_RowOk_1 [e_impl_Value a0] (e_bool r) := by
  refine Does.goG [] F_impl_RowOk_1 rfl e_impl_RowOk_1 n_impl_RowOk_1 rfl (rvs := [.tmp 2]) rfl rfl ?_
  intro w0 ok0 lent ρ0
  refine LWP.seq_k fun N1 hN1 => ?_
  refine LWP.region (l := [_,_]) ?_
  refine LWo.boxF (e_impl_Value a0) rfl rfl rfl (hn := ?_)
  refine LWo.assign (e_bool false) rfl (hn := ?_)
  refine LWo.nil (hN1 _ ?_)
  refine LWP.seq_k fun N2 hN2 => ?_
  refine LWP.region (l := [_,_,_,_]) ?_
  refine LWo.loadN ((e_impl_Value a0)).cells g_impl_Value s_impl_Value rfl (Nat.le_of_ble_eq_true rfl) rfl (hn := ?_)
  refine bk h fun x3 e3 h => ?_
  refine LWo.vcall rfl rfl (c_impl_Value_ok _ _ e3) (.same (.nil)) (hn := ?_)
  refine LWo.not rfl (hn := ?_)
  refine LWo.assign (e_bool (!x3)) rfl (hn := ?_)
  refine LWo.nil (hN2 _ ?_)
  obtain rfl := Option.some.inj h
  refine LWP.ret (QG.mk (.inr rfl) (.cons (.tmp (x := (e_bool (!x3))) rfl) (.nil)) (RetOK.one0 (.pure rfl) (by decide)) rfl rfl)

def m_impl_RowOk_j1 (t2 : Bool) : Option Bool :=
  some t2
def m_impl_RowOk (a0 : (List S_impl_Value)) : Option Bool :=
  bif decide ((a0.length : Int) ≤ (4 : Int)) then ((m_slices_ContainsFunc_Limpl_Value_impl_Value a0 (fun b0_ => m_impl_RowOk_1 b0_ )).bind fun x4 =>
    m_impl_RowOk_j1  (!x4))
  else (m_impl_RowOk_j1  false)
theorem c_impl_RowOk (a0 : (List S_impl_Value)) (r : Bool) (h : m_impl_RowOk a0 = some r) : Ret Try.prog f_impl_RowOk [e_Limpl_Value a0] (e_bool r) := by
  refine Does.goG [] F_impl_RowOk rfl e_impl_RowOk n_impl_RowOk rfl (rvs := [.tmp 2]) rfl rfl ?_
  intro w0 ok0 lent ρ0
  refine LWP.seq_k fun N1 hN1 => ?_
  refine LWP.region (l := [_]) ?_
  refine LWo.assign (e_bool false) rfl (hn := ?_)
  refine LWo.nil (hN1 _ ?_)
  refine LWP.join (α := Bool) (fun z : Bool => [(2, (e_bool z))]) (fun z : Bool => []) (fun z : Bool => m_impl_RowOk_j1  z) r (fun _ => by simp [hkeys]) ?_ ?_
  ·rintro t2 h
   replace h : m_impl_RowOk_j1  t2 = some _ := h
   obtain rfl := Option.some.inj h
   refine LWP.ret (QG.mk (.inr rfl) (.cons (.tmp (x := (e_bool t2)) rfl) (.nil)) (RetOK.one0 (.pure rfl) (by decide)) rfl rfl)
  ·intro N2 hN2
   refine LWP.region (l := [_,_,_,_,_,_,_,_,_]) ?_
   refine LWo.move (e_Limpl_Value a0) rfl (hn := ?_)
   refine LWo.lenM (f := e_impl_Value) (l := a0) u_Limpl_Value rfl (hn := ?_)
   refine LWo.int _ rfl rfl rfl (hn := ?_)
   refine LWo.move (e_bool (decide ((a0.length : Int) ≤ (4 : Int)))) rfl (hn := ?_)
   refine LWo.byCases (t := 6) _ rfl (fun h3 => ?_) (fun h3 => ?_)
   ·have h := bT h3 h
    refine LWo.guardY (t := 6) rfl h3 rfl rfl ?_
    refine LWo.move (e_Limpl_Value a0) rfl (hn := ?_)
    refine bk h fun x4 e4 h => ?_
    refine LWo.guardY (t := 6) rfl h3 rfl rfl ?_
    refine LWo.vcall rfl rfl (c_slices_ContainsFunc_Limpl_Value_impl_Value _ _ f_impl_RowOk_1 [] (fun _ => rfl) (fun b0_ v hv => c_impl_RowOk_1 b0_  v hv) _ e4) (.same (.same (.nil))) (hn := ?_)
    refine LWo.guardY (t := 6) rfl h3 rfl rfl ?_
    refine LWo.not rfl (hn := ?_)
    refine LWo.pickTM (e_bool (!x4)) rfl h3 rfl (hn := ?_)
    refine LWo.assign (e_bool (!x4)) rfl (hn := ?_)
    refine LWo.nil (hN2 (!x4) _ ⟨rfl, trivial⟩ trivial h)
   ·have h := bF h3 h
    refine LWo.guardNU (t := 6) rfl h3 rfl rfl rfl rfl rfl ?_
    refine LWo.guardNU (t := 6) rfl h3 rfl rfl rfl rfl rfl ?_
    refine LWo.guardNU (t := 6) rfl h3 rfl rfl rfl rfl rfl ?_
    refine LWo.pickFM (e_bool false) rfl h3 rfl (hn := ?_)
    refine LWo.assign (e_bool false) rfl (hn := ?_)
    refine LWo.nil (hN2 false _ ⟨rfl, trivial⟩ trivial h)

def m_impl_Tally_ok_j1 (t2 : Bool) : Option Bool :=
  some t2
def m_impl_Tally_ok (a0 : S_impl_Tally) : Option Bool :=
  bif ((a0.Key.length : Int) == (1 : Int)) then ((m_impl_RowOk a0.Key).bind fun x4 =>
    bif x4 then ((m_impl_between a0.Rows (1 : Int) (100 : Int)).bind fun x6 =>
      bif x6 then ((m_impl_between a0.Many (0 : Int) a0.Rows).bind fun x8 =>
        bif x8 then ((ckI ((-9999 : Int) * a0.Many)).bind fun x10 =>
          (ckI ((9999 : Int) * a0.Many)).bind fun x11 =>
          (m_impl_between a0.Sum x10 x11).bind fun x12 =>
          m_impl_Tally_ok_j1  x12)
        else (m_impl_Tally_ok_j1  false))
      else (m_impl_Tally_ok_j1  false))
    else (m_impl_Tally_ok_j1  false))
  else (m_impl_Tally_ok_j1  false)
theorem c_impl_Tally_ok (a0 : S_impl_Tally) (r : Bool) (h : m_impl_Tally_ok a0 = some r) : Ret Try.prog f_impl_Tally_ok [e_impl_Tally a0] (e_bool r) := by
  refine Does.goG [] F_impl_Tally_ok rfl e_impl_Tally_ok n_impl_Tally_ok rfl (rvs := [.tmp 2]) rfl rfl ?_
  intro w0 ok0 lent ρ0
  refine LWP.seq_k fun N1 hN1 => ?_
  refine LWP.region (l := [_,_]) ?_
  refine LWo.boxF (e_impl_Tally a0) rfl rfl rfl (hn := ?_)
  refine LWo.assign (e_bool false) rfl (hn := ?_)
  refine LWo.nil (hN1 _ ?_)
  refine LWP.join (α := Bool) (fun z : Bool => [(2, (e_bool z))]) (fun z : Bool => []) (fun z : Bool => m_impl_Tally_ok_j1  z) r (fun _ => by simp [hkeys]) ?_ ?_
  ·rintro t2 h
   replace h : m_impl_Tally_ok_j1  t2 = some _ := h
   obtain rfl := Option.some.inj h
   refine LWP.ret (QG.mk (.inr rfl) (.cons (.tmp (x := (e_bool t2)) rfl) (.nil)) (RetOK.one0 (.pure rfl) (by decide)) rfl rfl)
  ·intro N2 hN2
   refine LWP.region (l := [_,_,_,_,_,_,_,_,_,_,_,_,_,_,_,_,_,_,_,_,_,_,_,_,_,_,_,_,_,_,_,_,_]) ?_
   refine LWo.fieldAddr _ u_impl_Tally rfl s_Limpl_Value rfl rfl (hn := ?_)
   refine LWo.load1 (c := (e_Limpl_Value a0.Key)) g_Limpl_Value rfl (hn := ?_)
   refine LWo.lenM (f := e_impl_Value) (l := a0.Key) u_Limpl_Value rfl (hn := ?_)
   refine LWo.int _ rfl rfl rfl (hn := ?_)
   refine LWo.move (e_bool ((a0.Key.length : Int) == (1 : Int))) rfl (hn := ?_)
   refine LWo.byCases (t := 7) _ rfl (fun h3 => ?_) (fun h3 => ?_)
   ·have h := bT h3 h
    refine LWo.guardY (t := 7) rfl h3 rfl rfl ?_
    refine LWo.fieldAddr _ u_impl_Tally rfl s_Limpl_Value rfl rfl (hn := ?_)
    refine LWo.guardY (t := 7) rfl h3 rfl rfl ?_
    refine LWo.load1 (c := (e_Limpl_Value a0.Key)) g_Limpl_Value rfl (hn := ?_)
    refine bk h fun x4 e4 h => ?_
    refine LWo.guardY (t := 7) rfl h3 rfl rfl ?_
    refine LWo.vcall rfl rfl (c_impl_RowOk _ _ e4) (.same (.nil)) (hn := ?_)
    refine LWo.pickTM (e_bool x4) rfl h3 rfl (hn := ?_)
    refine LWo.move (e_bool x4) rfl (hn := ?_)
    refine LWo.byCases (t := 12) _ rfl (fun h5 => ?_) (fun h5 => ?_)
    ·have h := bT h5 h
     refine LWo.guardY (t := 12) rfl h5 rfl rfl ?_
     refine LWo.fieldAddr _ u_impl_Tally rfl s_int rfl rfl (hn := ?_)
     refine LWo.guardY (t := 12) rfl h5 rfl rfl ?_
     refine LWo.load1 (c := (e_int a0.Rows)) g_int rfl (hn := ?_)
     refine bk h fun x6 e6 h => ?_
     refine LWo.guardY (t := 12) rfl h5 rfl rfl ?_
     refine LWo.vcall rfl rfl (c_impl_between _ _ _ _ e6) (.same (.same (.same (.nil)))) (hn := ?_)
     refine LWo.pickTM (e_bool x6) rfl h5 rfl (hn := ?_)
     refine LWo.move (e_bool x6) rfl (hn := ?_)
     refine LWo.byCases (t := 17) _ rfl (fun h7 => ?_) (fun h7 => ?_)
     ·have h := bT h7 h
      refine LWo.guardY (t := 17) rfl h7 rfl rfl ?_
      refine LWo.fieldAddr _ u_impl_Tally rfl s_int rfl rfl (hn := ?_)
      refine LWo.guardY (t := 17) rfl h7 rfl rfl ?_
      refine LWo.load1 (c := (e_int a0.Many)) g_int rfl (hn := ?_)
      refine LWo.guardY (t := 17) rfl h7 rfl rfl ?_
      refine LWo.fieldAddr _ u_impl_Tally rfl s_int rfl rfl (hn := ?_)
      refine LWo.guardY (t := 17) rfl h7 rfl rfl ?_
      refine LWo.load1 (c := (e_int a0.Rows)) g_int rfl (hn := ?_)
      refine bk h fun x8 e8 h => ?_
      refine LWo.guardY (t := 17) rfl h7 rfl rfl ?_
      refine LWo.vcall rfl rfl (c_impl_between _ _ _ _ e8) (.same (.same (.same (.nil)))) (hn := ?_)
      refine LWo.pickTM (e_bool x8) rfl h7 rfl (hn := ?_)
      refine LWo.move (e_bool x8) rfl (hn := ?_)
      refine LWo.byCases (t := 24) _ rfl (fun h9 => ?_) (fun h9 => ?_)
      ·have h := bT h9 h
       refine LWo.guardY (t := 24) rfl h9 rfl rfl ?_
       refine LWo.fieldAddr _ u_impl_Tally rfl s_int rfl rfl (hn := ?_)
       refine LWo.guardY (t := 24) rfl h9 rfl rfl ?_
       refine LWo.load1 (c := (e_int a0.Sum)) g_int rfl (hn := ?_)
       refine LWo.guardY (t := 24) rfl h9 rfl rfl ?_
       refine LWo.fieldAddr _ u_impl_Tally rfl s_int rfl rfl (hn := ?_)
       refine LWo.guardY (t := 24) rfl h9 rfl rfl ?_
       refine LWo.load1 (c := (e_int a0.Many)) g_int rfl (hn := ?_)
       refine bk h fun x10 e10 h => ?_
       refine LWo.guardY (t := 24) rfl h9 rfl rfl ?_
       refine LWo.int _ rfl rfl (mul_ck e10) (hn := ?_)
       refine LWo.guardY (t := 24) rfl h9 rfl rfl ?_
       refine LWo.fieldAddr _ u_impl_Tally rfl s_int rfl rfl (hn := ?_)
       refine LWo.guardY (t := 24) rfl h9 rfl rfl ?_
       refine LWo.load1 (c := (e_int a0.Many)) g_int rfl (hn := ?_)
       refine bk h fun x11 e11 h => ?_
       refine LWo.guardY (t := 24) rfl h9 rfl rfl ?_
       refine LWo.int _ rfl rfl (mul_ck e11) (hn := ?_)
       refine bk h fun x12 e12 h => ?_
       refine LWo.guardY (t := 24) rfl h9 rfl rfl ?_
       refine LWo.vcall rfl rfl (c_impl_between _ _ _ _ e12) (.same (.same (.same (.nil)))) (hn := ?_)
       refine LWo.pickTM (e_bool x12) rfl h9 rfl (hn := ?_)
       refine LWo.assign (e_bool x12) rfl (hn := ?_)
       refine LWo.nil (hN2 x12 _ ⟨rfl, trivial⟩ trivial h)
      ·have h := bF h9 h
       refine LWo.guardNU (t := 24) rfl h9 rfl rfl rfl rfl rfl ?_
       refine LWo.guardNU (t := 24) rfl h9 rfl rfl rfl rfl rfl ?_
       refine LWo.guardNU (t := 24) rfl h9 rfl rfl rfl rfl rfl ?_
       refine LWo.guardNU (t := 24) rfl h9 rfl rfl rfl rfl rfl ?_
       refine LWo.guardNU (t := 24) rfl h9 rfl rfl rfl rfl rfl ?_
       refine LWo.guardNU (t := 24) rfl h9 rfl rfl rfl rfl rfl ?_
       refine LWo.guardNU (t := 24) rfl h9 rfl rfl rfl rfl rfl ?_
       refine LWo.guardNU (t := 24) rfl h9 rfl rfl rfl rfl rfl ?_
       refine LWo.guardNU (t := 24) rfl h9 rfl rfl rfl rfl rfl ?_
       refine LWo.pickFM (e_bool false) rfl h9 rfl (hn := ?_)
       refine LWo.assign (e_bool false) rfl (hn := ?_)
       refine LWo.nil (hN2 false _ ⟨rfl, trivial⟩ trivial h)
     ·have h := bF h7 h
      refine LWo.guardNU (t := 17) rfl h7 rfl rfl rfl rfl rfl ?_
      refine LWo.guardNU (t := 17) rfl h7 rfl rfl rfl rfl rfl ?_
      refine LWo.guardNU (t := 17) rfl h7 rfl rfl rfl rfl rfl ?_
      refine LWo.guardNU (t := 17) rfl h7 rfl rfl rfl rfl rfl ?_
      refine LWo.guardNU (t := 17) rfl h7 rfl rfl rfl rfl rfl ?_
      refine LWo.pickFM (e_bool false) rfl h7 rfl (hn := ?_)
      refine LWo.move (e_bool false) rfl (hn := ?_)
      refine LWo.guardNU (t := 24) rfl rfl rfl rfl rfl rfl rfl ?_
      refine LWo.guardNU (t := 24) rfl rfl rfl rfl rfl rfl rfl ?_
      refine LWo.guardNU (t := 24) rfl rfl rfl rfl rfl rfl rfl ?_
      refine LWo.guardNU (t := 24) rfl rfl rfl rfl rfl rfl rfl ?_
      refine LWo.guardNU (t := 24) rfl rfl rfl rfl rfl rfl rfl ?_
      refine LWo.guardNU (t := 24) rfl rfl rfl rfl rfl rfl rfl ?_
      refine LWo.guardNU (t := 24) rfl rfl rfl rfl rfl rfl rfl ?_
      refine LWo.guardNU (t := 24) rfl rfl rfl rfl rfl rfl rfl ?_
      refine LWo.guardNU (t := 24) rfl rfl rfl rfl rfl rfl rfl ?_
      refine LWo.pickFM (e_bool false) rfl rfl rfl (hn := ?_)
      refine LWo.assign (e_bool false) rfl (hn := ?_)
      refine LWo.nil (hN2 false _ ⟨rfl, trivial⟩ trivial h)
    ·have h := bF h5 h
     refine LWo.guardNU (t := 12) rfl h5 rfl rfl rfl rfl rfl ?_
     refine LWo.guardNU (t := 12) rfl h5 rfl rfl rfl rfl rfl ?_
     refine LWo.guardNU (t := 12) rfl h5 rfl rfl rfl rfl rfl ?_
     refine LWo.pickFM (e_bool false) rfl h5 rfl (hn := ?_)
     refine LWo.move (e_bool false) rfl (hn := ?_)
     refine LWo.guardNU (t := 17) rfl rfl rfl rfl rfl rfl rfl ?_
     refine LWo.guardNU (t := 17) rfl rfl rfl rfl rfl rfl rfl ?_
     refine LWo.guardNU (t := 17) rfl rfl rfl rfl rfl rfl rfl ?_
     refine LWo.guardNU (t := 17) rfl rfl rfl rfl rfl rfl rfl ?_
     refine LWo.guardNU (t := 17) rfl rfl rfl rfl rfl rfl rfl ?_
     refine LWo.pickFM (e_bool false) rfl rfl rfl (hn := ?_)
     refine LWo.move (e_bool false) rfl (hn := ?_)
     refine LWo.guardNU (t := 24) rfl rfl rfl rfl rfl rfl rfl ?_
     refine LWo.guardNU (t := 24) rfl rfl rfl rfl rfl rfl rfl ?_
     refine LWo.guardNU (t := 24) rfl rfl rfl rfl rfl rfl rfl ?_
     refine LWo.guardNU (t := 24) rfl rfl rfl rfl rfl rfl rfl ?_
     refine LWo.guardNU (t := 24) rfl rfl rfl rfl rfl rfl rfl ?_
     refine LWo.guardNU (t := 24) rfl rfl rfl rfl rfl rfl rfl ?_
     refine LWo.guardNU (t := 24) rfl rfl rfl rfl rfl rfl rfl ?_
     refine LWo.guardNU (t := 24) rfl rfl rfl rfl rfl rfl rfl ?_
     refine LWo.guardNU (t := 24) rfl rfl rfl rfl rfl rfl rfl ?_
     refine LWo.pickFM (e_bool false) rfl rfl rfl (hn := ?_)
     refine LWo.assign (e_bool false) rfl (hn := ?_)
     refine LWo.nil (hN2 false _ ⟨rfl, trivial⟩ trivial h)
   ·have h := bF h3 h
    refine LWo.guardNU (t := 7) rfl h3 rfl rfl rfl rfl rfl ?_
    refine LWo.guardNU (t := 7) rfl h3 rfl rfl rfl rfl rfl ?_
    refine LWo.guardNU (t := 7) rfl h3 rfl rfl rfl rfl rfl ?_
    refine LWo.pickFM (e_bool false) rfl h3 rfl (hn := ?_)
    refine LWo.move (e_bool false) rfl (hn := ?_)
    refine LWo.guardNU (t := 12) rfl rfl rfl rfl rfl rfl rfl ?_
    refine LWo.guardNU (t := 12) rfl rfl rfl rfl rfl rfl rfl ?_
    refine LWo.guardNU (t := 12) rfl rfl rfl rfl rfl rfl rfl ?_
    refine LWo.pickFM (e_bool false) rfl rfl rfl (hn := ?_)
    refine LWo.move (e_bool false) rfl (hn := ?_)
    refine LWo.guardNU (t := 17) rfl rfl rfl rfl rfl rfl rfl ?_
    refine LWo.guardNU (t := 17) rfl rfl rfl rfl rfl rfl rfl ?_
    refine LWo.guardNU (t := 17) rfl rfl rfl rfl rfl rfl rfl ?_
    refine LWo.guardNU (t := 17) rfl rfl rfl rfl rfl rfl rfl ?_
    refine LWo.guardNU (t := 17) rfl rfl rfl rfl rfl rfl rfl ?_
    refine LWo.pickFM (e_bool false) rfl rfl rfl (hn := ?_)
    refine LWo.move (e_bool false) rfl (hn := ?_)
    refine LWo.guardNU (t := 24) rfl rfl rfl rfl rfl rfl rfl ?_
    refine LWo.guardNU (t := 24) rfl rfl rfl rfl rfl rfl rfl ?_
    refine LWo.guardNU (t := 24) rfl rfl rfl rfl rfl rfl rfl ?_
    refine LWo.guardNU (t := 24) rfl rfl rfl rfl rfl rfl rfl ?_
    refine LWo.guardNU (t := 24) rfl rfl rfl rfl rfl rfl rfl ?_
    refine LWo.guardNU (t := 24) rfl rfl rfl rfl rfl rfl rfl ?_
    refine LWo.guardNU (t := 24) rfl rfl rfl rfl rfl rfl rfl ?_
    refine LWo.guardNU (t := 24) rfl rfl rfl rfl rfl rfl rfl ?_
    refine LWo.guardNU (t := 24) rfl rfl rfl rfl rfl rfl rfl ?_
    refine LWo.pickFM (e_bool false) rfl rfl rfl (hn := ?_)
    refine LWo.assign (e_bool false) rfl (hn := ?_)
    refine LWo.nil (hN2 false _ ⟨rfl, trivial⟩ trivial h)

def m_slices_CompareFunc_Limpl_Value_Limpl_Value_impl_Value_impl_Value_j1 (p2 : S_impl_Value → S_impl_Value → Option Int) (t0 : (List S_impl_Value)) (t1 : (List S_impl_Value)) : Option Int :=
  bif decide ((t0.length : Int) < (t1.length : Int)) then (some (-1 : Int))
  else (some (0 : Int))
def m_slices_CompareFunc_Limpl_Value_Limpl_Value_impl_Value_impl_Value_l1 (p2 : S_impl_Value → S_impl_Value → Option Int) : Nat → (List S_impl_Value) → (List S_impl_Value) → (List S_impl_Value) → Int → Int → Option Int
  | 0, _, _, _, _, _ => none
  | n1 + 1, t0, t1, t11, t12, t13 =>
    bif decide (t13 < t12) then ((at? t11 t13).bind fun x11 =>
    lt (x11) fun y12 =>
    bif decide (t13 ≥ (t1.length : Int)) then (some (1 : Int))
    else ((at? t1 t13).bind fun x18 =>
    lt (x18) fun y19 =>
    (p2 y12 y19).bind fun x21 =>
    bif (x21 != (0 : Int)) then (some x21)
    else ((ckI (t13 + (1 : Int))).bind fun x25 =>
    (m_slices_CompareFunc_Limpl_Value_Limpl_Value_impl_Value_impl_Value_l1 p2 n1) t0 t1 t11 t12 x25)))
    else (m_slices_CompareFunc_Limpl_Value_Limpl_Value_impl_Value_impl_Value_j1 p2 t0 t1)
def m_slices_CompareFunc_Limpl_Value_Limpl_Value_impl_Value_impl_Value (a0 : (List S_impl_Value)) (a1 : (List S_impl_Value)) (p2 : S_impl_Value → S_impl_Value → Option Int) : Option Int :=
  m_slices_CompareFunc_Limpl_Value_Limpl_Value_impl_Value_impl_Value_l1 p2 (((a0.length : Int) - (0 : Int)).toNat + 1) a0 a1 a0 (a0.length : Int) (0 : Int)
theorem c_slices_CompareFunc_Limpl_Value_Limpl_Value_impl_Value_impl_Value (a0 : (List S_impl_Value)) (a1 : (List S_impl_Value)) (p2 : S_impl_Value → S_impl_Value → Option Int) (f2 : FuncId) (q2 : List LV) (hq2 : ∀ k, LV.at?.atL k q2 = false) (hf2 : ∀ a0 a1 v, p2 a0 a1 = some v → Ret Try.prog f2 (e_impl_Value a0 :: e_impl_Value a1 :: q2) (e_int v)) (r : Int) (h : m_slices_CompareFunc_Limpl_Value_Limpl_Value_impl_Value_impl_Value a0 a1 p2 = some r) : Ret Try.prog f_slices_CompareFunc_Limpl_Value_Limpl_Value_impl_Value_impl_Value [e_Limpl_Value a0, e_Limpl_Value a1, .clo f2 q2] (e_int r) := by
  refine Does.goG [] F_slices_CompareFunc_Limpl_Value_Limpl_Value_impl_Value_impl_Value rfl e_slices_CompareFunc_Limpl_Value_Limpl_Value_impl_Value_impl_Value n_slices_CompareFunc_Limpl_Value_Limpl_Value_impl_Value_impl_Value rfl (rvs := [.tmp 6]) rfl rfl ?_
  intro w0 ok0 lent ρ0
  refine LWP.seq_k fun N1 hN1 => ?_
  refine LWP.region (l := [_]) ?_
  refine LWo.assign (e_int (0 : Int)) rfl (hn := ?_)
  refine LWo.nil (hN1 _ ?_)
  refine LWP.join (α := (List S_impl_Value) × (List S_impl_Value)) (fun z : (List S_impl_Value) × (List S_impl_Value) => [(0, (e_Limpl_Value z.1)), (1, (e_Limpl_Value z.2))]) (fun z : (List S_impl_Value) × (List S_impl_Value) => []) (fun z : (List S_impl_Value) × (List S_impl_Value) => m_slices_CompareFunc_Limpl_Value_Limpl_Value_impl_Value_impl_Value_j1 p2 z.1 z.2) r (fun _ => by simp [hkeys]) ?_ ?_
  ·rintro ⟨t0, t1⟩ h
   replace h : m_slices_CompareFunc_Limpl_Value_Limpl_Value_impl_Value_impl_Value_j1 p2 t0 t1 = some _ := h
   refine LWP.seq_k fun N26 hN26 => ?_
   refine LWP.seq_k fun N27 hN27 => ?_
   refine LWP.region (l := [_,_,_,_,_]) ?_
   refine LWo.move (e_Limpl_Value t0) rfl (hn := ?_)
   refine LWo.lenM (f := e_impl_Value) (l := t0) u_Limpl_Value rfl (hn := ?_)
   refine LWo.move (e_Limpl_Value t1) rfl (hn := ?_)
   refine LWo.lenM (f := e_impl_Value) (l := t1) u_Limpl_Value rfl (hn := ?_)
   refine LWo.int _ rfl rfl rfl (hn := ?_)
   refine LWo.nil (hN27 _ ?_)
   refine LWP.cond_split rfl (fun h28 => ?_) (fun h28 => ?_)
   ·have h := bT h28 h
    refine LWP.seq_k fun N29 hN29 => ?_
    refine LWP.region (l := [_]) ?_
    refine LWo.assign (e_int (-1 : Int)) rfl (hn := ?_)
    refine LWo.nil (hN29 _ ?_)
    obtain rfl := Option.some.inj h
    refine LWP.ret (QG.mk (.inr rfl) (.cons (.tmp (x := (e_int (-1 : Int))) rfl) (.nil)) (RetOK.one0 (.pure rfl) (by decide)) rfl rfl)
   ·have h := bF h28 h
    refine LWP.skip (hN26 _ ?_)
    refine LWP.seq_k fun N30 hN30 => ?_
    refine LWP.region (l := [_]) ?_
    refine LWo.assign (e_int (0 : Int)) rfl (hn := ?_)
    refine LWo.nil (hN30 _ ?_)
    obtain rfl := Option.some.inj h
    refine LWP.ret (QG.mk (.inr rfl) (.cons (.tmp (x := (e_int (0 : Int))) rfl) (.nil)) (RetOK.one0 (.pure rfl) (by decide)) rfl rfl)
  ·intro N2 hN2
   refine LWP.seq_k fun N3 hN3 => ?_
   refine LWP.region (l := [_,_,_]) ?_
   refine LWo.move (e_Limpl_Value a0) rfl (hn := ?_)
   refine LWo.lenM (f := e_impl_Value) (l := a0) u_Limpl_Value rfl (hn := ?_)
   refine LWo.move (e_int (0 : Int)) rfl (hn := ?_)
   refine LWo.nil (hN3 _ ?_)
   refine LWP.block ?_
   refine LWP.loopM (α := (List S_impl_Value) × (List S_impl_Value) × (List S_impl_Value) × Int × Int) (fun z : (List S_impl_Value) × (List S_impl_Value) × (List S_impl_Value) × Int × Int => [(0, (e_Limpl_Value z.1)), (1, (e_Limpl_Value z.2.1)), (2, (.clo f2 q2)), (11, (e_Limpl_Value z.2.2.1)), (12, (e_int z.2.2.2.1)), (13, (e_int z.2.2.2.2))]) (fun z : (List S_impl_Value) × (List S_impl_Value) × (List S_impl_Value) × Int × Int => []) (fun n1 (z : (List S_impl_Value) × (List S_impl_Value) × (List S_impl_Value) × Int × Int) => m_slices_CompareFunc_Limpl_Value_Limpl_Value_impl_Value_impl_Value_l1 p2 n1 z.1 z.2.1 z.2.2.1 z.2.2.2.1 z.2.2.2.2) r _ (a0, a1, a0, (a0.length : Int), (0 : Int)) h (fun _ => rfl) (fun _ => by simp [hkeys]) ⟨rfl, rfl, rfl, rfl, rfl, rfl, trivial⟩ trivial ?_
   rintro n1 ⟨t0, t1, t11, t12, t13⟩ h N4 hN4
   replace h : m_slices_CompareFunc_Limpl_Value_Limpl_Value_impl_Value_impl_Value_l1 p2 (n1 + 1) t0 t1 t11 t12 t13 = some _ := h
   refine LWP.seq_k fun N6 hN6 => ?_
   refine LWP.region (l := [_]) ?_
   refine LWo.int _ rfl rfl rfl (hn := ?_)
   refine LWo.nil (hN6 _ ?_)
   refine LWP.seq_k fun N7 hN7 => ?_
   refine LWP.cond_split rfl (fun h8 => ?_) (fun h8 => ?_)
   ·have h := bT h8 h
    refine LWP.skip (hN7 _ ?_)
    refine LWP.seq_k fun N9 hN9 => ?_
    refine LWP.block ?_
    refine LWP.seq_k fun N10 hN10 => ?_
    refine LWP.region (l := [_,_,_,_,_,_]) ?_
    refine LWo.move (e_int t13) rfl (hn := ?_)
    refine bk h fun x11 e11 h => ?_
    refine LWo.indexM (f := e_impl_Value) e11 u_Limpl_Value s_impl_Value rfl rfl (hn := ?_)
    refine LWo.loadN ((e_impl_Value x11)).cells g_impl_Value s_impl_Value rfl (Nat.le_of_ble_eq_true rfl) rfl (hn := ?_)
    refine LWo.alloc_impl_Value 8 rfl (hn := ?_)
    refine LWo.known 2 (.clo f2 q2) (get_kill_of rfl (hq2 8)) ?_
    refine LWo.assign (e_int t13) rfl (hn := ?_)
    refine lk h fun y12 e12 h => ?_
    refine LWo.storeW (y := (⟨(0 : Int), (0 : Int), (⟨#[]⟩ : ByteArray)⟩ : S_impl_Value)) y12 s_impl_Value rfl rfl rfl rfl rfl rfl (by rw [e12]; exact .refl) rfl (hn := ?_)
    refine LWo.nil (hN10 _ ?_)
    refine LWP.seq_k fun N13 hN13 => ?_
    refine LWP.seq_k fun N14 hN14 => ?_
    refine LWP.region (l := [_,_,_,_]) ?_
    refine LWo.move (e_int t13) rfl (hn := ?_)
    refine LWo.move (e_Limpl_Value t1) rfl (hn := ?_)
    refine LWo.lenM (f := e_impl_Value) (l := t1) u_Limpl_Value rfl (hn := ?_)
    refine LWo.int _ rfl rfl rfl (hn := ?_)
    refine LWo.nil (hN14 _ ?_)
    refine LWP.cond_split rfl (fun h15 => ?_) (fun h15 => ?_)
    ·have h := bT h15 h
     refine LWP.seq_k fun N16 hN16 => ?_
     refine LWP.region (l := [_]) ?_
     refine LWo.assign (e_int (1 : Int)) rfl (hn := ?_)
     refine LWo.nil (hN16 _ ?_)
     obtain rfl := Option.some.inj h
     refine LWP.ret (QG.mk (.inr rfl) (.cons (.tmp (x := (e_int (1 : Int))) rfl) (.nil)) (RetOK.one0 (.pure rfl) (by decide)) rfl rfl)
    ·have h := bF h15 h
     refine LWP.skip (hN13 _ ?_)
     refine LWP.seq_k fun N17 hN17 => ?_
     refine LWP.region (l := [_,_,_,_,_,_]) ?_
     refine LWo.move (e_Limpl_Value t1) rfl (hn := ?_)
     refine LWo.move (e_int t13) rfl (hn := ?_)
     refine bk h fun x18 e18 h => ?_
     refine LWo.indexM (f := e_impl_Value) e18 u_Limpl_Value s_impl_Value rfl rfl (hn := ?_)
     refine LWo.loadN ((e_impl_Value x18)).cells g_impl_Value s_impl_Value rfl (Nat.le_of_ble_eq_true rfl) rfl (hn := ?_)
     refine LWo.alloc_impl_Value 9 rfl (hn := ?_)
     refine LWo.known 2 (.clo f2 q2) (get_kill_of rfl (hq2 9)) ?_
     refine lk h fun y19 e19 h => ?_
     refine LWo.storeW (y := (⟨(0 : Int), (0 : Int), (⟨#[]⟩ : ByteArray)⟩ : S_impl_Value)) y19 s_impl_Value rfl rfl rfl rfl rfl rfl (by rw [e19]; exact .refl) rfl (hn := ?_)
     refine LWo.nil (hN17 _ ?_)
     refine LWP.seq_k fun N20 hN20 => ?_
     refine LWP.region (l := [_,_,_,_,_]) ?_
     refine LWo.move (.clo f2 q2) rfl (hn := ?_)
     refine LWo.loadVN ((e_impl_Value y12)).cells  g_impl_Value s_impl_Value rfl rfl rfl rfl (hn := ?_)
     refine LWo.loadVN ((e_impl_Value y19)).cells  g_impl_Value s_impl_Value rfl rfl rfl rfl (hn := ?_)
     refine bk h fun x21 e21 h => ?_
     refine LWo.vcall rfl rfl (hf2 _ _ _ e21) .refl (hn := ?_)
     refine LWo.assign (e_int x21) rfl (hn := ?_)
     refine LWo.nil (hN20 _ ?_)
     refine LWP.seq_k fun N22 hN22 => ?_
     refine LWP.region (l := [_,_]) ?_
     refine LWo.move (e_int x21) rfl (hn := ?_)
     refine LWo.int _ rfl rfl rfl (hn := ?_)
     refine LWo.nil (hN22 _ ?_)
     refine LWP.cond_split rfl (fun h23 => ?_) (fun h23 => ?_)
     ·have h := bT h23 h
      refine LWP.seq_k fun N24 hN24 => ?_
      refine LWP.region (l := [_,_]) ?_
      refine LWo.move (e_int x21) rfl (hn := ?_)
      refine LWo.assign (e_int x21) rfl (hn := ?_)
      refine LWo.nil (hN24 _ ?_)
      obtain rfl := Option.some.inj h
      refine LWP.ret (QG.mk (.inr rfl) (.cons (.tmp (x := (e_int x21)) rfl) (.nil)) (RetOK.one0 (.pure rfl) (by decide)) rfl rfl)
     ·have h := bF h23 h
      refine LWP.skip (hN9 _ ?_)
      refine LWP.region (l := [_,_]) ?_
      refine bk h fun x25 e25 h => ?_
      refine LWo.int _ rfl rfl (add_ck e25) (hn := ?_)
      refine LWo.move (e_int x25) rfl (hn := ?_)
      refine LWo.nil (hN4 (t0, t1, t11, t12, x25) _ ⟨rfl, rfl, rfl, rfl, rfl, rfl, trivial⟩ trivial h)
   ·have h := bF h8 h
    refine LWP.exit (hN2 (t0, t1) _ ⟨rfl, rfl, trivial⟩ trivial h)

def m_cmp_isNaN_int (a0 : Int) : Option Bool :=
  some (a0 != a0)
theorem c_cmp_isNaN_int (a0 : Int) (r : Bool) (h : m_cmp_isNaN_int a0 = some r) : Ret Try.prog f_cmp_isNaN_int [e_int a0] (e_bool r) := by
  refine Does.goG [] F_cmp_isNaN_int rfl e_cmp_isNaN_int n_cmp_isNaN_int rfl (rvs := [.tmp 2]) rfl rfl ?_
  intro w0 ok0 lent ρ0
  refine LWP.seq_k fun N1 hN1 => ?_
  refine LWP.region (l := [_]) ?_
  refine LWo.assign (e_bool false) rfl (hn := ?_)
  refine LWo.nil (hN1 _ ?_)
  refine LWP.seq_k fun N2 hN2 => ?_
  refine LWP.region (l := [_,_,_,_]) ?_
  refine LWo.move (e_int a0) rfl (hn := ?_)
  refine LWo.move (e_int a0) rfl (hn := ?_)
  refine LWo.int _ rfl rfl rfl (hn := ?_)
  refine LWo.assign (e_bool (a0 != a0)) rfl (hn := ?_)
  refine LWo.nil (hN2 _ ?_)
  obtain rfl := Option.some.inj h
  refine LWP.ret (QG.mk (.inr rfl) (.cons (.tmp (x := (e_bool (a0 != a0))) rfl) (.nil)) (RetOK.one0 (.pure rfl) (by decide)) rfl rfl)

def m_cmp_Compare_int (a0 : Int) (a1 : Int) : Option Int :=
  (m_cmp_isNaN_int a0).bind fun x3 =>
  (m_cmp_isNaN_int a1).bind fun x5 =>
  bif x3 then (bif x5 then (some (0 : Int))
    else (some (-1 : Int)))
  else (bif x5 then (some (1 : Int))
  else (bif decide (a0 < a1) then (some (-1 : Int))
  else (bif decide (a0 > a1) then (some (1 : Int))
  else (some (0 : Int)))))
theorem c_cmp_Compare_int (a0 : Int) (a1 : Int) (r : Int) (h : m_cmp_Compare_int a0 a1 = some r) : Ret Try.prog f_cmp_Compare_int [e_int a0, e_int a1] (e_int r) := by
  refine Does.goG [] F_cmp_Compare_int rfl e_cmp_Compare_int n_cmp_Compare_int rfl (rvs := [.tmp 4]) rfl rfl ?_
  intro w0 ok0 lent ρ0
  refine LWP.seq_k fun N1 hN1 => ?_
  refine LWP.region (l := [_]) ?_
  refine LWo.assign (e_int (0 : Int)) rfl (hn := ?_)
  refine LWo.nil (hN1 _ ?_)
  refine LWP.seq_k fun N2 hN2 => ?_
  refine LWP.region (l := [_,_,_]) ?_
  refine LWo.move (e_int a0) rfl (hn := ?_)
  refine bk h fun x3 e3 h => ?_
  refine LWo.vcall rfl rfl (c_cmp_isNaN_int _ _ e3) (.same (.nil)) (hn := ?_)
  refine LWo.assign (e_bool x3) rfl (hn := ?_)
  refine LWo.nil (hN2 _ ?_)
  refine LWP.seq_k fun N4 hN4 => ?_
  refine LWP.region (l := [_,_,_]) ?_
  refine LWo.move (e_int a1) rfl (hn := ?_)
  refine bk h fun x5 e5 h => ?_
  refine LWo.vcall rfl rfl (c_cmp_isNaN_int _ _ e5) (.same (.nil)) (hn := ?_)
  refine LWo.assign (e_bool x5) rfl (hn := ?_)
  refine LWo.nil (hN4 _ ?_)
  refine LWP.seq_k fun N6 hN6 => ?_
  refine LWP.seq_k fun N7 hN7 => ?_
  refine LWP.region (l := [_]) ?_
  refine LWo.move (e_bool x3) rfl (hn := ?_)
  refine LWo.nil (hN7 _ ?_)
  refine LWP.cond_split rfl (fun h8 => ?_) (fun h8 => ?_)
  ·have h := bT h8 h
   refine LWP.seq_k fun N9 hN9 => ?_
   refine LWP.seq_k fun N10 hN10 => ?_
   refine LWP.region (l := [_]) ?_
   refine LWo.move (e_bool x5) rfl (hn := ?_)
   refine LWo.nil (hN10 _ ?_)
   refine LWP.cond_split rfl (fun h11 => ?_) (fun h11 => ?_)
   ·have h := bT h11 h
    refine LWP.seq_k fun N12 hN12 => ?_
    refine LWP.region (l := [_]) ?_
    refine LWo.assign (e_int (0 : Int)) rfl (hn := ?_)
    refine LWo.nil (hN12 _ ?_)
    obtain rfl := Option.some.inj h
    refine LWP.ret (QG.mk (.inr rfl) (.cons (.tmp (x := (e_int (0 : Int))) rfl) (.nil)) (RetOK.one0 (.pure rfl) (by decide)) rfl rfl)
   ·have h := bF h11 h
    refine LWP.skip (hN9 _ ?_)
    refine LWP.seq_k fun N13 hN13 => ?_
    refine LWP.region (l := [_]) ?_
    refine LWo.assign (e_int (-1 : Int)) rfl (hn := ?_)
    refine LWo.nil (hN13 _ ?_)
    obtain rfl := Option.some.inj h
    refine LWP.ret (QG.mk (.inr rfl) (.cons (.tmp (x := (e_int (-1 : Int))) rfl) (.nil)) (RetOK.one0 (.pure rfl) (by decide)) rfl rfl)
  ·have h := bF h8 h
   refine LWP.skip (hN6 _ ?_)
   refine LWP.seq_k fun N14 hN14 => ?_
   refine LWP.seq_k fun N15 hN15 => ?_
   refine LWP.region (l := [_]) ?_
   refine LWo.move (e_bool x5) rfl (hn := ?_)
   refine LWo.nil (hN15 _ ?_)
   refine LWP.cond_split rfl (fun h16 => ?_) (fun h16 => ?_)
   ·have h := bT h16 h
    refine LWP.seq_k fun N17 hN17 => ?_
    refine LWP.region (l := [_]) ?_
    refine LWo.assign (e_int (1 : Int)) rfl (hn := ?_)
    refine LWo.nil (hN17 _ ?_)
    obtain rfl := Option.some.inj h
    refine LWP.ret (QG.mk (.inr rfl) (.cons (.tmp (x := (e_int (1 : Int))) rfl) (.nil)) (RetOK.one0 (.pure rfl) (by decide)) rfl rfl)
   ·have h := bF h16 h
    refine LWP.skip (hN14 _ ?_)
    refine LWP.seq_k fun N18 hN18 => ?_
    refine LWP.seq_k fun N19 hN19 => ?_
    refine LWP.region (l := [_,_,_]) ?_
    refine LWo.move (e_int a0) rfl (hn := ?_)
    refine LWo.move (e_int a1) rfl (hn := ?_)
    refine LWo.int _ rfl rfl rfl (hn := ?_)
    refine LWo.nil (hN19 _ ?_)
    refine LWP.cond_split rfl (fun h20 => ?_) (fun h20 => ?_)
    ·have h := bT h20 h
     refine LWP.seq_k fun N21 hN21 => ?_
     refine LWP.region (l := [_]) ?_
     refine LWo.assign (e_int (-1 : Int)) rfl (hn := ?_)
     refine LWo.nil (hN21 _ ?_)
     obtain rfl := Option.some.inj h
     refine LWP.ret (QG.mk (.inr rfl) (.cons (.tmp (x := (e_int (-1 : Int))) rfl) (.nil)) (RetOK.one0 (.pure rfl) (by decide)) rfl rfl)
    ·have h := bF h20 h
     refine LWP.skip (hN18 _ ?_)
     refine LWP.seq_k fun N22 hN22 => ?_
     refine LWP.seq_k fun N23 hN23 => ?_
     refine LWP.region (l := [_,_,_]) ?_
     refine LWo.move (e_int a0) rfl (hn := ?_)
     refine LWo.move (e_int a1) rfl (hn := ?_)
     refine LWo.int _ rfl rfl rfl (hn := ?_)
     refine LWo.nil (hN23 _ ?_)
     refine LWP.cond_split rfl (fun h24 => ?_) (fun h24 => ?_)
     ·have h := bT h24 h
      refine LWP.seq_k fun N25 hN25 => ?_
      refine LWP.region (l := [_]) ?_
      refine LWo.assign (e_int (1 : Int)) rfl (hn := ?_)
      refine LWo.nil (hN25 _ ?_)
      obtain rfl := Option.some.inj h
      refine LWP.ret (QG.mk (.inr rfl) (.cons (.tmp (x := (e_int (1 : Int))) rfl) (.nil)) (RetOK.one0 (.pure rfl) (by decide)) rfl rfl)
     ·have h := bF h24 h
      refine LWP.skip (hN22 _ ?_)
      refine LWP.seq_k fun N26 hN26 => ?_
      refine LWP.region (l := [_]) ?_
      refine LWo.assign (e_int (0 : Int)) rfl (hn := ?_)
      refine LWo.nil (hN26 _ ?_)
      obtain rfl := Option.some.inj h
      refine LWP.ret (QG.mk (.inr rfl) (.cons (.tmp (x := (e_int (0 : Int))) rfl) (.nil)) (RetOK.one0 (.pure rfl) (by decide)) rfl rfl)

def m_cmp_isNaN_string (a0 : ByteArray) : Option Bool :=
  some (!(sEq a0 a0))
theorem c_cmp_isNaN_string (a0 : ByteArray) (r : Bool) (h : m_cmp_isNaN_string a0 = some r) : Ret Try.prog f_cmp_isNaN_string [e_string a0] (e_bool r) := by
  refine Does.goG [] F_cmp_isNaN_string rfl e_cmp_isNaN_string n_cmp_isNaN_string rfl (rvs := [.tmp 2]) rfl rfl ?_
  intro w0 ok0 lent ρ0
  refine LWP.seq_k fun N1 hN1 => ?_
  refine LWP.region (l := [_]) ?_
  refine LWo.assign (e_bool false) rfl (hn := ?_)
  refine LWo.nil (hN1 _ ?_)
  refine LWP.seq_k fun N2 hN2 => ?_
  refine LWP.region (l := [_,_,_,_]) ?_
  refine LWo.move (e_string a0) rfl (hn := ?_)
  refine LWo.move (e_string a0) rfl (hn := ?_)
  refine LWo.str _ rfl rfl rfl (hn := ?_)
  refine LWo.assign (e_bool (!(sEq a0 a0))) rfl (hn := ?_)
  refine LWo.nil (hN2 _ ?_)
  obtain rfl := Option.some.inj h
  refine LWP.ret (QG.mk (.inr rfl) (.cons (.tmp (x := (e_bool (!(sEq a0 a0)))) rfl) (.nil)) (RetOK.one0 (.pure rfl) (by decide)) rfl rfl)

def m_cmp_Compare_string (a0 : ByteArray) (a1 : ByteArray) : Option Int :=
  (m_cmp_isNaN_string a0).bind fun x3 =>
  (m_cmp_isNaN_string a1).bind fun x5 =>
  bif x3 then (bif x5 then (some (0 : Int))
    else (some (-1 : Int)))
  else (bif x5 then (some (1 : Int))
  else (bif (sLt a0 a1) then (some (-1 : Int))
  else (bif (!(sLt a0 a1 || sEq a0 a1)) then (some (1 : Int))
  else (some (0 : Int)))))
theorem c_cmp_Compare_string (a0 : ByteArray) (a1 : ByteArray) (r : Int) (h : m_cmp_Compare_string a0 a1 = some r) : Ret Try.prog f_cmp_Compare_string [e_string a0, e_string a1] (e_int r) := by
  refine Does.goG [] F_cmp_Compare_string rfl e_cmp_Compare_string n_cmp_Compare_string rfl (rvs := [.tmp 4]) rfl rfl ?_
  intro w0 ok0 lent ρ0
  refine LWP.seq_k fun N1 hN1 => ?_
  refine LWP.region (l := [_]) ?_
  refine LWo.assign (e_int (0 : Int)) rfl (hn := ?_)
  refine LWo.nil (hN1 _ ?_)
  refine LWP.seq_k fun N2 hN2 => ?_
  refine LWP.region (l := [_,_,_]) ?_
  refine LWo.move (e_string a0) rfl (hn := ?_)
  refine bk h fun x3 e3 h => ?_
  refine LWo.vcall rfl rfl (c_cmp_isNaN_string _ _ e3) (.same (.nil)) (hn := ?_)
  refine LWo.assign (e_bool x3) rfl (hn := ?_)
  refine LWo.nil (hN2 _ ?_)
  refine LWP.seq_k fun N4 hN4 => ?_
  refine LWP.region (l := [_,_,_]) ?_
  refine LWo.move (e_string a1) rfl (hn := ?_)
  refine bk h fun x5 e5 h => ?_
  refine LWo.vcall rfl rfl (c_cmp_isNaN_string _ _ e5) (.same (.nil)) (hn := ?_)
  refine LWo.assign (e_bool x5) rfl (hn := ?_)
  refine LWo.nil (hN4 _ ?_)
  refine LWP.seq_k fun N6 hN6 => ?_
  refine LWP.seq_k fun N7 hN7 => ?_
  refine LWP.region (l := [_]) ?_
  refine LWo.move (e_bool x3) rfl (hn := ?_)
  refine LWo.nil (hN7 _ ?_)
  refine LWP.cond_split rfl (fun h8 => ?_) (fun h8 => ?_)
  ·have h := bT h8 h
   refine LWP.seq_k fun N9 hN9 => ?_
   refine LWP.seq_k fun N10 hN10 => ?_
   refine LWP.region (l := [_]) ?_
   refine LWo.move (e_bool x5) rfl (hn := ?_)
   refine LWo.nil (hN10 _ ?_)
   refine LWP.cond_split rfl (fun h11 => ?_) (fun h11 => ?_)
   ·have h := bT h11 h
    refine LWP.seq_k fun N12 hN12 => ?_
    refine LWP.region (l := [_]) ?_
    refine LWo.assign (e_int (0 : Int)) rfl (hn := ?_)
    refine LWo.nil (hN12 _ ?_)
    obtain rfl := Option.some.inj h
    refine LWP.ret (QG.mk (.inr rfl) (.cons (.tmp (x := (e_int (0 : Int))) rfl) (.nil)) (RetOK.one0 (.pure rfl) (by decide)) rfl rfl)
   ·have h := bF h11 h
    refine LWP.skip (hN9 _ ?_)
    refine LWP.seq_k fun N13 hN13 => ?_
    refine LWP.region (l := [_]) ?_
    refine LWo.assign (e_int (-1 : Int)) rfl (hn := ?_)
    refine LWo.nil (hN13 _ ?_)
    obtain rfl := Option.some.inj h
    refine LWP.ret (QG.mk (.inr rfl) (.cons (.tmp (x := (e_int (-1 : Int))) rfl) (.nil)) (RetOK.one0 (.pure rfl) (by decide)) rfl rfl)
  ·have h := bF h8 h
   refine LWP.skip (hN6 _ ?_)
   refine LWP.seq_k fun N14 hN14 => ?_
   refine LWP.seq_k fun N15 hN15 => ?_
   refine LWP.region (l := [_]) ?_
   refine LWo.move (e_bool x5) rfl (hn := ?_)
   refine LWo.nil (hN15 _ ?_)
   refine LWP.cond_split rfl (fun h16 => ?_) (fun h16 => ?_)
   ·have h := bT h16 h
    refine LWP.seq_k fun N17 hN17 => ?_
    refine LWP.region (l := [_]) ?_
    refine LWo.assign (e_int (1 : Int)) rfl (hn := ?_)
    refine LWo.nil (hN17 _ ?_)
    obtain rfl := Option.some.inj h
    refine LWP.ret (QG.mk (.inr rfl) (.cons (.tmp (x := (e_int (1 : Int))) rfl) (.nil)) (RetOK.one0 (.pure rfl) (by decide)) rfl rfl)
   ·have h := bF h16 h
    refine LWP.skip (hN14 _ ?_)
    refine LWP.seq_k fun N18 hN18 => ?_
    refine LWP.seq_k fun N19 hN19 => ?_
    refine LWP.region (l := [_,_,_]) ?_
    refine LWo.move (e_string a0) rfl (hn := ?_)
    refine LWo.move (e_string a1) rfl (hn := ?_)
    refine LWo.str _ rfl rfl rfl (hn := ?_)
    refine LWo.nil (hN19 _ ?_)
    refine LWP.cond_split rfl (fun h20 => ?_) (fun h20 => ?_)
    ·have h := bT h20 h
     refine LWP.seq_k fun N21 hN21 => ?_
     refine LWP.region (l := [_]) ?_
     refine LWo.assign (e_int (-1 : Int)) rfl (hn := ?_)
     refine LWo.nil (hN21 _ ?_)
     obtain rfl := Option.some.inj h
     refine LWP.ret (QG.mk (.inr rfl) (.cons (.tmp (x := (e_int (-1 : Int))) rfl) (.nil)) (RetOK.one0 (.pure rfl) (by decide)) rfl rfl)
    ·have h := bF h20 h
     refine LWP.skip (hN18 _ ?_)
     refine LWP.seq_k fun N22 hN22 => ?_
     refine LWP.seq_k fun N23 hN23 => ?_
     refine LWP.region (l := [_,_,_]) ?_
     refine LWo.move (e_string a0) rfl (hn := ?_)
     refine LWo.move (e_string a1) rfl (hn := ?_)
     refine LWo.str _ rfl rfl rfl (hn := ?_)
     refine LWo.nil (hN23 _ ?_)
     refine LWP.cond_split rfl (fun h24 => ?_) (fun h24 => ?_)
     ·have h := bT h24 h
      refine LWP.seq_k fun N25 hN25 => ?_
      refine LWP.region (l := [_]) ?_
      refine LWo.assign (e_int (1 : Int)) rfl (hn := ?_)
      refine LWo.nil (hN25 _ ?_)
      obtain rfl := Option.some.inj h
      refine LWP.ret (QG.mk (.inr rfl) (.cons (.tmp (x := (e_int (1 : Int))) rfl) (.nil)) (RetOK.one0 (.pure rfl) (by decide)) rfl rfl)
     ·have h := bF h24 h
      refine LWP.skip (hN22 _ ?_)
      refine LWP.seq_k fun N26 hN26 => ?_
      refine LWP.region (l := [_]) ?_
      refine LWo.assign (e_int (0 : Int)) rfl (hn := ?_)
      refine LWo.nil (hN26 _ ?_)
      obtain rfl := Option.some.inj h
      refine LWP.ret (QG.mk (.inr rfl) (.cons (.tmp (x := (e_int (0 : Int))) rfl) (.nil)) (RetOK.one0 (.pure rfl) (by decide)) rfl rfl)

def m_cmp_Or_int_j1 (t3 : Int) : Option Int :=
  some t3
def m_cmp_Or_int_l1 : Nat → Int → (List Int) → Int → Int → Option Int
  | 0, _, _, _, _ => none
  | n1 + 1, t3, t6, t7, t8 =>
    bif decide (t8 < t7) then ((at? t6 t8).bind fun x12 =>
    bif (x12 != t3) then (some x12)
    else ((ckI (t8 + (1 : Int))).bind fun x16 =>
    (m_cmp_Or_int_l1  n1) t3 t6 t7 x16))
    else (m_cmp_Or_int_j1  t3)
def m_cmp_Or_int (a0 : (List Int)) : Option Int :=
  m_cmp_Or_int_l1  (((a0.length : Int) - (0 : Int)).toNat + 1) (0 : Int) a0 (a0.length : Int) (0 : Int)
theorem c_cmp_Or_int (a0 : (List Int)) (r : Int) (h : m_cmp_Or_int a0 = some r) : Ret Try.prog f_cmp_Or_int [e_Lint a0] (e_int r) := by
  refine Does.goG [] F_cmp_Or_int rfl e_cmp_Or_int n_cmp_Or_int rfl (rvs := [.tmp 2]) rfl rfl ?_
  intro w0 ok0 lent ρ0
  refine LWP.seq_k fun N1 hN1 => ?_
  refine LWP.region (l := [_]) ?_
  refine LWo.assign (e_int (0 : Int)) rfl (hn := ?_)
  refine LWo.nil (hN1 _ ?_)
  refine LWP.seq_k fun N2 hN2 => ?_
  refine LWP.region (l := [_]) ?_
  refine LWo.assign (e_int (0 : Int)) rfl (hn := ?_)
  refine LWo.nil (hN2 _ ?_)
  refine LWP.join (α := Int) (fun z : Int => [(3, (e_int z))]) (fun z : Int => []) (fun z : Int => m_cmp_Or_int_j1  z) r (fun _ => by simp [hkeys]) ?_ ?_
  ·rintro t3 h
   replace h : m_cmp_Or_int_j1  t3 = some _ := h
   refine LWP.seq_k fun N17 hN17 => ?_
   refine LWP.region (l := [_,_]) ?_
   refine LWo.move (e_int t3) rfl (hn := ?_)
   refine LWo.assign (e_int t3) rfl (hn := ?_)
   refine LWo.nil (hN17 _ ?_)
   obtain rfl := Option.some.inj h
   refine LWP.ret (QG.mk (.inr rfl) (.cons (.tmp (x := (e_int t3)) rfl) (.nil)) (RetOK.one0 (.pure rfl) (by decide)) rfl rfl)
  ·intro N3 hN3
   refine LWP.seq_k fun N4 hN4 => ?_
   refine LWP.region (l := [_,_,_]) ?_
   refine LWo.move (e_Lint a0) rfl (hn := ?_)
   refine LWo.lenM (f := e_int) (l := a0) u_Lint rfl (hn := ?_)
   refine LWo.move (e_int (0 : Int)) rfl (hn := ?_)
   refine LWo.nil (hN4 _ ?_)
   refine LWP.block ?_
   refine LWP.loopM (α := Int × (List Int) × Int × Int) (fun z : Int × (List Int) × Int × Int => [(3, (e_int z.1)), (6, (e_Lint z.2.1)), (7, (e_int z.2.2.1)), (8, (e_int z.2.2.2))]) (fun z : Int × (List Int) × Int × Int => []) (fun n1 (z : Int × (List Int) × Int × Int) => m_cmp_Or_int_l1  n1 z.1 z.2.1 z.2.2.1 z.2.2.2) r _ ((0 : Int), a0, (a0.length : Int), (0 : Int)) h (fun _ => rfl) (fun _ => by simp [hkeys]) ⟨rfl, rfl, rfl, rfl, trivial⟩ trivial ?_
   rintro n1 ⟨t3, t6, t7, t8⟩ h N5 hN5
   replace h : m_cmp_Or_int_l1  (n1 + 1) t3 t6 t7 t8 = some _ := h
   refine LWP.seq_k fun N7 hN7 => ?_
   refine LWP.region (l := [_]) ?_
   refine LWo.int _ rfl rfl rfl (hn := ?_)
   refine LWo.nil (hN7 _ ?_)
   refine LWP.seq_k fun N8 hN8 => ?_
   refine LWP.cond_split rfl (fun h9 => ?_) (fun h9 => ?_)
   ·have h := bT h9 h
    refine LWP.skip (hN8 _ ?_)
    refine LWP.seq_k fun N10 hN10 => ?_
    refine LWP.block ?_
    refine LWP.seq_k fun N11 hN11 => ?_
    refine LWP.region (l := [_,_,_]) ?_
    refine bk h fun x12 e12 h => ?_
    refine LWo.indexM (f := e_int) e12 u_Lint s_int rfl rfl (hn := ?_)
    refine LWo.load1 (c := (e_int x12)) g_int rfl (hn := ?_)
    refine LWo.assign (e_int x12) rfl (hn := ?_)
    refine LWo.nil (hN11 _ ?_)
    refine LWP.seq_k fun N13 hN13 => ?_
    refine LWP.region (l := [_,_,_]) ?_
    refine LWo.move (e_int x12) rfl (hn := ?_)
    refine LWo.move (e_int t3) rfl (hn := ?_)
    refine LWo.int _ rfl rfl rfl (hn := ?_)
    refine LWo.nil (hN13 _ ?_)
    refine LWP.cond_split rfl (fun h14 => ?_) (fun h14 => ?_)
    ·have h := bT h14 h
     refine LWP.seq_k fun N15 hN15 => ?_
     refine LWP.region (l := [_,_]) ?_
     refine LWo.move (e_int x12) rfl (hn := ?_)
     refine LWo.assign (e_int x12) rfl (hn := ?_)
     refine LWo.nil (hN15 _ ?_)
     obtain rfl := Option.some.inj h
     refine LWP.ret (QG.mk (.inr rfl) (.cons (.tmp (x := (e_int x12)) rfl) (.nil)) (RetOK.one0 (.pure rfl) (by decide)) rfl rfl)
    ·have h := bF h14 h
     refine LWP.skip (hN10 _ ?_)
     refine LWP.region (l := [_,_]) ?_
     refine bk h fun x16 e16 h => ?_
     refine LWo.int _ rfl rfl (add_ck e16) (hn := ?_)
     refine LWo.move (e_int x16) rfl (hn := ?_)
     refine LWo.nil (hN5 (t3, t6, t7, x16) _ ⟨rfl, rfl, rfl, rfl, trivial⟩ trivial h)
   ·have h := bF h9 h
    refine LWP.exit (hN3 t3 _ ⟨rfl, trivial⟩ trivial h)

def m_impl_Value_order (a0 : S_impl_Value) (a1 : S_impl_Value) : Option Int :=
  (m_cmp_Compare_int a0.Kind a1.Kind).bind fun x3 =>
  (m_cmp_Compare_int a0.N a1.N).bind fun x4 =>
  (m_cmp_Compare_string a0.S a1.S).bind fun x5 =>
  (m_cmp_Or_int ([x3, x4, x5] : (List Int))).bind fun x6 =>
  some x6
theorem c_impl_Value_order (a0 : S_impl_Value) (a1 : S_impl_Value) (r : Int) (h : m_impl_Value_order a0 a1 = some r) : Ret Try.prog f_impl_Value_order [e_impl_Value a0, e_impl_Value a1] (e_int r) := by
  refine Does.goG [] F_impl_Value_order rfl e_impl_Value_order n_impl_Value_order rfl (rvs := [.tmp 4]) rfl rfl ?_
  intro w0 ok0 lent ρ0
  refine LWP.seq_k fun N1 hN1 => ?_
  refine LWP.region (l := [_,_,_]) ?_
  refine LWo.boxF (e_impl_Value a0) rfl rfl rfl (hn := ?_)
  refine LWo.boxF (e_impl_Value a1) rfl rfl rfl (hn := ?_)
  refine LWo.assign (e_int (0 : Int)) rfl (hn := ?_)
  refine LWo.nil (hN1 _ ?_)
  refine LWP.seq_k fun N2 hN2 => ?_
  refine bk h fun x3 e3 h => ?_
  refine bk h fun x4 e4 h => ?_
  refine bk h fun x5 e5 h => ?_
  refine bk h fun x6 e6 h => ?_
  refine LWP.drawF (l := [_,_,_,_,_,_,_,_,_,_,_,_,_,_,_,_,_,_]) [] [2, 3] [([2], []), ([5], []), ([3], []), ([7], []), ([6, 8], []), ([2], []), ([10], []), ([3], []), ([12], []), ([11, 13], []), ([2], []), ([15], []), ([3], []), ([17], []), ([16, 18], []), ([9, 14, 19], []), ([20], []), ([21], [])] [4] [] mixed (by kernel_rfl) rfl (by decide) ?_
  refine dq 5 rfl (fun _ g u h => LWo.fieldAddr _ u_impl_Value rfl s_int u.1 rfl (hn := .nil (zn g))) ?_
  refine dq 6 rfl (fun _ g u h => LWo.load1 (c := (e_int a0.Kind)) g_int u.1 (hn := .nil (zn g))) ?_
  refine dq 7 rfl (fun _ g u h => LWo.fieldAddr _ u_impl_Value rfl s_int u.1 rfl (hn := .nil (zn g))) ?_
  refine dq 8 rfl (fun _ g u h => LWo.load1 (c := (e_int a1.Kind)) g_int u.1 (hn := .nil (zn g))) ?_
  refine dq 9 rfl (fun _ g u h => LWo.vcall rfl (av2 u.1 u.2.1) (c_cmp_Compare_int _ _ _ e3) (.same (.same (.nil))) (hn := .nil (zn g))) ?_
  refine dq 10 rfl (fun _ g u h => LWo.fieldAddr _ u_impl_Value rfl s_int u.1 rfl (hn := .nil (zn g))) ?_
  refine dq 11 rfl (fun _ g u h => LWo.load1 (c := (e_int a0.N)) g_int u.1 (hn := .nil (zn g))) ?_
  refine dq 12 rfl (fun _ g u h => LWo.fieldAddr _ u_impl_Value rfl s_int u.1 rfl (hn := .nil (zn g))) ?_
  refine dq 13 rfl (fun _ g u h => LWo.load1 (c := (e_int a1.N)) g_int u.1 (hn := .nil (zn g))) ?_
  refine dq 14 rfl (fun _ g u h => LWo.vcall rfl (av2 u.1 u.2.1) (c_cmp_Compare_int _ _ _ e4) (.same (.same (.nil))) (hn := .nil (zn g))) ?_
  refine dq 15 rfl (fun _ g u h => LWo.fieldAddr _ u_impl_Value rfl s_string u.1 rfl (hn := .nil (zn g))) ?_
  refine dq 16 rfl (fun _ g u h => LWo.load1 (c := (e_string a0.S)) g_string u.1 (hn := .nil (zn g))) ?_
  refine dq 17 rfl (fun _ g u h => LWo.fieldAddr _ u_impl_Value rfl s_string u.1 rfl (hn := .nil (zn g))) ?_
  refine dq 18 rfl (fun _ g u h => LWo.load1 (c := (e_string a1.S)) g_string u.1 (hn := .nil (zn g))) ?_
  refine dq 19 rfl (fun _ g u h => LWo.vcall rfl (av2 u.1 u.2.1) (c_cmp_Compare_string _ _ _ e5) (.same (.same (.nil))) (hn := .nil (zn g))) ?_
  refine dq 20 rfl (fun _ g u h => LWo.lit (ops := [_, _, _]) [(e_int x3), (e_int x4), (e_int x5)] u_Lint s_int z_int (lv3 u.1 u.2.1 u.2.2.1) rfl rfl rfl rfl rfl (hn := .nil (zn g))) ?_
  refine dq 21 rfl (fun _ g u h => LWo.vcall rfl (av1 u.1) (c_cmp_Or_int _ _ e6) (.same (.nil)) (hn := .nil (zn g))) ?_
  refine dq 4 rfl (fun _ g u h => LWo.assign (e_int x6) u.1 (hn := .nil (zn g))) ?_
  refine ⟨rfl, by kernel_rfl, hN2 _ ?_⟩
  obtain rfl := Option.some.inj h
  refine LWP.ret (QG.mk (.inr rfl) (.cons (.tmp (x := (e_int x6)) rfl) (.nil)) (RetOK.one0 (.pure rfl) (by decide)) rfl rfl)

def m_impl_rowOrder (a0 : (List S_impl_Value)) (a1 : (List S_impl_Value)) : Option Int :=
  (m_slices_CompareFunc_Limpl_Value_Limpl_Value_impl_Value_impl_Value a0 a1 (fun b0_ b1_ => m_impl_Value_order b0_ b1_ )).bind fun x3 =>
  (m_cmp_Compare_int (a0.length : Int) (a1.length : Int)).bind fun x4 =>
  (m_cmp_Or_int ([x3, x4] : (List Int))).bind fun x5 =>
  some x5
theorem c_impl_rowOrder (a0 : (List S_impl_Value)) (a1 : (List S_impl_Value)) (r : Int) (h : m_impl_rowOrder a0 a1 = some r) : Ret Try.prog f_impl_rowOrder [e_Limpl_Value a0, e_Limpl_Value a1] (e_int r) := by
  refine Does.goG [] F_impl_rowOrder rfl e_impl_rowOrder n_impl_rowOrder rfl (rvs := [.tmp 4]) rfl rfl ?_
  intro w0 ok0 lent ρ0
  refine LWP.seq_k fun N1 hN1 => ?_
  refine LWP.region (l := [_]) ?_
  refine LWo.assign (e_int (0 : Int)) rfl (hn := ?_)
  refine LWo.nil (hN1 _ ?_)
  refine LWP.seq_k fun N2 hN2 => ?_
  refine LWP.region (l := [_,_,_,_,_,_,_,_,_,_,_]) ?_
  refine LWo.move (e_Limpl_Value a0) rfl (hn := ?_)
  refine LWo.move (e_Limpl_Value a1) rfl (hn := ?_)
  refine bk h fun x3 e3 h => ?_
  refine LWo.vcall rfl rfl (c_slices_CompareFunc_Limpl_Value_Limpl_Value_impl_Value_impl_Value _ _ _ f_impl_Value_order [] (fun _ => rfl) (fun b0_ b1_ v hv => c_impl_Value_order b0_ b1_  v hv) _ e3) (.same (.same (.same (.nil)))) (hn := ?_)
  refine LWo.move (e_Limpl_Value a0) rfl (hn := ?_)
  refine LWo.lenM (f := e_impl_Value) (l := a0) u_Limpl_Value rfl (hn := ?_)
  refine LWo.move (e_Limpl_Value a1) rfl (hn := ?_)
  refine LWo.lenM (f := e_impl_Value) (l := a1) u_Limpl_Value rfl (hn := ?_)
  refine bk h fun x4 e4 h => ?_
  refine LWo.vcall rfl rfl (c_cmp_Compare_int _ _ _ e4) (.same (.same (.nil))) (hn := ?_)
  refine LWo.lit (ops := [_, _]) [(e_int x3), (e_int x4)] u_Lint s_int z_int rfl rfl rfl rfl rfl rfl (hn := ?_)
  refine bk h fun x5 e5 h => ?_
  refine LWo.vcall rfl rfl (c_cmp_Or_int _ _ e5) (.same (.nil)) (hn := ?_)
  refine LWo.assign (e_int x5) rfl (hn := ?_)
  refine LWo.nil (hN2 _ ?_)
  obtain rfl := Option.some.inj h
  refine LWP.ret (QG.mk (.inr rfl) (.cons (.tmp (x := (e_int x5)) rfl) (.nil)) (RetOK.one0 (.pure rfl) (by decide)) rfl rfl)

def m_impl_TalliesOk_j2  : Option Bool :=
  some true
def m_impl_TalliesOk_j1 (k1 : (List S_impl_Tally) → (List S_impl_Tally) → Int → Int → Option Bool) (t0 : (List S_impl_Tally)) (t5 : (List S_impl_Tally)) (t6 : Int) (t7 : Int) (t30 : Bool) : Option Bool :=
  bif t30 then (some false)
  else ((ckI (t7 + (1 : Int))).bind fun x22 =>
  k1 t0 t5 t6 x22)
def m_impl_TalliesOk_l1 : Nat → (List S_impl_Tally) → (List S_impl_Tally) → Int → Int → Option Bool
  | 0, _, _, _, _ => none
  | n1 + 1, t0, t5, t6, t7 =>
    bif decide (t7 < t6) then ((at? t5 t7).bind fun x11 =>
    lt (x11) fun y12 =>
    (m_impl_Tally_ok y12).bind fun x14 =>
    bif (!x14) then (m_impl_TalliesOk_j1  (m_impl_TalliesOk_l1  n1) t0 t5 t6 t7 true)
    else (bif decide (t7 > (0 : Int)) then ((ckI (t7 - (1 : Int))).bind fun x17 =>
        (at? t0 x17).bind fun x18 =>
        (m_impl_rowOrder x18.Key y12.Key).bind fun x19 =>
        m_impl_TalliesOk_j1  (m_impl_TalliesOk_l1  n1) t0 t5 t6 t7 (decide (x19 ≥ (0 : Int))))
      else (m_impl_TalliesOk_j1  (m_impl_TalliesOk_l1  n1) t0 t5 t6 t7 false)))
    else (m_impl_TalliesOk_j2  )
def m_impl_TalliesOk (a0 : (List S_impl_Tally)) : Option Bool :=
  m_impl_TalliesOk_l1  (((a0.length : Int) - (0 : Int)).toNat + 1) a0 a0 (a0.length : Int) (0 : Int)
theorem c_impl_TalliesOk (a0 : (List S_impl_Tally)) (r : Bool) (h : m_impl_TalliesOk a0 = some r) : Ret Try.prog f_impl_TalliesOk [e_Limpl_Tally a0] (e_bool r) := by
  refine Does.goG [] F_impl_TalliesOk rfl e_impl_TalliesOk n_impl_TalliesOk rfl (rvs := [.tmp 2]) rfl rfl ?_
  intro w0 ok0 lent ρ0
  refine LWP.seq_k fun N1 hN1 => ?_
  refine LWP.region (l := [_]) ?_
  refine LWo.assign (e_bool false) rfl (hn := ?_)
  refine LWo.nil (hN1 _ ?_)
  refine LWP.join (α := Unit) (fun z : Unit => []) (fun z : Unit => []) (fun z : Unit => m_impl_TalliesOk_j2  ) r (fun _ => by simp [hkeys]) ?_ ?_
  ·rintro _ h
   replace h : m_impl_TalliesOk_j2   = some _ := h
   refine LWP.seq_k fun N23 hN23 => ?_
   refine LWP.region (l := [_]) ?_
   refine LWo.assign (e_bool true) rfl (hn := ?_)
   refine LWo.nil (hN23 _ ?_)
   obtain rfl := Option.some.inj h
   refine LWP.ret (QG.mk (.inr rfl) (.cons (.tmp (x := (e_bool true)) rfl) (.nil)) (RetOK.one0 (.pure rfl) (by decide)) rfl rfl)
  ·intro N2 hN2
   refine LWP.seq_k fun N3 hN3 => ?_
   refine LWP.region (l := [_,_,_]) ?_
   refine LWo.move (e_Limpl_Tally a0) rfl (hn := ?_)
   refine LWo.lenM (f := e_impl_Tally) (l := a0) u_Limpl_Tally rfl (hn := ?_)
   refine LWo.move (e_int (0 : Int)) rfl (hn := ?_)
   refine LWo.nil (hN3 _ ?_)
   refine LWP.block ?_
   refine LWP.loopM (α := (List S_impl_Tally) × (List S_impl_Tally) × Int × Int) (fun z : (List S_impl_Tally) × (List S_impl_Tally) × Int × Int => [(0, (e_Limpl_Tally z.1)), (5, (e_Limpl_Tally z.2.1)), (6, (e_int z.2.2.1)), (7, (e_int z.2.2.2))]) (fun z : (List S_impl_Tally) × (List S_impl_Tally) × Int × Int => []) (fun n1 (z : (List S_impl_Tally) × (List S_impl_Tally) × Int × Int) => m_impl_TalliesOk_l1  n1 z.1 z.2.1 z.2.2.1 z.2.2.2) r _ (a0, a0, (a0.length : Int), (0 : Int)) h (fun _ => rfl) (fun _ => by simp [hkeys]) ⟨rfl, rfl, rfl, rfl, trivial⟩ trivial ?_
   rintro n1 ⟨t0, t5, t6, t7⟩ h N4 hN4
   replace h : m_impl_TalliesOk_l1  (n1 + 1) t0 t5 t6 t7 = some _ := h
   refine LWP.seq_k fun N6 hN6 => ?_
   refine LWP.region (l := [_]) ?_
   refine LWo.int _ rfl rfl rfl (hn := ?_)
   refine LWo.nil (hN6 _ ?_)
   refine LWP.seq_k fun N7 hN7 => ?_
   refine LWP.cond_split rfl (fun h8 => ?_) (fun h8 => ?_)
   ·have h := bT h8 h
    refine LWP.skip (hN7 _ ?_)
    refine LWP.seq_k fun N9 hN9 => ?_
    refine LWP.block ?_
    refine LWP.seq_k fun N10 hN10 => ?_
    refine LWP.region (l := [_,_,_,_,_,_]) ?_
    refine LWo.move (e_int t7) rfl (hn := ?_)
    refine bk h fun x11 e11 h => ?_
    refine LWo.indexM (f := e_impl_Tally) e11 u_Limpl_Tally s_impl_Tally rfl rfl (hn := ?_)
    refine LWo.loadN ((e_impl_Tally x11)).cells g_impl_Tally s_impl_Tally rfl (Nat.le_of_ble_eq_true rfl) rfl (hn := ?_)
    refine LWo.alloc_impl_Tally 4 rfl (hn := ?_)
    refine LWo.assign (e_int t7) rfl (hn := ?_)
    refine lk h fun y12 e12 h => ?_
    refine LWo.storeW (y := (⟨[], (0 : Int), (0 : Int), (0 : Int)⟩ : S_impl_Tally)) y12 s_impl_Tally rfl rfl rfl rfl rfl rfl (by rw [e12]; exact .refl) rfl (hn := ?_)
    refine LWo.nil (hN10 _ ?_)
    refine LWP.join (α := (List S_impl_Tally) × (List S_impl_Tally) × Int × Int × Bool) (fun z : (List S_impl_Tally) × (List S_impl_Tally) × Int × Int × Bool => [(0, (e_Limpl_Tally z.1)), (5, (e_Limpl_Tally z.2.1)), (6, (e_int z.2.2.1)), (7, (e_int z.2.2.2.1)), (30, (e_bool z.2.2.2.2))]) (fun z : (List S_impl_Tally) × (List S_impl_Tally) × Int × Int × Bool => []) (fun z : (List S_impl_Tally) × (List S_impl_Tally) × Int × Int × Bool => m_impl_TalliesOk_j1  (m_impl_TalliesOk_l1  n1) z.1 z.2.1 z.2.2.1 z.2.2.2.1 z.2.2.2.2) r (fun _ => by simp [hkeys]) ?_ ?_
    ·rintro ⟨t0, t5, t6, t7, t30⟩ h
     replace h : m_impl_TalliesOk_j1  (m_impl_TalliesOk_l1  n1) t0 t5 t6 t7 t30 = some _ := h
     refine LWP.cond_split rfl (fun h20 => ?_) (fun h20 => ?_)
     ·have h := bT h20 h
      refine LWP.seq_k fun N21 hN21 => ?_
      refine LWP.region (l := [_]) ?_
      refine LWo.assign (e_bool false) rfl (hn := ?_)
      refine LWo.nil (hN21 _ ?_)
      obtain rfl := Option.some.inj h
      refine LWP.ret (QG.mk (.inr rfl) (.cons (.tmp (x := (e_bool false)) rfl) (.nil)) (RetOK.one0 (.pure rfl) (by decide)) rfl rfl)
     ·have h := bF h20 h
      refine LWP.skip (hN9 _ ?_)
      refine LWP.region (l := [_,_]) ?_
      refine bk h fun x22 e22 h => ?_
      refine LWo.int _ rfl rfl (add_ck e22) (hn := ?_)
      refine LWo.move (e_int x22) rfl (hn := ?_)
      refine LWo.nil (hN4 (t0, t5, t6, x22) _ ⟨rfl, rfl, rfl, rfl, trivial⟩ trivial h)
    ·intro N13 hN13
     refine bk h fun x14 e14 h => ?_
     refine bS ((!x14)) (fun h15 => ?_) (fun h15 => ?_)
     ·have h := bT h15 h
      refine LWP.drawF (l := [_,_,_,_,_,_,_,_,_,_,_,_,_,_,_,_,_,_,_]) [] [0, 3, 4, 5, 6, 7] [([4], [4]), ([12], []), ([13], []), ([14], []), ([3, 15], []), ([15, 16], []), ([15, 17], []), ([0, 18], []), ([3, 18], []), ([18, 20], []), ([18, 19, 21], []), ([18, 22], []), ([18, 23], []), ([4, 18], []), ([18, 25], []), ([18, 24, 26], []), ([18, 27], []), ([15, 18, 28], []), ([15, 29], [])] [0, 5, 6, 7, 30] [] mixed (by kernel_rfl) rfl (by decide) ?_
      refine dq 12 rfl (fun _ g u h => LWo.loadVN ((e_impl_Tally y12)).cells  g_impl_Tally s_impl_Tally u.1 h.1 rfl rfl (hn := .nil (zn g))) ?_
      refine dq 13 rfl (fun _ g u h => LWo.vcall rfl (av1 u.1) (c_impl_Tally_ok _ _ e14) (.same (.nil)) (hn := .nil (zn g))) ?_
      refine dq 14 rfl (fun _ g u h => LWo.not u.1 (hn := .nil (zn g))) ?_
      refine dq 15 rfl (fun _ g u h => LWo.move (e_bool (!x14)) u.1 (hn := .nil (zn g))) ?_
      refine dq 16 rfl (fun _ g u h => LWo.guardNU (t := 15) u.2.1 h15 rfl rfl rfl rfl rfl (.nil (zn g))) ?_
      refine dq 17 rfl (fun _ g u h => LWo.guardNU (t := 15) u.1 h15 rfl rfl rfl rfl rfl (.nil (zn g))) ?_
      refine dq 18 rfl (fun _ g u h => LWo.guardNU (t := 15) u.1 h15 rfl rfl rfl rfl rfl (.nil (zn g))) ?_
      refine dq 19 rfl (fun _ g u h => LWo.guardU (t := 18) u.2.1 rfl rfl rfl rfl (.nil (zn g))) ?_
      refine dq 20 rfl (fun _ g u h => LWo.guardU (t := 18) u.2.1 rfl rfl rfl rfl (.nil (zn g))) ?_
      refine dq 21 rfl (fun _ g u h => LWo.guardU (t := 18) u.1 rfl rfl rfl rfl (.nil (zn g))) ?_
      refine dq 22 rfl (fun _ g u h => LWo.guardU (t := 18) u.1 rfl rfl rfl rfl (.nil (zn g))) ?_
      refine dq 23 rfl (fun _ g u h => LWo.guardU (t := 18) u.1 rfl rfl rfl rfl (.nil (zn g))) ?_
      refine dq 24 rfl (fun _ g u h => LWo.guardU (t := 18) u.1 rfl rfl rfl rfl (.nil (zn g))) ?_
      refine dq 25 rfl (fun _ g u h => LWo.guardU (t := 18) u.2.1 rfl rfl rfl rfl (.nil (zn g))) ?_
      refine dq 26 rfl (fun _ g u h => LWo.guardU (t := 18) u.1 rfl rfl rfl rfl (.nil (zn g))) ?_
      refine dq 27 rfl (fun _ g u h => LWo.guardU (t := 18) u.1 rfl rfl rfl rfl (.nil (zn g))) ?_
      refine dq 28 rfl (fun _ g u h => LWo.guardU (t := 18) u.1 rfl rfl rfl rfl (.nil (zn g))) ?_
      refine dq 29 rfl (fun _ g u h => LWo.guardNU (t := 15) u.1 h15 rfl rfl rfl rfl rfl (.nil (zn g))) ?_
      refine dq 30 rfl (fun _ g u h => LWo.pickTM (e_bool true) u.1 h15 rfl (hn := .nil (zn g))) ?_
      refine ⟨rfl, by kernel_rfl, hN13 (t0, t5, t6, t7, true) _ ⟨rfl, rfl, rfl, rfl, rfl, trivial⟩ trivial h⟩
     ·have h := bF h15 h
      refine bS (decide (t7 > (0 : Int))) (fun h16 => ?_) (fun h16 => ?_)
      ·have h := bT h16 h
       refine bk h fun x17 e17 h => ?_
       refine bk h fun x18 e18 h => ?_
       refine bk h fun x19 e19 h => ?_
       refine LWP.drawF (l := [_,_,_,_,_,_,_,_,_,_,_,_,_,_,_,_,_,_,_]) [] [0, 3, 4, 5, 6, 7] [([4], [4]), ([12], []), ([13], []), ([14], []), ([3, 15], []), ([15, 16], []), ([15, 17], []), ([0, 18], []), ([3, 18], []), ([18, 20], []), ([18, 19, 21], []), ([18, 22], []), ([18, 23], []), ([4, 18], []), ([18, 25], [4]), ([18, 24, 26], []), ([18, 27], []), ([15, 18, 28], []), ([15, 29], [])] [0, 5, 6, 7, 30] [] mixed (by kernel_rfl) rfl (by decide) ?_
       refine dq 12 rfl (fun _ g u h => LWo.loadVN ((e_impl_Tally y12)).cells  g_impl_Tally s_impl_Tally u.1 h.1 rfl rfl (hn := .nil (zn g))) ?_
       refine dq 13 rfl (fun _ g u h => LWo.vcall rfl (av1 u.1) (c_impl_Tally_ok _ _ e14) (.same (.nil)) (hn := .nil (zn g))) ?_
       refine dq 14 rfl (fun _ g u h => LWo.not u.1 (hn := .nil (zn g))) ?_
       refine dq 15 rfl (fun _ g u h => LWo.move (e_bool (!x14)) u.1 (hn := .nil (zn g))) ?_
       refine dq 16 rfl (fun _ g u h => LWo.guardY (t := 15) u.2.1 h15 rfl rfl (LWo.move (e_int t7) u.1 (hn := .nil (zn g)))) ?_
       refine dq 17 rfl (fun _ g u h => LWo.guardY (t := 15) u.1 h15 rfl rfl (LWo.int _ u.2.1 rfl rfl (hn := .nil (zn g)))) ?_
       refine dq 18 rfl (fun _ g u h => LWo.guardY (t := 15) u.1 h15 rfl rfl (LWo.move (e_bool (decide (t7 > (0 : Int)))) u.2.1 (hn := .nil (zn g)))) ?_
       refine dq 19 rfl (fun _ g u h => LWo.guardY (t := 18) u.2.1 h16 rfl rfl (LWo.move (e_Limpl_Tally t0) u.1 (hn := .nil (zn g)))) ?_
       refine dq 20 rfl (fun _ g u h => LWo.guardY (t := 18) u.2.1 h16 rfl rfl (LWo.move (e_int t7) u.1 (hn := .nil (zn g)))) ?_
       refine dq 21 rfl (fun _ g u h => LWo.guardY (t := 18) u.1 h16 rfl rfl (LWo.int _ u.2.1 rfl (sub_ck e17) (hn := .nil (zn g)))) ?_
       refine dq 22 rfl (fun _ g u h => LWo.guardY (t := 18) u.1 h16 rfl rfl (LWo.indexM (f := e_impl_Tally) e18 u_Limpl_Tally s_impl_Tally u.2.1 u.2.2.1 (hn := .nil (zn g)))) ?_
       refine dq 23 rfl (fun _ g u h => LWo.guardY (t := 18) u.1 h16 rfl rfl (LWo.fieldAddr _ u_impl_Tally rfl s_Limpl_Value u.2.1 rfl (hn := .nil (zn g)))) ?_
       refine dq 24 rfl (fun _ g u h => LWo.guardY (t := 18) u.1 h16 rfl rfl (LWo.load1 (c := (e_Limpl_Value x18.Key)) g_Limpl_Value u.2.1 (hn := .nil (zn g)))) ?_
       refine dq 25 rfl (fun _ g u h => LWo.guardY (t := 18) u.2.1 h16 rfl rfl (LWo.fieldPtr u_impl_Tally rfl s_Limpl_Value u.1 rfl (hn := .nil (zn g)))) ?_
       refine dq 26 rfl (fun _ g u h => LWo.guardY (t := 18) u.1 h16 rfl rfl (LWo.loadV1 (e_Limpl_Value y12.Key)  g_Limpl_Value u.2.1 h.1 rfl (hn := .nil (zn g)))) ?_
       refine dq 27 rfl (fun _ g u h => LWo.guardY (t := 18) u.1 h16 rfl rfl (LWo.vcall rfl (av2 u.2.1 u.2.2.1) (c_impl_rowOrder _ _ _ e19) (.same (.same (.nil))) (hn := .nil (zn g)))) ?_
       refine dq 28 rfl (fun _ g u h => LWo.guardY (t := 18) u.1 h16 rfl rfl (LWo.int _ u.2.1 rfl rfl (hn := .nil (zn g)))) ?_
       refine dq 29 rfl (fun _ g u h => LWo.guardY (t := 15) u.1 h15 rfl rfl (LWo.pickTM (e_bool (decide (x19 ≥ (0 : Int)))) u.2.1 h16 u.2.2.1 (hn := .nil (zn g)))) ?_
       refine dq 30 rfl (fun _ g u h => LWo.pickFM (e_bool (decide (x19 ≥ (0 : Int)))) u.1 h15 u.2.1 (hn := .nil (zn g))) ?_
       refine ⟨rfl, by kernel_rfl, hN13 (t0, t5, t6, t7, decide (x19 ≥ (0 : Int))) _ ⟨rfl, rfl, rfl, rfl, rfl, trivial⟩ trivial h⟩
      ·have h := bF h16 h
       refine LWP.drawF (l := [_,_,_,_,_,_,_,_,_,_,_,_,_,_,_,_,_,_,_]) [] [0, 3, 4, 5, 6, 7] [([4], [4]), ([12], []), ([13], []), ([14], []), ([3, 15], []), ([15, 16], []), ([15, 17], []), ([0, 18], []), ([3, 18], []), ([18, 20], []), ([18, 19, 21], []), ([18, 22], []), ([18, 23], []), ([4, 18], []), ([18, 25], []), ([18, 24, 26], []), ([18, 27], []), ([15, 18, 28], []), ([15, 29], [])] [0, 5, 6, 7, 30] [] mixed (by kernel_rfl) rfl (by decide) ?_
       refine dq 12 rfl (fun _ g u h => LWo.loadVN ((e_impl_Tally y12)).cells  g_impl_Tally s_impl_Tally u.1 h.1 rfl rfl (hn := .nil (zn g))) ?_
       refine dq 13 rfl (fun _ g u h => LWo.vcall rfl (av1 u.1) (c_impl_Tally_ok _ _ e14) (.same (.nil)) (hn := .nil (zn g))) ?_
       refine dq 14 rfl (fun _ g u h => LWo.not u.1 (hn := .nil (zn g))) ?_
       refine dq 15 rfl (fun _ g u h => LWo.move (e_bool (!x14)) u.1 (hn := .nil (zn g))) ?_
       refine dq 16 rfl (fun _ g u h => LWo.guardY (t := 15) u.2.1 h15 rfl rfl (LWo.move (e_int t7) u.1 (hn := .nil (zn g)))) ?_
       refine dq 17 rfl (fun _ g u h => LWo.guardY (t := 15) u.1 h15 rfl rfl (LWo.int _ u.2.1 rfl rfl (hn := .nil (zn g)))) ?_
       refine dq 18 rfl (fun _ g u h => LWo.guardY (t := 15) u.1 h15 rfl rfl (LWo.move (e_bool (decide (t7 > (0 : Int)))) u.2.1 (hn := .nil (zn g)))) ?_
       refine dq 19 rfl (fun _ g u h => LWo.guardNU (t := 18) u.2.1 h16 rfl rfl rfl rfl rfl (.nil (zn g))) ?_
       refine dq 20 rfl (fun _ g u h => LWo.guardNU (t := 18) u.2.1 h16 rfl rfl rfl rfl rfl (.nil (zn g))) ?_
       refine dq 21 rfl (fun _ g u h => LWo.guardNU (t := 18) u.1 h16 rfl rfl rfl rfl rfl (.nil (zn g))) ?_
       refine dq 22 rfl (fun _ g u h => LWo.guardNU (t := 18) u.1 h16 rfl rfl rfl rfl rfl (.nil (zn g))) ?_
       refine dq 23 rfl (fun _ g u h => LWo.guardNU (t := 18) u.1 h16 rfl rfl rfl rfl rfl (.nil (zn g))) ?_
       refine dq 24 rfl (fun _ g u h => LWo.guardNU (t := 18) u.1 h16 rfl rfl rfl rfl rfl (.nil (zn g))) ?_
       refine dq 25 rfl (fun _ g u h => LWo.guardNU (t := 18) u.2.1 h16 rfl rfl rfl rfl rfl (.nil (zn g))) ?_
       refine dq 26 rfl (fun _ g u h => LWo.guardNU (t := 18) u.1 h16 rfl rfl rfl rfl rfl (.nil (zn g))) ?_
       refine dq 27 rfl (fun _ g u h => LWo.guardNU (t := 18) u.1 h16 rfl rfl rfl rfl rfl (.nil (zn g))) ?_
       refine dq 28 rfl (fun _ g u h => LWo.guardNU (t := 18) u.1 h16 rfl rfl rfl rfl rfl (.nil (zn g))) ?_
       refine dq 29 rfl (fun _ g u h => LWo.guardY (t := 15) u.1 h15 rfl rfl (LWo.pickFM (e_bool false) u.2.1 h16 rfl (hn := .nil (zn g)))) ?_
       refine dq 30 rfl (fun _ g u h => LWo.pickFM (e_bool false) u.1 h15 u.2.1 (hn := .nil (zn g))) ?_
       refine ⟨rfl, by kernel_rfl, hN13 (t0, t5, t6, t7, false) _ ⟨rfl, rfl, rfl, rfl, rfl, trivial⟩ trivial h⟩
   ·have h := bF h8 h
    refine LWP.exit (hN2 () _ trivial trivial h)

theorem cc_slices_Clip_Limpl_Value_impl_Value (xs : List LV) : Does Try.prog f_slices_Clip_Limpl_Value_impl_Value [.own 0 0 xs.length] [(0, { kind := .fro, sz := 3, elems := xs })] (fun r h => r = .nw 3 xs false ∧ h = []) := by
  refine Does.go [0] F_slices_Clip_Limpl_Value_impl_Value rfl e_slices_Clip_Limpl_Value_impl_Value n_slices_Clip_Limpl_Value_impl_Value rfl (ts := [2]) rfl rfl rfl ?_
  intro w0 ok0 lent ρ0
  refine LWP.seq_k fun N1 hN1 => ?_
  refine LWP.region (l := [_]) ?_
  refine LWo.assign _ rfl (hn := ?_)
  refine LWo.nil (hN1 _ ?_)
  refine LWP.seq_k fun N2 hN2 => ?_
  refine LWP.region (l := [_,_,_,_,_,_,_]) ?_
  refine LWo.move _ rfl (hn := ?_)
  refine LWo.move _ rfl (hn := ?_)
  refine LWo.len u_Limpl_Value rfl (hn := ?_)
  refine LWo.move _ rfl (hn := ?_)
  refine LWo.len u_Limpl_Value rfl (hn := ?_)
  refine LWo.cutOwn (l := 0) (h := xs.length) u_Limpl_Value s_impl_Value rfl rfl rfl rfl ⟨_, rfl⟩ ⟨_, _, rfl, Nat.le_refl _, Nat.le_refl _⟩ (.inr (by simp)) (Nat.zero_le _) (Nat.le_refl _) rfl rfl (hn := ?_)
  refine LWo.assign _ rfl (hn := ?_)
  refine LWo.nil (hN2 _ ?_)
  refine LWP.ret (QRet.own1 (.inr rfl) rfl rfl rfl rfl (by simp) ⟨?_, rfl⟩)
  clear hN1 hN2
  exact congrArg (fun l => LV.nw 3 l false) (by simp)
def m_slices_Clip_Limpl_Value_impl_Value_o (o0 : List S_impl_Value) : Option (List S_impl_Value) := some o0
theorem c_slices_Clip_Limpl_Value_impl_Value_o (o0 : List S_impl_Value) (r : List S_impl_Value) (h : m_slices_Clip_Limpl_Value_impl_Value_o o0 = some r) : Does Try.prog f_slices_Clip_Limpl_Value_impl_Value [.own 0 0 o0.length] [(0, lob 3 e_impl_Value o0)] (fun x hh => x = .nw 3 (r.map e_impl_Value) false ∧ hh = []) := by
  cases h
  have := cc_slices_Clip_Limpl_Value_impl_Value (o0.map e_impl_Value)
  rw [List.length_map] at this
  exact this



def m_slices_Clip_Limpl_Value_impl_Value (a0 : (List S_impl_Value)) : Option (List S_impl_Value) :=
  (cut3? a0 (0 : Int) (a0.length : Int) (a0.length : Int)).bind fun x3 =>
  some x3
theorem c_slices_Clip_Limpl_Value_impl_Value (a0 : (List S_impl_Value)) (r : (List S_impl_Value)) (h : m_slices_Clip_Limpl_Value_impl_Value a0 = some r) : Ret Try.prog f_slices_Clip_Limpl_Value_impl_Value [e_Limpl_Value a0] (e_Limpl_Value r) := by
  refine Does.goG [] F_slices_Clip_Limpl_Value_impl_Value rfl e_slices_Clip_Limpl_Value_impl_Value n_slices_Clip_Limpl_Value_impl_Value rfl (rvs := [.tmp 2]) rfl rfl ?_
  intro w0 ok0 lent ρ0
  refine LWP.seq_k fun N1 hN1 => ?_
  refine LWP.region (l := [_]) ?_
  refine LWo.assign _ rfl (hn := ?_)
  refine LWo.weakT 2 (e_Limpl_Value ([] : (List S_impl_Value))) rfl .nil ?_
  refine LWo.nil (hN1 _ ?_)
  refine LWP.seq_k fun N2 hN2 => ?_
  refine LWP.region (l := [_,_,_,_,_,_,_]) ?_
  refine LWo.move (e_Limpl_Value a0) rfl (hn := ?_)
  refine LWo.move (e_Limpl_Value a0) rfl (hn := ?_)
  refine LWo.lenM (f := e_impl_Value) (l := a0) u_Limpl_Value rfl (hn := ?_)
  refine LWo.move (e_Limpl_Value a0) rfl (hn := ?_)
  refine LWo.lenM (f := e_impl_Value) (l := a0) u_Limpl_Value rfl (hn := ?_)
  refine bk h fun x3 e3 h => ?_
  refine LWo.cutM3 (f := e_impl_Value) e3 u_Limpl_Value s_impl_Value rfl rfl ⟨_, rfl⟩ ⟨_, rfl⟩ (hn := ?_)
  refine LWo.assign (e_Limpl_Value x3) rfl (hn := ?_)
  refine LWo.nil (hN2 _ ?_)
  obtain rfl := Option.some.inj h
  refine LWP.ret (QG.mk (.inr rfl) (.cons (.tmp (x := (e_Limpl_Value x3)) rfl) (.nil)) (RetOK.one0 (.pure rfl) (by decide)) rfl rfl)

def m_impl_clone_impl_Value (a0 : (List S_impl_Value)) : Option (List S_impl_Value) :=
  bif ((a0.length : Int) == (0 : Int)) then (some ([] : (List S_impl_Value)))
  else ((appN? a0).bind fun x7 =>
  (m_slices_Clip_Limpl_Value_impl_Value_o x7).bind fun x8 =>
  some x8)
theorem c_impl_clone_impl_Value (a0 : (List S_impl_Value)) (r : (List S_impl_Value)) (h : m_impl_clone_impl_Value a0 = some r) : Ret Try.prog f_impl_clone_impl_Value [e_Limpl_Value a0] (.nw 3 (r.map e_impl_Value) false) := by
  refine Does.goG [] F_impl_clone_impl_Value rfl e_impl_clone_impl_Value n_impl_clone_impl_Value rfl (rvs := [.tmp 2]) rfl rfl ?_
  intro w0 ok0 lent ρ0
  refine LWP.seq_k fun N1 hN1 => ?_
  refine LWP.region (l := [_]) ?_
  refine LWo.assign _ rfl (hn := ?_)
  refine LWo.ownNil 2 1002 3 rfl rfl rfl ?_
  refine LWo.known 2 (.own 1002 0 ([] : (List S_impl_Value)).length) rfl ?_
  refine LWo.nil (hN1 _ ?_)
  refine LWP.seq_k fun N2 hN2 => ?_
  refine LWP.seq_k fun N3 hN3 => ?_
  refine LWP.region (l := [_,_,_]) ?_
  refine LWo.move (e_Limpl_Value a0) rfl (hn := ?_)
  refine LWo.lenM (f := e_impl_Value) (l := a0) u_Limpl_Value rfl (hn := ?_)
  refine LWo.int _ rfl rfl rfl (hn := ?_)
  refine LWo.nil (hN3 _ ?_)
  refine LWP.cond_split rfl (fun h4 => ?_) (fun h4 => ?_)
  ·have h := bT h4 h
   refine LWP.seq_k fun N5 hN5 => ?_
   refine LWP.region (l := [_]) ?_
   refine LWo.assign _ rfl (hn := ?_)
   refine LWo.ownNil 2 1002 3 rfl rfl rfl ?_
   refine LWo.known 2 (.own 1002 0 ([] : (List S_impl_Value)).length) rfl ?_
   refine LWo.nil (hN5 _ ?_)
   obtain rfl := Option.some.inj h
   refine LWP.ret (QG.mk (.inr rfl) (.cons (.tmp (x := (.own 1002 0 (([] : (List S_impl_Value))).length)) rfl) (.nil)) (RetOK.one0 (.nwM rfl rfl) (by decide)) rfl rfl)
  ·have h := bF h4 h
   refine LWP.skip (hN2 _ ?_)
   refine LWP.seq_k fun N6 hN6 => ?_
   refine LWP.region (l := [_,_,_,_]) ?_
   refine LWo.move (e_Limpl_Value a0) rfl (hn := ?_)
   refine bk h fun x7 e7 h => ?_
   refine LWo.appendC (f := e_impl_Value) 1007 e7 u_Limpl_Value u_Limpl_Value (fun _ h => by cases h) i_impl_Value rfl rfl (.sl rfl) (fun _ => rfl) rfl rfl (hn := ?_)
   refine bk h fun x8 e8 h => ?_
   refine LWo.tcallN (e := e_impl_Value) (e' := e_impl_Value) 1008 rfl rfl (c_slices_Clip_Limpl_Value_impl_Value_o _ _ e8) (fun _ => rfl) rfl rfl rfl rfl (hn := ?_)
   refine LWo.assign (.own 1008 0 (x8).length) rfl (hn := ?_)
   refine LWo.nil (hN6 _ ?_)
   obtain rfl := Option.some.inj h
   refine LWP.ret (QG.mk (.inr rfl) (.cons (.tmp (x := (.own 1008 0 (x8).length)) rfl) (.nil)) (RetOK.one0 (.nwM rfl rfl) (by decide)) rfl rfl)

theorem cc_slices_Clip_Limpl_Tally_impl_Tally (xs : List LV) : Does Try.prog f_slices_Clip_Limpl_Tally_impl_Tally [.own 0 0 xs.length] [(0, { kind := .fro, sz := 4, elems := xs })] (fun r h => r = .nw 4 xs false ∧ h = []) := by
  refine Does.go [0] F_slices_Clip_Limpl_Tally_impl_Tally rfl e_slices_Clip_Limpl_Tally_impl_Tally n_slices_Clip_Limpl_Tally_impl_Tally rfl (ts := [2]) rfl rfl rfl ?_
  intro w0 ok0 lent ρ0
  refine LWP.seq_k fun N1 hN1 => ?_
  refine LWP.region (l := [_]) ?_
  refine LWo.assign _ rfl (hn := ?_)
  refine LWo.nil (hN1 _ ?_)
  refine LWP.seq_k fun N2 hN2 => ?_
  refine LWP.region (l := [_,_,_,_,_,_,_]) ?_
  refine LWo.move _ rfl (hn := ?_)
  refine LWo.move _ rfl (hn := ?_)
  refine LWo.len u_Limpl_Tally rfl (hn := ?_)
  refine LWo.move _ rfl (hn := ?_)
  refine LWo.len u_Limpl_Tally rfl (hn := ?_)
  refine LWo.cutOwn (l := 0) (h := xs.length) u_Limpl_Tally s_impl_Tally rfl rfl rfl rfl ⟨_, rfl⟩ ⟨_, _, rfl, Nat.le_refl _, Nat.le_refl _⟩ (.inr (by simp)) (Nat.zero_le _) (Nat.le_refl _) rfl rfl (hn := ?_)
  refine LWo.assign _ rfl (hn := ?_)
  refine LWo.nil (hN2 _ ?_)
  refine LWP.ret (QRet.own1 (.inr rfl) rfl rfl rfl rfl (by simp) ⟨?_, rfl⟩)
  clear hN1 hN2
  exact congrArg (fun l => LV.nw 4 l false) (by simp)
def m_slices_Clip_Limpl_Tally_impl_Tally_o (o0 : List S_impl_Tally) : Option (List S_impl_Tally) := some o0
theorem c_slices_Clip_Limpl_Tally_impl_Tally_o (o0 : List S_impl_Tally) (r : List S_impl_Tally) (h : m_slices_Clip_Limpl_Tally_impl_Tally_o o0 = some r) : Does Try.prog f_slices_Clip_Limpl_Tally_impl_Tally [.own 0 0 o0.length] [(0, lob 4 e_impl_Tally o0)] (fun x hh => x = .nw 4 (r.map e_impl_Tally) false ∧ hh = []) := by
  cases h
  have := cc_slices_Clip_Limpl_Tally_impl_Tally (o0.map e_impl_Tally)
  rw [List.length_map] at this
  exact this



def m_slices_Clip_Limpl_Tally_impl_Tally (a0 : (List S_impl_Tally)) : Option (List S_impl_Tally) :=
  (cut3? a0 (0 : Int) (a0.length : Int) (a0.length : Int)).bind fun x3 =>
  some x3
theorem c_slices_Clip_Limpl_Tally_impl_Tally (a0 : (List S_impl_Tally)) (r : (List S_impl_Tally)) (h : m_slices_Clip_Limpl_Tally_impl_Tally a0 = some r) : Ret Try.prog f_slices_Clip_Limpl_Tally_impl_Tally [e_Limpl_Tally a0] (e_Limpl_Tally r) := by
  refine Does.goG [] F_slices_Clip_Limpl_Tally_impl_Tally rfl e_slices_Clip_Limpl_Tally_impl_Tally n_slices_Clip_Limpl_Tally_impl_Tally rfl (rvs := [.tmp 2]) rfl rfl ?_
  intro w0 ok0 lent ρ0
  refine LWP.seq_k fun N1 hN1 => ?_
  refine LWP.region (l := [_]) ?_
  refine LWo.assign _ rfl (hn := ?_)
  refine LWo.weakT 2 (e_Limpl_Tally ([] : (List S_impl_Tally))) rfl .nil ?_
  refine LWo.nil (hN1 _ ?_)
  refine LWP.seq_k fun N2 hN2 => ?_
  refine LWP.region (l := [_,_,_,_,_,_,_]) ?_
  refine LWo.move (e_Limpl_Tally a0) rfl (hn := ?_)
  refine LWo.move (e_Limpl_Tally a0) rfl (hn := ?_)
  refine LWo.lenM (f := e_impl_Tally) (l := a0) u_Limpl_Tally rfl (hn := ?_)
  refine LWo.move (e_Limpl_Tally a0) rfl (hn := ?_)
  refine LWo.lenM (f := e_impl_Tally) (l := a0) u_Limpl_Tally rfl (hn := ?_)
  refine bk h fun x3 e3 h => ?_
  refine LWo.cutM3 (f := e_impl_Tally) e3 u_Limpl_Tally s_impl_Tally rfl rfl ⟨_, rfl⟩ ⟨_, rfl⟩ (hn := ?_)
  refine LWo.assign (e_Limpl_Tally x3) rfl (hn := ?_)
  refine LWo.nil (hN2 _ ?_)
  obtain rfl := Option.some.inj h
  refine LWP.ret (QG.mk (.inr rfl) (.cons (.tmp (x := (e_Limpl_Tally x3)) rfl) (.nil)) (RetOK.one0 (.pure rfl) (by decide)) rfl rfl)

def m_impl_tallies_j1 (o1003 : (List S_impl_Tally)) : Option (List S_impl_Tally) :=
  (m_slices_Clip_Limpl_Tally_impl_Tally_o o1003).bind fun x20 =>
  some x20
def m_impl_tallies_l1 : Nat → (List S_impl_Tally) → Int → Int → (List S_impl_Tally) → Option (List S_impl_Tally)
  | 0, _, _, _, _ => none
  | n1 + 1, t6, t7, t8, o1003 =>
    bif decide (t8 < t7) then ((at? t6 t8).bind fun x12 =>
    lt (x12) fun y13 =>
    (m_impl_clone_impl_Value y13.Key).bind fun x15 =>
    lt ({ y13 with Key := x15 }) fun y16 =>
    (app? o1003 ([y16] : (List S_impl_Tally))).bind fun x17 =>
    (ckI (t8 + (1 : Int))).bind fun x18 =>
    (m_impl_tallies_l1  n1) t6 t7 x18 x17)
    else (m_impl_tallies_j1  o1003)
def m_impl_tallies (a0 : (List S_impl_Tally)) : Option (List S_impl_Tally) :=
  m_impl_tallies_l1  (((a0.length : Int) - (0 : Int)).toNat + 1) a0 (a0.length : Int) (0 : Int) ([] : (List S_impl_Tally))
theorem c_impl_tallies (a0 : (List S_impl_Tally)) (r : (List S_impl_Tally)) (h : m_impl_tallies a0 = some r) : Ret Try.prog f_impl_tallies [e_Limpl_Tally a0] (.nw 4 (r.map e_impl_Tally) false) := by
  refine Does.goG [] F_impl_tallies rfl e_impl_tallies n_impl_tallies rfl (rvs := [.tmp 2]) rfl rfl ?_
  intro w0 ok0 lent ρ0
  refine LWP.seq_k fun N1 hN1 => ?_
  refine LWP.region (l := [_]) ?_
  refine LWo.assign _ rfl (hn := ?_)
  refine LWo.ownNil 2 1002 4 rfl rfl rfl ?_
  refine LWo.known 2 (.own 1002 0 ([] : (List S_impl_Tally)).length) rfl ?_
  refine LWo.nil (hN1 _ ?_)
  refine LWP.seq_k fun N2 hN2 => ?_
  refine LWP.region (l := [_]) ?_
  refine LWo.assign _ rfl (hn := ?_)
  refine LWo.ownNil 3 1003 4 rfl rfl rfl ?_
  refine LWo.known 3 (.own 1003 0 ([] : (List S_impl_Tally)).length) rfl ?_
  refine LWo.nil (hN2 _ ?_)
  refine LWP.join (α := (List S_impl_Tally)) (fun z : (List S_impl_Tally) => [(3, (.own 1003 0 (z).length))]) (fun z : (List S_impl_Tally) => [(1003, (lob 4 e_impl_Tally z))]) (fun z : (List S_impl_Tally) => m_impl_tallies_j1  z) r (fun _ => by simp [hkeys]) ?_ ?_
  ·rintro o1003 h
   replace h : m_impl_tallies_j1  o1003 = some _ := h
   refine LWP.seq_k fun N19 hN19 => ?_
   refine LWP.region (l := [_,_,_]) ?_
   refine LWo.move (.own 1003 0 (o1003).length) rfl (hn := ?_)
   refine bk h fun x20 e20 h => ?_
   refine LWo.tcallN (e := e_impl_Tally) (e' := e_impl_Tally) 1022 rfl rfl (c_slices_Clip_Limpl_Tally_impl_Tally_o _ _ e20) (fun _ => rfl) rfl rfl rfl rfl (hn := ?_)
   refine LWo.assign (.own 1022 0 (x20).length) rfl (hn := ?_)
   refine LWo.nil (hN19 _ ?_)
   obtain rfl := Option.some.inj h
   refine LWP.ret (QG.mk (.inr rfl) (.cons (.tmp (x := (.own 1022 0 (x20).length)) rfl) (.nil)) (RetOK.one0 (.nwM rfl rfl) (by decide)) rfl rfl)
  ·intro N3 hN3
   refine LWP.seq_k fun N4 hN4 => ?_
   refine LWP.region (l := [_,_,_]) ?_
   refine LWo.move (e_Limpl_Tally a0) rfl (hn := ?_)
   refine LWo.lenM (f := e_impl_Tally) (l := a0) u_Limpl_Tally rfl (hn := ?_)
   refine LWo.move (e_int (0 : Int)) rfl (hn := ?_)
   refine LWo.nil (hN4 _ ?_)
   refine LWP.block ?_
   refine LWP.loopM (α := (List S_impl_Tally) × Int × Int × (List S_impl_Tally)) (fun z : (List S_impl_Tally) × Int × Int × (List S_impl_Tally) => [(3, (.own 1003 0 (z.2.2.2).length)), (6, (e_Limpl_Tally z.1)), (7, (e_int z.2.1)), (8, (e_int z.2.2.1))]) (fun z : (List S_impl_Tally) × Int × Int × (List S_impl_Tally) => [(1003, (lob 4 e_impl_Tally z.2.2.2))]) (fun n1 (z : (List S_impl_Tally) × Int × Int × (List S_impl_Tally)) => m_impl_tallies_l1  n1 z.1 z.2.1 z.2.2.1 z.2.2.2) r _ (a0, (a0.length : Int), (0 : Int), ([] : (List S_impl_Tally))) h (fun _ => rfl) (fun _ => by simp [hkeys]) ⟨rfl, rfl, rfl, rfl, trivial⟩ ⟨rfl, trivial⟩ ?_
   rintro n1 ⟨t6, t7, t8, o1003⟩ h N5 hN5
   replace h : m_impl_tallies_l1  (n1 + 1) t6 t7 t8 o1003 = some _ := h
   refine LWP.seq_k fun N7 hN7 => ?_
   refine LWP.region (l := [_]) ?_
   refine LWo.int _ rfl rfl rfl (hn := ?_)
   refine LWo.nil (hN7 _ ?_)
   refine LWP.seq_k fun N8 hN8 => ?_
   refine LWP.cond_split rfl (fun h9 => ?_) (fun h9 => ?_)
   ·have h := bT h9 h
    refine LWP.skip (hN8 _ ?_)
    refine LWP.seq_k fun N10 hN10 => ?_
    refine LWP.block ?_
    refine LWP.seq_k fun N11 hN11 => ?_
    refine LWP.region (l := [_,_,_,_]) ?_
    refine bk h fun x12 e12 h => ?_
    refine LWo.indexM (f := e_impl_Tally) e12 u_Limpl_Tally s_impl_Tally rfl rfl (hn := ?_)
    refine LWo.loadN ((e_impl_Tally x12)).cells g_impl_Tally s_impl_Tally rfl (Nat.le_of_ble_eq_true rfl) rfl (hn := ?_)
    refine LWo.alloc_impl_Tally 5 rfl (hn := ?_)
    refine lk h fun y13 e13 h => ?_
    refine LWo.storeW (y := (⟨[], (0 : Int), (0 : Int), (0 : Int)⟩ : S_impl_Tally)) y13 s_impl_Tally rfl rfl rfl rfl rfl rfl (by rw [e13]; exact .refl) rfl (hn := ?_)
    refine LWo.nil (hN11 _ ?_)
    refine LWP.seq_k fun N14 hN14 => ?_
    refine LWP.region (l := [_,_,_,_,_]) ?_
    refine LWo.fieldPtr u_impl_Tally rfl s_Limpl_Value rfl rfl (hn := ?_)
    refine LWo.loadV1 (e_Limpl_Value y13.Key)  g_Limpl_Value rfl rfl rfl (hn := ?_)
    refine bk h fun x15 e15 h => ?_
    refine LWo.vcall rfl rfl (c_impl_clone_impl_Value _ _ e15) (.same (.nil)) (hn := ?_)
    refine LWo.fieldPtr u_impl_Tally rfl s_Limpl_Value rfl rfl (hn := ?_)
    refine lk h fun y16 e16 h => ?_
    refine LWo.storeW (y := y13) y16 s_Limpl_Value rfl rfl rfl rfl rfl rfl (by rw [e16]; exact .refl) rfl (hn := ?_)
    refine LWo.nil (hN14 _ ?_)
    refine LWP.region (l := [_,_,_,_,_]) ?_
    refine LWo.move (.own 1003 0 (o1003).length) rfl (hn := ?_)
    refine LWo.loadVN ((e_impl_Tally y16)).cells  g_impl_Tally s_impl_Tally rfl rfl rfl rfl (hn := ?_)
    refine LWo.lit (ops := [_]) [(e_impl_Tally y16)] u_Limpl_Tally s_impl_Tally z_impl_Tally rfl rfl rfl rfl rfl rfl (hn := ?_)
    refine bk h fun x17 e17 h => ?_
    refine LWo.appendM (f := e_impl_Tally) e17 rfl u_Limpl_Tally u_Limpl_Tally (fun _ h => by cases h) s_impl_Tally i_impl_Tally rfl rfl rfl (.sl rfl) rfl rfl (hn := ?_)
    refine LWo.assign (.own 1003 0 (x17).length) rfl (hn := ?_)
    refine LWo.nil (hN10 _ ?_)
    refine LWP.region (l := [_,_]) ?_
    refine bk h fun x18 e18 h => ?_
    refine LWo.int _ rfl rfl (add_ck e18) (hn := ?_)
    refine LWo.move (e_int x18) rfl (hn := ?_)
    refine LWo.nil (hN5 (t6, t7, x18, x17) _ ⟨rfl, rfl, rfl, rfl, trivial⟩ ⟨rfl, trivial⟩ h)
   ·have h := bF h9 h
    refine LWP.exit (hN3 o1003 _ ⟨rfl, trivial⟩ ⟨rfl, trivial⟩ h)
end Go.Proofs.Ytijihchddhikhaa
