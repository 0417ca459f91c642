/- Mirrors of functions, and that the functions return what the mirrors say. -/
import Derived.Test.YtijihchddhikhaaXW2
set_option linter.unusedVariables false
set_option linter.unusedSimpArgs false
set_option linter.unnecessarySimpa false
namespace Go.Proofs.Ytijihchddhikhaa
open Go.Proofs Go.Lift Go.RowKit
def m_spec_WrittenAt_j3 (o1036 : (List S_impl_Version)) : Option ((List S_impl_Version) × Bool) :=
  bif decide ((o1036.length : Int) > (60 : Int)) then (some (([] : (List S_impl_Version)), false))
  else (some (o1036, true))
def m_spec_WrittenAt_l2 : Nat → (List S_impl_Write) → Int → Int → (List S_impl_Version) → Option ((List S_impl_Version) × Bool)
  | 0, _, _, _, _ => none
  | n2 + 1, t1, t2, t10, o1036 =>
    bif decide (t10 < (t1.length : Int)) then ((at? t1 t10).bind fun x34 =>
    (m_spec_l13Written o1036 x34 t2).bind fun x35 =>
    (ckI (t10 + (1 : Int))).bind fun x36 =>
    (m_spec_WrittenAt_l2  n2) t1 t2 x36 x35)
    else (m_spec_WrittenAt_j3  o1036)
def m_spec_WrittenAt_j2 (t0 : (List S_impl_Version)) (t1 : (List S_impl_Write)) (t2 : Int) : Option ((List S_impl_Version) × Bool) :=
  (m_spec_l13Copy t0).bind fun x25 =>
  m_spec_WrittenAt_l2  (((t1.length : Int) - (0 : Int)).toNat + 1) t1 t2 (0 : Int) x25
def m_spec_WrittenAt_l1 : Nat → (List S_impl_Version) → (List S_impl_Write) → Int → Int → Option ((List S_impl_Version) × Bool)
  | 0, _, _, _, _ => none
  | n1 + 1, t0, t1, t2, t8 =>
    bif decide (t8 < (5 : Int)) then ((m_spec_LastTurn t0 t8).bind fun x20 =>
    bif decide (x20 ≥ t2) then (some (([] : (List S_impl_Version)), false))
    else ((ckI (t8 + (1 : Int))).bind fun x23 =>
    (m_spec_WrittenAt_l1  n1) t0 t1 t2 x23))
    else (m_spec_WrittenAt_j2  t0 t1 t2)
def m_spec_WrittenAt_j1 (t0 : (List S_impl_Version)) (t1 : (List S_impl_Write)) (t2 : Int) (t23 : Bool) : Option ((List S_impl_Version) × Bool) :=
  bif t23 then (some (([] : (List S_impl_Version)), false))
  else (m_spec_WrittenAt_l1  (((5 : Int) - (0 : Int)).toNat + 1) t0 t1 t2 (0 : Int))
def m_spec_WrittenAt (a0 : (List S_impl_Version)) (a1 : (List S_impl_Write)) (a2 : Int) : Option ((List S_impl_Version) × Bool) :=
  (m_spec_VersionsOk a0).bind fun x4 =>
  bif (!x4) then (m_spec_WrittenAt_j1  a0 a1 a2 true)
  else ((m_spec_WritesOk a1).bind fun x6 =>
    bif (!x6) then (m_spec_WrittenAt_j1  a0 a1 a2 true)
    else ((m_spec_l1In a2 (1 : Int) (40 : Int)).bind fun x8 =>
      m_spec_WrittenAt_j1  a0 a1 a2 (!x8)))
theorem c_spec_WrittenAt (a0 : (List S_impl_Version)) (a1 : (List S_impl_Write)) (a2 : Int) (r : ((List S_impl_Version) × Bool)) (h : m_spec_WrittenAt a0 a1 a2 = some r) : Ret Try.prog f_spec_WrittenAt [e_Limpl_Version a0, e_Limpl_Write a1, e_int a2] (.tup [.nw 4 (r.1.map e_impl_Version) false, e_bool r.2]) := by
  refine Does.goG [] F_spec_WrittenAt rfl e_spec_WrittenAt n_spec_WrittenAt rfl (rvs := [.tmp 6, .tmp 7]) rfl rfl ?_
  intro w0 ok0 lent ρ0
  refine LWP.seq_k fun N1 hN1 => ?_
  refine LWP.region (l := [_,_]) ?_
  refine LWo.assign _ rfl (hn := ?_)
  refine LWo.ownNil 6 1006 4 rfl rfl rfl ?_
  refine LWo.known 6 (.own 1006 0 ([] : (List S_impl_Version)).length) rfl ?_
  refine LWo.assign (e_bool false) rfl (hn := ?_)
  refine LWo.nil (hN1 _ ?_)
  refine LWP.seq_k fun N2 hN2 => ?_
  refine LWP.join (α := (List S_impl_Version) × (List S_impl_Write) × Int × Bool) (fun z : (List S_impl_Version) × (List S_impl_Write) × Int × Bool => [(0, (e_Limpl_Version z.1)), (1, (e_Limpl_Write z.2.1)), (2, (e_int z.2.2.1)), (23, (e_bool z.2.2.2))]) (fun z : (List S_impl_Version) × (List S_impl_Write) × Int × Bool => []) (fun z : (List S_impl_Version) × (List S_impl_Write) × Int × Bool => m_spec_WrittenAt_j1  z.1 z.2.1 z.2.2.1 z.2.2.2) r (fun _ => by simp [hkeys]) ?_ ?_
  ·rintro ⟨t0, t1, t2, t23⟩ h
   replace h : m_spec_WrittenAt_j1  t0 t1 t2 t23 = some _ := h
   refine LWP.cond_split rfl (fun h9 => ?_) (fun h9 => ?_)
   ·have h := bT h9 h
    refine LWP.seq_k fun N10 hN10 => ?_
    refine LWP.region (l := [_,_,_]) ?_
    refine LWo.lit0 1024 u_Limpl_Version s_impl_Version z_impl_Version (hn := ?_)
    refine LWo.known 24 (.own 1024 0 ([] : (List S_impl_Version)).length) rfl ?_
    refine LWo.assign (.own 1024 0 (([] : (List S_impl_Version))).length) rfl (hn := ?_)
    refine LWo.assign (e_bool false) rfl (hn := ?_)
    refine LWo.nil (hN10 _ ?_)
    obtain rfl := Option.some.inj h
    refine LWP.ret (QG.mk (.inr rfl) (.cons (.tmp (x := (.own 1024 0 (([] : (List S_impl_Version))).length)) rfl) (.cons (.tmp (x := (e_bool false)) rfl) (.nil))) (RetOK.many0 (.cons (.nwM rfl rfl) (.cons (.pure rfl) (.nil))) (by simp) (by decide)) rfl rfl)
   ·have h := bF h9 h
    refine LWP.skip (hN2 _ ?_)
    refine LWP.join (α := (List S_impl_Version) × (List S_impl_Write) × Int) (fun z : (List S_impl_Version) × (List S_impl_Write) × Int => [(0, (e_Limpl_Version z.1)), (1, (e_Limpl_Write z.2.1)), (2, (e_int z.2.2))]) (fun z : (List S_impl_Version) × (List S_impl_Write) × Int => []) (fun z : (List S_impl_Version) × (List S_impl_Write) × Int => m_spec_WrittenAt_j2  z.1 z.2.1 z.2.2) r (fun _ => by simp [hkeys]) ?_ ?_
    ·rintro ⟨t0, t1, t2⟩ h
     replace h : m_spec_WrittenAt_j2  t0 t1 t2 = some _ := h
     refine LWP.seq_k fun N24 hN24 => ?_
     refine LWP.region (l := [_,_,_]) ?_
     refine LWo.move (e_Limpl_Version t0) rfl (hn := ?_)
     refine bk h fun x25 e25 h => ?_
     refine LWo.ncall (e := e_impl_Version) 1036 rfl rfl (c_spec_l13Copy _ _ e25) (.same (.nil)) rfl (hn := ?_)
     refine LWo.assign (.own 1036 0 (x25).length) rfl (hn := ?_)
     refine LWo.nil (hN24 _ ?_)
     refine LWP.join (α := (List S_impl_Version)) (fun z : (List S_impl_Version) => [(9, (.own 1036 0 (z).length))]) (fun z : (List S_impl_Version) => [(1036, (lob 4 e_impl_Version z))]) (fun z : (List S_impl_Version) => m_spec_WrittenAt_j3  z) r (fun _ => by simp [hkeys]) ?_ ?_
     ·rintro o1036 h
      replace h : m_spec_WrittenAt_j3  o1036 = some _ := h
      refine LWP.seq_k fun N37 hN37 => ?_
      refine LWP.seq_k fun N38 hN38 => ?_
      refine LWP.region (l := [_,_,_]) ?_
      refine LWo.move (.own 1036 0 (o1036).length) rfl (hn := ?_)
      refine LWo.lenO u_Limpl_Version rfl (hn := ?_)
      refine LWo.int _ rfl rfl rfl (hn := ?_)
      refine LWo.nil (hN38 _ ?_)
      refine LWP.cond_split rfl (fun h39 => ?_) (fun h39 => ?_)
      ·have h := bT h39 h
       refine LWP.seq_k fun N40 hN40 => ?_
       refine LWP.region (l := [_,_,_]) ?_
       refine LWo.lit0 1053 u_Limpl_Version s_impl_Version z_impl_Version (hn := ?_)
       refine LWo.known 53 (.own 1053 0 ([] : (List S_impl_Version)).length) rfl ?_
       refine LWo.assign (.own 1053 0 (([] : (List S_impl_Version))).length) rfl (hn := ?_)
       refine LWo.assign (e_bool false) rfl (hn := ?_)
       refine LWo.nil (hN40 _ ?_)
       obtain rfl := Option.some.inj h
       refine LWP.ret (QG.mk (.inr rfl) (.cons (.tmp (x := (.own 1053 0 (([] : (List S_impl_Version))).length)) rfl) (.cons (.tmp (x := (e_bool false)) rfl) (.nil))) (RetOK.many0 (.cons (.nwM rfl rfl) (.cons (.pure rfl) (.nil))) (by simp) (by decide)) rfl rfl)
      ·have h := bF h39 h
       refine LWP.skip (hN37 _ ?_)
       refine LWP.seq_k fun N41 hN41 => ?_
       refine LWP.region (l := [_,_,_]) ?_
       refine LWo.move (.own 1036 0 (o1036).length) rfl (hn := ?_)
       refine LWo.assign (.own 1036 0 (o1036).length) rfl (hn := ?_)
       refine LWo.assign (e_bool true) rfl (hn := ?_)
       refine LWo.nil (hN41 _ ?_)
       obtain rfl := Option.some.inj h
       refine LWP.ret (QG.mk (.inr rfl) (.cons (.tmp (x := (.own 1036 0 (o1036).length)) rfl) (.cons (.tmp (x := (e_bool true)) rfl) (.nil))) (RetOK.many0 (.cons (.nwM rfl rfl) (.cons (.pure rfl) (.nil))) (by simp) (by decide)) rfl rfl)
     ·intro N26 hN26
      refine LWP.seq_k fun N27 hN27 => ?_
      refine LWP.region (l := [_]) ?_
      refine LWo.assign (e_int (0 : Int)) rfl (hn := ?_)
      refine LWo.nil (hN27 _ ?_)
      refine LWP.block ?_
      refine LWP.loopM (α := (List S_impl_Write) × Int × Int × (List S_impl_Version)) (fun z : (List S_impl_Write) × Int × Int × (List S_impl_Version) => [(1, (e_Limpl_Write z.1)), (2, (e_int z.2.1)), (9, (.own 1036 0 (z.2.2.2).length)), (10, (e_int z.2.2.1))]) (fun z : (List S_impl_Write) × Int × Int × (List S_impl_Version) => [(1036, (lob 4 e_impl_Version z.2.2.2))]) (fun n2 (z : (List S_impl_Write) × Int × Int × (List S_impl_Version)) => m_spec_WrittenAt_l2  n2 z.1 z.2.1 z.2.2.1 z.2.2.2) r _ (t1, t2, (0 : Int), x25) h (fun _ => rfl) (fun _ => by simp [hkeys]) ⟨rfl, rfl, rfl, rfl, trivial⟩ ⟨rfl, trivial⟩ ?_
      rintro n2 ⟨t1, t2, t10, o1036⟩ h N28 hN28
      replace h : m_spec_WrittenAt_l2  (n2 + 1) t1 t2 t10 o1036 = some _ := h
      refine LWP.seq_k fun N30 hN30 => ?_
      refine LWP.seq_k fun N31 hN31 => ?_
      refine LWP.region (l := [_,_,_,_]) ?_
      refine LWo.move (e_int t10) rfl (hn := ?_)
      refine LWo.move (e_Limpl_Write t1) rfl (hn := ?_)
      refine LWo.lenM (f := e_impl_Write) (l := t1) u_Limpl_Write rfl (hn := ?_)
      refine LWo.int _ rfl rfl rfl (hn := ?_)
      refine LWo.nil (hN31 _ ?_)
      refine LWP.cond_split rfl (fun h32 => ?_) (fun h32 => ?_)
      ·have h := bT h32 h
       refine LWP.skip (hN30 _ ?_)
       refine LWP.seq_k fun N33 hN33 => ?_
       refine LWP.block ?_
       refine LWP.region (l := [_,_,_,_,_,_,_,_]) ?_
       refine LWo.move (.own 1036 0 (o1036).length) rfl (hn := ?_)
       refine LWo.move (e_Limpl_Write t1) rfl (hn := ?_)
       refine LWo.move (e_int t10) rfl (hn := ?_)
       refine bk h fun x34 e34 h => ?_
       refine LWo.indexM (f := e_impl_Write) e34 u_Limpl_Write s_impl_Write rfl rfl (hn := ?_)
       refine LWo.loadN ((e_impl_Write x34)).cells g_impl_Write s_impl_Write rfl (Nat.le_of_ble_eq_true rfl) rfl (hn := ?_)
       refine LWo.move (e_int t2) rfl (hn := ?_)
       refine bk h fun x35 e35 h => ?_
       refine LWo.frzL (f := e_impl_Version) (l := o1036) [9, 43] 1036 rfl rfl ⟨rfl, rfl, trivial⟩ ?_
       refine LWo.ncall (e := e_impl_Version) 1049 rfl rfl (c_spec_l13Written _ _ _ _ e35) (.same (.same (.same (.nil)))) rfl (hn := ?_)
       refine LWo.assign (.own 1049 0 (x35).length) rfl (hn := ?_)
       refine LWo.nil (hN33 _ ?_)
       refine LWP.region (l := [_,_,_]) ?_
       refine LWo.move (e_int t10) rfl (hn := ?_)
       refine bk h fun x36 e36 h => ?_
       refine LWo.int _ rfl rfl (add_ck e36) (hn := ?_)
       refine LWo.assign (e_int x36) rfl (hn := ?_)
       refine LWo.rekey 9 1049 1036 rfl rfl rfl rfl rfl rfl ?_
       refine LWo.nil (hN28 (t1, t2, x36, x35) _ ⟨rfl, rfl, rfl, rfl, trivial⟩ ⟨rfl, trivial⟩ h)
      ·have h := bF h32 h
       refine LWP.exit (hN26 o1036 _ ⟨rfl, trivial⟩ ⟨rfl, trivial⟩ h)
    ·intro N11 hN11
     refine LWP.seq_k fun N12 hN12 => ?_
     refine LWP.region (l := [_]) ?_
     refine LWo.assign (e_int (0 : Int)) rfl (hn := ?_)
     refine LWo.nil (hN12 _ ?_)
     refine LWP.block ?_
     refine LWP.loopM (α := (List S_impl_Version) × (List S_impl_Write) × Int × Int) (fun z : (List S_impl_Version) × (List S_impl_Write) × Int × Int => [(0, (e_Limpl_Version z.1)), (1, (e_Limpl_Write z.2.1)), (2, (e_int z.2.2.1)), (8, (e_int z.2.2.2))]) (fun z : (List S_impl_Version) × (List S_impl_Write) × Int × Int => []) (fun n1 (z : (List S_impl_Version) × (List S_impl_Write) × Int × Int) => m_spec_WrittenAt_l1  n1 z.1 z.2.1 z.2.2.1 z.2.2.2) r _ (t0, t1, t2, (0 : Int)) h (fun _ => rfl) (fun _ => by simp [hkeys]) ⟨rfl, rfl, rfl, rfl, trivial⟩ trivial ?_
     rintro n1 ⟨t0, t1, t2, t8⟩ h N13 hN13
     replace h : m_spec_WrittenAt_l1  (n1 + 1) t0 t1 t2 t8 = some _ := h
     refine LWP.seq_k fun N15 hN15 => ?_
     refine LWP.seq_k fun N16 hN16 => ?_
     refine LWP.region (l := [_,_]) ?_
     refine LWo.move (e_int t8) rfl (hn := ?_)
     refine LWo.int _ rfl rfl rfl (hn := ?_)
     refine LWo.nil (hN16 _ ?_)
     refine LWP.cond_split rfl (fun h17 => ?_) (fun h17 => ?_)
     ·have h := bT h17 h
      refine LWP.skip (hN15 _ ?_)
      refine LWP.seq_k fun N18 hN18 => ?_
      refine LWP.block ?_
      refine LWP.seq_k fun N19 hN19 => ?_
      refine LWP.region (l := [_,_,_,_,_]) ?_
      refine LWo.move (e_Limpl_Version t0) rfl (hn := ?_)
      refine LWo.move (e_int t8) rfl (hn := ?_)
      refine bk h fun x20 e20 h => ?_
      refine LWo.vcall rfl rfl (c_spec_LastTurn _ _ _ e20) (.same (.same (.nil))) (hn := ?_)
      refine LWo.move (e_int t2) rfl (hn := ?_)
      refine LWo.int _ rfl rfl rfl (hn := ?_)
      refine LWo.nil (hN19 _ ?_)
      refine LWP.cond_split rfl (fun h21 => ?_) (fun h21 => ?_)
      ·have h := bT h21 h
       refine LWP.seq_k fun N22 hN22 => ?_
       refine LWP.region (l := [_,_,_]) ?_
       refine LWo.lit0 1034 u_Limpl_Version s_impl_Version z_impl_Version (hn := ?_)
       refine LWo.known 34 (.own 1034 0 ([] : (List S_impl_Version)).length) rfl ?_
       refine LWo.assign (.own 1034 0 (([] : (List S_impl_Version))).length) rfl (hn := ?_)
       refine LWo.assign (e_bool false) rfl (hn := ?_)
       refine LWo.nil (hN22 _ ?_)
       obtain rfl := Option.some.inj h
       refine LWP.ret (QG.mk (.inr rfl) (.cons (.tmp (x := (.own 1034 0 (([] : (List S_impl_Version))).length)) rfl) (.cons (.tmp (x := (e_bool false)) rfl) (.nil))) (RetOK.many0 (.cons (.nwM rfl rfl) (.cons (.pure rfl) (.nil))) (by simp) (by decide)) rfl rfl)
      ·have h := bF h21 h
       refine LWP.skip (hN18 _ ?_)
       refine LWP.region (l := [_,_,_]) ?_
       refine LWo.move (e_int t8) rfl (hn := ?_)
       refine bk h fun x23 e23 h => ?_
       refine LWo.int _ rfl rfl (add_ck e23) (hn := ?_)
       refine LWo.assign (e_int x23) rfl (hn := ?_)
       refine LWo.nil (hN13 (t0, t1, t2, x23) _ ⟨rfl, rfl, rfl, rfl, trivial⟩ trivial h)
     ·have h := bF h17 h
      refine LWP.exit (hN11 (t0, t1, t2) _ ⟨rfl, rfl, rfl, trivial⟩ trivial h)
  ·intro N3 hN3
   refine LWP.region (l := [_,_,_,_,_,_,_,_,_,_,_,_,_]) ?_
   refine LWo.move (e_Limpl_Version a0) rfl (hn := ?_)
   refine bk h fun x4 e4 h => ?_
   refine LWo.vcall rfl rfl (c_spec_VersionsOk _ _ e4) (.same (.nil)) (hn := ?_)
   refine LWo.not rfl (hn := ?_)
   refine LWo.move (e_bool (!x4)) rfl (hn := ?_)
   refine LWo.byCases (t := 14) _ rfl (fun h5 => ?_) (fun h5 => ?_)
   ·have h := bT h5 h
    refine LWo.guardNU (t := 14) rfl h5 rfl rfl rfl rfl rfl ?_
    refine LWo.guardNU (t := 14) rfl h5 rfl rfl rfl rfl rfl ?_
    refine LWo.guardNU (t := 14) rfl h5 rfl rfl rfl rfl rfl ?_
    refine LWo.pickTM (e_bool true) rfl h5 rfl (hn := ?_)
    refine LWo.move (e_bool true) rfl (hn := ?_)
    refine LWo.guardNU (t := 19) rfl rfl rfl rfl rfl rfl rfl ?_
    refine LWo.guardNU (t := 19) rfl rfl rfl rfl rfl rfl rfl ?_
    refine LWo.guardNU (t := 19) rfl rfl rfl rfl rfl rfl rfl ?_
    refine LWo.pickTM (e_bool true) rfl rfl rfl (hn := ?_)
    refine LWo.nil (hN3 (a0, a1, a2, true) _ ⟨rfl, rfl, rfl, rfl, trivial⟩ trivial h)
   ·have h := bF h5 h
    refine LWo.guardY (t := 14) rfl h5 rfl rfl ?_
    refine LWo.move (e_Limpl_Write a1) rfl (hn := ?_)
    refine bk h fun x6 e6 h => ?_
    refine LWo.guardY (t := 14) rfl h5 rfl rfl ?_
    refine LWo.vcall rfl rfl (c_spec_WritesOk _ _ e6) (.same (.nil)) (hn := ?_)
    refine LWo.guardY (t := 14) rfl h5 rfl rfl ?_
    refine LWo.not rfl (hn := ?_)
    refine LWo.pickFM (e_bool (!x6)) rfl h5 rfl (hn := ?_)
    refine LWo.move (e_bool (!x6)) rfl (hn := ?_)
    refine LWo.byCases (t := 19) _ rfl (fun h7 => ?_) (fun h7 => ?_)
    ·have h := bT h7 h
     refine LWo.guardNU (t := 19) rfl h7 rfl rfl rfl rfl rfl ?_
     refine LWo.guardNU (t := 19) rfl h7 rfl rfl rfl rfl rfl ?_
     refine LWo.guardNU (t := 19) rfl h7 rfl rfl rfl rfl rfl ?_
     refine LWo.pickTM (e_bool true) rfl h7 rfl (hn := ?_)
     refine LWo.nil (hN3 (a0, a1, a2, true) _ ⟨rfl, rfl, rfl, rfl, trivial⟩ trivial h)
    ·have h := bF h7 h
     refine LWo.guardY (t := 19) rfl h7 rfl rfl ?_
     refine LWo.move (e_int a2) rfl (hn := ?_)
     refine bk h fun x8 e8 h => ?_
     refine LWo.guardY (t := 19) rfl h7 rfl rfl ?_
     refine LWo.vcall rfl rfl (c_spec_l1In _ _ _ _ e8) (.same (.same (.same (.nil)))) (hn := ?_)
     refine LWo.guardY (t := 19) rfl h7 rfl rfl ?_
     refine LWo.not rfl (hn := ?_)
     refine LWo.pickFM (e_bool (!x8)) rfl h7 rfl (hn := ?_)
     refine LWo.nil (hN3 (a0, a1, a2, (!x8)) _ ⟨rfl, rfl, rfl, rfl, trivial⟩ trivial h)

def m_spec_l20Versions_j4 (t7 : Int) (o0 : S_spec_l20Rd) (o1012 : (List S_impl_Version)) : Option ((List S_impl_Version) × Int × S_spec_l20Rd) :=
  some (o1012, t7, o0)
def m_spec_l20Versions_j3 (t7 : Int) (t41 : Bool) (o0 : S_spec_l20Rd) (o1012 : (List S_impl_Version)) : Option ((List S_impl_Version) × Int × S_spec_l20Rd) :=
  bif t41 then ((m_Pspec_l20Rd_pick o0 (o1012.length : Int)).bind fun x30 =>
    (m_Pspec_l20Rd_pick x30.2 (4 : Int)).bind fun x32 =>
    bif (x32.1 == (0 : Int)) then ((m_Pspec_l20Rd_pick x32.2 (9 : Int)).bind fun x35 =>
      (ckI (x35.1 - (1 : Int))).bind fun x36 =>
      (at? o1012 x30.1).bind fun x37 =>
      (at? o1012 x30.1).bind fun x38 =>
      lt ({ x38 with Died := x36 }) fun y39 =>
      m_spec_l20Versions_j4  t7 x35.2 (o1012.set (x30.1).toNat y39))
    else (bif (x32.1 == (1 : Int)) then ((m_Pspec_l20Rd_pick x32.2 (8 : Int)).bind fun x42 =>
        (ckI (x42.1 - (1 : Int))).bind fun x43 =>
        (at? o1012 x30.1).bind fun x44 =>
        (at? o1012 x30.1).bind fun x45 =>
        lt ({ x45 with Key := x43 }) fun y46 =>
        m_spec_l20Versions_j4  t7 x42.2 (o1012.set (x30.1).toNat y46))
      else (bif (x32.1 == (2 : Int)) then ((m_Pspec_l20Rd_pick x32.2 (50 : Int)).bind fun x49 =>
          (ckI (x49.1 - (1 : Int))).bind fun x50 =>
          (at? o1012 x30.1).bind fun x51 =>
          (at? o1012 x30.1).bind fun x52 =>
          lt ({ x52 with Born := x50 }) fun y53 =>
          m_spec_l20Versions_j4  t7 x49.2 (o1012.set (x30.1).toNat y53))
        else ((at? o1012 x30.1).bind fun x54 =>
          (at? o1012 x30.1).bind fun x55 =>
          (app? o1012 ([x55] : (List S_impl_Version))).bind fun x56 =>
          m_spec_l20Versions_j4  t7 x32.2 x56))))
  else (m_spec_l20Versions_j4  t7 o0 o1012)
def m_spec_l20Versions_j2 (t1 : Int) (t7 : Int) (o0 : S_spec_l20Rd) (o1012 : (List S_impl_Version)) : Option ((List S_impl_Version) × Int × S_spec_l20Rd) :=
  bif decide ((o1012.length : Int) > (0 : Int)) then ((m_Pspec_l20Rd_odd o0 t1).bind fun x27 =>
    m_spec_l20Versions_j3  t7 x27.1 x27.2 o1012)
  else (m_spec_l20Versions_j3  t7 false o0 o1012)
def m_spec_l20Versions_j1 (k1 : Int → Int → Int → S_spec_l20Rd → (List S_impl_Version) → Option ((List S_impl_Version) × Int × S_spec_l20Rd)) (t1 : Int) (t7 : Int) (t8 : Int) (o0 : S_spec_l20Rd) (o1024 : (List S_impl_Version)) : Option ((List S_impl_Version) × Int × S_spec_l20Rd) :=
  (ckI (t7 + (1 : Int))).bind fun x20 =>
  (m_Pspec_l20Rd_pick o0 (2 : Int)).bind fun x21 =>
  (ckI (x20 + x21.1)).bind fun x22 =>
  (ckI (t8 - (1 : Int))).bind fun x23 =>
  k1 t1 x22 x23 x21.2 o1024
def m_spec_l20Versions_l1 : Nat → Int → Int → Int → S_spec_l20Rd → (List S_impl_Version) → Option ((List S_impl_Version) × Int × S_spec_l20Rd)
  | 0, _, _, _, _, _ => none
  | n1 + 1, t1, t7, t8, o0, o1012 =>
    bif decide (t8 > (0 : Int)) then ((m_spec_l20Writes o0 (0 : Int)).bind fun x15 =>
    (m_spec_WrittenAt o1012 x15.1 t7).bind fun x16 =>
    bif x16.2 then (m_spec_l20Versions_j1  (m_spec_l20Versions_l1  n1) t1 t7 t8 x15.2 x16.1)
    else (m_spec_l20Versions_j1  (m_spec_l20Versions_l1  n1) t1 t7 t8 x15.2 o1012))
    else (m_spec_l20Versions_j2  t1 t7 o0 o1012)
def m_spec_l20Versions (o0 : S_spec_l20Rd) (a1 : Int) : Option ((List S_impl_Version) × Int × S_spec_l20Rd) :=
  (m_Pspec_l20Rd_pick o0 (7 : Int)).bind fun x6 =>
  m_spec_l20Versions_l1  ((x6.1 - (0 : Int)).toNat + 1) a1 (1 : Int) x6.1 x6.2 ([] : (List S_impl_Version))
theorem c_spec_l20Versions (o0 : S_spec_l20Rd) (a1 : Int) (r : ((List S_impl_Version) × Int × S_spec_l20Rd)) (h : m_spec_l20Versions o0 a1 = some r) : Does Try.prog f_spec_l20Versions [.ptr 0 0 0, e_int a1] [(0, (vob 2 e_spec_l20Rd o0))] (fun x hh => x = .tup [.nw 4 (r.1.map e_impl_Version) false, e_int r.2.1] ∧ hh = [(0, (vob 2 e_spec_l20Rd r.2.2))]) := by
  refine Does.goG [0] F_spec_l20Versions rfl e_spec_l20Versions n_spec_l20Versions rfl (rvs := [.tmp 4, .tmp 5]) rfl rfl ?_
  intro w0 ok0 lent ρ0
  refine LWP.seq_k fun N1 hN1 => ?_
  refine LWP.region (l := [_,_]) ?_
  refine LWo.assign _ rfl (hn := ?_)
  refine LWo.ownNil 4 1004 4 rfl rfl rfl ?_
  refine LWo.known 4 (.own 1004 0 ([] : (List S_impl_Version)).length) rfl ?_
  refine LWo.assign (e_int (0 : Int)) rfl (hn := ?_)
  refine LWo.nil (hN1 _ ?_)
  refine LWP.seq_k fun N2 hN2 => ?_
  refine LWP.region (l := [_,_]) ?_
  refine LWo.lit0 1012 u_Limpl_Version s_impl_Version z_impl_Version (hn := ?_)
  refine LWo.known 12 (.own 1012 0 ([] : (List S_impl_Version)).length) rfl ?_
  refine LWo.assign (.own 1012 0 (([] : (List S_impl_Version))).length) rfl (hn := ?_)
  refine LWo.nil (hN2 _ ?_)
  refine LWP.seq_k fun N3 hN3 => ?_
  refine LWP.region (l := [_]) ?_
  refine LWo.assign (e_int (1 : Int)) rfl (hn := ?_)
  refine LWo.nil (hN3 _ ?_)
  refine LWP.join (α := Int × Int × S_spec_l20Rd × (List S_impl_Version)) (fun z : Int × Int × S_spec_l20Rd × (List S_impl_Version) => [(0, (.ptr 0 0 0)), (1, (e_int z.1)), (6, (.own 1012 0 (z.2.2.2).length)), (7, (e_int z.2.1))]) (fun z : Int × Int × S_spec_l20Rd × (List S_impl_Version) => [(0, (vob 2 e_spec_l20Rd z.2.2.1)), (1012, (lob 4 e_impl_Version z.2.2.2))]) (fun z : Int × Int × S_spec_l20Rd × (List S_impl_Version) => m_spec_l20Versions_j2  z.1 z.2.1 z.2.2.1 z.2.2.2) r (fun _ => by simp [hkeys]) ?_ ?_
  ·rintro ⟨t1, t7, o0, o1012⟩ h
   replace h : m_spec_l20Versions_j2  t1 t7 o0 o1012 = some _ := h
   refine LWP.join (α := Int × S_spec_l20Rd × (List S_impl_Version)) (fun z : Int × S_spec_l20Rd × (List S_impl_Version) => [(6, (.own 1012 0 (z.2.2).length)), (7, (e_int z.1))]) (fun z : Int × S_spec_l20Rd × (List S_impl_Version) => [(0, (vob 2 e_spec_l20Rd z.2.1)), (1012, (lob 4 e_impl_Version z.2.2))]) (fun z : Int × S_spec_l20Rd × (List S_impl_Version) => m_spec_l20Versions_j4  z.1 z.2.1 z.2.2) r (fun _ => by simp [hkeys]) ?_ ?_
   ·rintro ⟨t7, o0, o1012⟩ h
    replace h : m_spec_l20Versions_j4  t7 o0 o1012 = some _ := h
    refine LWP.seq_k fun N57 hN57 => ?_
    refine LWP.region (l := [_,_,_,_]) ?_
    refine LWo.move (.own 1012 0 (o1012).length) rfl (hn := ?_)
    refine LWo.move (e_int t7) rfl (hn := ?_)
    refine LWo.assign (.own 1012 0 (o1012).length) rfl (hn := ?_)
    refine LWo.assign (e_int t7) rfl (hn := ?_)
    refine LWo.nil (hN57 _ ?_)
    obtain rfl := Option.some.inj h
    refine LWP.ret (QG.mk (.inr rfl) (.cons (.tmp (x := (.own 1012 0 (o1012).length)) rfl) (.cons (.tmp (x := (e_int t7)) rfl) (.nil))) (RetOK.many1 (.cons (.nwM rfl rfl) (.cons (.pure rfl) (.nil))) (by simp) (by decide) rfl rfl rfl rfl rfl) rfl rfl)
   ·intro N24 hN24
    refine LWP.join (α := Int × Bool × S_spec_l20Rd × (List S_impl_Version)) (fun z : Int × Bool × S_spec_l20Rd × (List S_impl_Version) => [(0, (.ptr 0 0 0)), (6, (.own 1012 0 (z.2.2.2).length)), (7, (e_int z.1)), (41, (e_bool z.2.1))]) (fun z : Int × Bool × S_spec_l20Rd × (List S_impl_Version) => [(0, (vob 2 e_spec_l20Rd z.2.2.1)), (1012, (lob 4 e_impl_Version z.2.2.2))]) (fun z : Int × Bool × S_spec_l20Rd × (List S_impl_Version) => m_spec_l20Versions_j3  z.1 z.2.1 z.2.2.1 z.2.2.2) r (fun _ => by simp [hkeys]) ?_ ?_
    ·rintro ⟨t7, t41, o0, o1012⟩ h
     replace h : m_spec_l20Versions_j3  t7 t41 o0 o1012 = some _ := h
     refine LWP.cond_split rfl (fun h28 => ?_) (fun h28 => ?_)
     ·have h := bT h28 h
      refine LWP.seq_k fun N29 hN29 => ?_
      refine LWP.region (l := [_,_,_,_,_]) ?_
      refine LWo.move (.ptr 0 0 0) rfl (hn := ?_)
      refine LWo.move (.own 1012 0 (o1012).length) rfl (hn := ?_)
      refine LWo.lenO u_Limpl_Version rfl (hn := ?_)
      refine bk h fun x30 e30 h => ?_
      refine LWo.lcall rfl rfl (k_Pspec_l20Rd_pick _ _ _ e30 0) rfl rfl rfl (hn := ?_)
      refine LWo.assign (e_int x30.1) rfl (hn := ?_)
      refine LWo.nil (hN29 _ ?_)
      refine LWP.seq_k fun N31 hN31 => ?_
      refine LWP.region (l := [_,_]) ?_
      refine LWo.move (.ptr 0 0 0) rfl (hn := ?_)
      refine bk h fun x32 e32 h => ?_
      refine LWo.lcall rfl rfl (k_Pspec_l20Rd_pick _ _ _ e32 0) rfl rfl rfl (hn := ?_)
      refine LWo.nil (hN31 _ ?_)
      refine LWP.block ?_
      refine LWP.seq_k fun N33 hN33 => ?_
      refine LWP.region (l := [_,_]) ?_
      refine LWo.int _ rfl rfl rfl (hn := ?_)
      refine LWo.assign (e_bool (x32.1 == (0 : Int))) rfl (hn := ?_)
      refine LWo.nil (hN33 _ ?_)
      refine LWP.cond_split rfl (fun h34 => ?_) (fun h34 => ?_)
      ·have h := bT h34 h
       refine LWP.region (l := [_,_,_,_,_,_,_,_]) ?_
       refine LWo.move (.own 1012 0 (o1012).length) rfl (hn := ?_)
       refine LWo.move (e_int x30.1) rfl (hn := ?_)
       refine LWo.move (.ptr 0 0 0) rfl (hn := ?_)
       refine bk h fun x35 e35 h => ?_
       refine LWo.lcall rfl rfl (k_Pspec_l20Rd_pick _ _ _ e35 0) rfl rfl rfl (hn := ?_)
       refine bk h fun x36 e36 h => ?_
       refine LWo.int _ rfl rfl (sub_ck e36) (hn := ?_)
       refine bk h fun x37 e37 h => ?_
       refine LWo.indexO e37 rfl u_Limpl_Version s_impl_Version rfl rfl rfl (hn := ?_)
       refine LWo.fieldPtr u_impl_Version rfl s_int rfl rfl (hn := ?_)
       refine bk h fun x38 e38 h => ?_
       refine lk h fun y39 e39 h => ?_
       refine LWo.storeO y39 e38 s_int rfl rfl rfl rfl rfl rfl rfl (by rw [e39]; rfl) (hn := ?_)
       refine LWo.nil (hN24 (t7, x35.2, (o1012.set (x30.1).toNat y39)) _ ⟨(congrArg (LV.own 1012 0) List.length_set.symm), rfl, trivial⟩ ⟨rfl, rfl, trivial⟩ h)
      ·have h := bF h34 h
       refine LWP.seq_k fun N40 hN40 => ?_
       refine LWP.region (l := [_,_]) ?_
       refine LWo.int _ rfl rfl rfl (hn := ?_)
       refine LWo.assign (e_bool (x32.1 == (1 : Int))) rfl (hn := ?_)
       refine LWo.nil (hN40 _ ?_)
       refine LWP.cond_split rfl (fun h41 => ?_) (fun h41 => ?_)
       ·have h := bT h41 h
        refine LWP.region (l := [_,_,_,_,_,_,_,_]) ?_
        refine LWo.move (.own 1012 0 (o1012).length) rfl (hn := ?_)
        refine LWo.move (e_int x30.1) rfl (hn := ?_)
        refine LWo.move (.ptr 0 0 0) rfl (hn := ?_)
        refine bk h fun x42 e42 h => ?_
        refine LWo.lcall rfl rfl (k_Pspec_l20Rd_pick _ _ _ e42 0) rfl rfl rfl (hn := ?_)
        refine bk h fun x43 e43 h => ?_
        refine LWo.int _ rfl rfl (sub_ck e43) (hn := ?_)
        refine bk h fun x44 e44 h => ?_
        refine LWo.indexO e44 rfl u_Limpl_Version s_impl_Version rfl rfl rfl (hn := ?_)
        refine LWo.fieldPtr u_impl_Version rfl s_int rfl rfl (hn := ?_)
        refine bk h fun x45 e45 h => ?_
        refine lk h fun y46 e46 h => ?_
        refine LWo.storeO y46 e45 s_int rfl rfl rfl rfl rfl rfl rfl (by rw [e46]; rfl) (hn := ?_)
        refine LWo.nil (hN24 (t7, x42.2, (o1012.set (x30.1).toNat y46)) _ ⟨(congrArg (LV.own 1012 0) List.length_set.symm), rfl, trivial⟩ ⟨rfl, rfl, trivial⟩ h)
       ·have h := bF h41 h
        refine LWP.seq_k fun N47 hN47 => ?_
        refine LWP.region (l := [_,_]) ?_
        refine LWo.int _ rfl rfl rfl (hn := ?_)
        refine LWo.assign (e_bool (x32.1 == (2 : Int))) rfl (hn := ?_)
        refine LWo.nil (hN47 _ ?_)
        refine LWP.cond_split rfl (fun h48 => ?_) (fun h48 => ?_)
        ·have h := bT h48 h
         refine LWP.region (l := [_,_,_,_,_,_,_,_]) ?_
         refine LWo.move (.own 1012 0 (o1012).length) rfl (hn := ?_)
         refine LWo.move (e_int x30.1) rfl (hn := ?_)
         refine LWo.move (.ptr 0 0 0) rfl (hn := ?_)
         refine bk h fun x49 e49 h => ?_
         refine LWo.lcall rfl rfl (k_Pspec_l20Rd_pick _ _ _ e49 0) rfl rfl rfl (hn := ?_)
         refine bk h fun x50 e50 h => ?_
         refine LWo.int _ rfl rfl (sub_ck e50) (hn := ?_)
         refine bk h fun x51 e51 h => ?_
         refine LWo.indexO e51 rfl u_Limpl_Version s_impl_Version rfl rfl rfl (hn := ?_)
         refine LWo.fieldPtr u_impl_Version rfl s_int rfl rfl (hn := ?_)
         refine bk h fun x52 e52 h => ?_
         refine lk h fun y53 e53 h => ?_
         refine LWo.storeO y53 e52 s_int rfl rfl rfl rfl rfl rfl rfl (by rw [e53]; rfl) (hn := ?_)
         refine LWo.nil (hN24 (t7, x49.2, (o1012.set (x30.1).toNat y53)) _ ⟨(congrArg (LV.own 1012 0) List.length_set.symm), rfl, trivial⟩ ⟨rfl, rfl, trivial⟩ h)
        ·have h := bF h48 h
         refine LWP.region (l := [_,_,_,_,_,_,_,_]) ?_
         refine LWo.move (.own 1012 0 (o1012).length) rfl (hn := ?_)
         refine LWo.move (.own 1012 0 (o1012).length) rfl (hn := ?_)
         refine LWo.move (e_int x30.1) rfl (hn := ?_)
         refine bk h fun x54 e54 h => ?_
         refine LWo.indexO e54 rfl u_Limpl_Version s_impl_Version rfl rfl rfl (hn := ?_)
         refine bk h fun x55 e55 h => ?_
         refine LWo.loadON ((e_impl_Version x55)).cells e55 g_impl_Version s_impl_Version rfl rfl rfl rfl (hn := ?_)
         refine LWo.lit (ops := [_]) [(e_impl_Version x55)] u_Limpl_Version s_impl_Version z_impl_Version rfl rfl rfl rfl rfl rfl (hn := ?_)
         refine bk h fun x56 e56 h => ?_
         refine LWo.appendM (f := e_impl_Version) e56 rfl u_Limpl_Version u_Limpl_Version (fun _ h => by cases h) s_impl_Version i_impl_Version rfl rfl rfl (.sl rfl) rfl rfl (hn := ?_)
         refine LWo.assign (.own 1012 0 (x56).length) rfl (hn := ?_)
         refine LWo.nil (hN24 (t7, x32.2, x56) _ ⟨rfl, rfl, trivial⟩ ⟨rfl, rfl, trivial⟩ h)
     ·have h := bF h28 h
      refine LWP.skip (hN24 (t7, o0, o1012) _ ⟨rfl, rfl, trivial⟩ ⟨rfl, rfl, trivial⟩ h)
    ·intro N25 hN25
     refine LWP.region (l := [_,_,_,_,_,_,_,_]) ?_
     refine LWo.move (.own 1012 0 (o1012).length) rfl (hn := ?_)
     refine LWo.lenO u_Limpl_Version rfl (hn := ?_)
     refine LWo.int _ rfl rfl rfl (hn := ?_)
     refine LWo.move (e_bool (decide ((o1012.length : Int) > (0 : Int)))) rfl (hn := ?_)
     refine LWo.byCases (t := 37) _ rfl (fun h26 => ?_) (fun h26 => ?_)
     ·have h := bT h26 h
      refine LWo.guardY (t := 37) rfl h26 rfl rfl ?_
      refine LWo.move (.ptr 0 0 0) rfl (hn := ?_)
      refine LWo.guardY (t := 37) rfl h26 rfl rfl ?_
      refine LWo.move (e_int t1) rfl (hn := ?_)
      refine bk h fun x27 e27 h => ?_
      refine LWo.guardY (t := 37) rfl h26 rfl rfl ?_
      refine LWo.lcall rfl rfl (k_Pspec_l20Rd_odd _ _ _ e27 0) rfl rfl rfl (hn := ?_)
      refine LWo.pickTM (e_bool x27.1) rfl h26 rfl (hn := ?_)
      refine LWo.nil (hN25 (t7, x27.1, x27.2, o1012) _ ⟨rfl, rfl, rfl, rfl, trivial⟩ ⟨rfl, rfl, trivial⟩ h)
     ·have h := bF h26 h
      refine LWo.guardNU (t := 37) rfl h26 rfl rfl rfl rfl rfl ?_
      refine LWo.guardNU (t := 37) rfl h26 rfl rfl rfl rfl rfl ?_
      refine LWo.guardNU (t := 37) rfl h26 rfl rfl rfl rfl rfl ?_
      refine LWo.pickFM (e_bool false) rfl h26 rfl (hn := ?_)
      refine LWo.nil (hN25 (t7, false, o0, o1012) _ ⟨rfl, rfl, rfl, rfl, trivial⟩ ⟨rfl, rfl, trivial⟩ h)
  ·intro N4 hN4
   refine LWP.seq_k fun N5 hN5 => ?_
   refine LWP.region (l := [_,_,_]) ?_
   refine LWo.move (.ptr 0 0 0) rfl (hn := ?_)
   refine bk h fun x6 e6 h => ?_
   refine LWo.lcall rfl rfl (k_Pspec_l20Rd_pick _ _ _ e6 0) rfl rfl rfl (hn := ?_)
   refine LWo.assign (e_int x6.1) rfl (hn := ?_)
   refine LWo.nil (hN5 _ ?_)
   refine LWP.block ?_
   refine LWP.loopM (α := Int × Int × Int × S_spec_l20Rd × (List S_impl_Version)) (fun z : Int × Int × Int × S_spec_l20Rd × (List S_impl_Version) => [(0, (.ptr 0 0 0)), (1, (e_int z.1)), (6, (.own 1012 0 (z.2.2.2.2).length)), (7, (e_int z.2.1)), (8, (e_int z.2.2.1))]) (fun z : Int × Int × Int × S_spec_l20Rd × (List S_impl_Version) => [(0, (vob 2 e_spec_l20Rd z.2.2.2.1)), (1012, (lob 4 e_impl_Version z.2.2.2.2))]) (fun n1 (z : Int × Int × Int × S_spec_l20Rd × (List S_impl_Version)) => m_spec_l20Versions_l1  n1 z.1 z.2.1 z.2.2.1 z.2.2.2.1 z.2.2.2.2) r _ (a1, (1 : Int), x6.1, x6.2, ([] : (List S_impl_Version))) h (fun _ => rfl) (fun _ => by simp [hkeys]) ⟨rfl, rfl, rfl, rfl, rfl, trivial⟩ ⟨rfl, rfl, trivial⟩ ?_
   rintro n1 ⟨t1, t7, t8, o0, o1012⟩ h N7 hN7
   replace h : m_spec_l20Versions_l1  (n1 + 1) t1 t7 t8 o0 o1012 = some _ := h
   refine LWP.seq_k fun N9 hN9 => ?_
   refine LWP.seq_k fun N10 hN10 => ?_
   refine LWP.region (l := [_,_]) ?_
   refine LWo.move (e_int t8) rfl (hn := ?_)
   refine LWo.int _ rfl rfl rfl (hn := ?_)
   refine LWo.nil (hN10 _ ?_)
   refine LWP.cond_split rfl (fun h11 => ?_) (fun h11 => ?_)
   ·have h := bT h11 h
    refine LWP.skip (hN9 _ ?_)
    refine LWP.seq_k fun N12 hN12 => ?_
    refine LWP.block ?_
    refine LWP.join (α := Int × Int × Int × S_spec_l20Rd × (List S_impl_Version)) (fun z : Int × Int × Int × S_spec_l20Rd × (List S_impl_Version) => [(0, (.ptr 0 0 0)), (1, (e_int z.1)), (6, (.own 1024 0 (z.2.2.2.2).length)), (7, (e_int z.2.1)), (8, (e_int z.2.2.1))]) (fun z : Int × Int × Int × S_spec_l20Rd × (List S_impl_Version) => [(0, (vob 2 e_spec_l20Rd z.2.2.2.1)), (1024, (lob 4 e_impl_Version z.2.2.2.2))]) (fun z : Int × Int × Int × S_spec_l20Rd × (List S_impl_Version) => m_spec_l20Versions_j1  (m_spec_l20Versions_l1  n1) z.1 z.2.1 z.2.2.1 z.2.2.2.1 z.2.2.2.2) r (fun _ => by simp [hkeys]) ?_ ?_
    ·rintro ⟨t1, t7, t8, o0, o1024⟩ h
     replace h : m_spec_l20Versions_j1  (m_spec_l20Versions_l1  n1) t1 t7 t8 o0 o1024 = some _ := h
     refine LWP.region (l := [_,_,_,_,_,_]) ?_
     refine LWo.move (e_int t7) rfl (hn := ?_)
     refine bk h fun x20 e20 h => ?_
     refine LWo.int _ rfl rfl (add_ck e20) (hn := ?_)
     refine LWo.move (.ptr 0 0 0) rfl (hn := ?_)
     refine bk h fun x21 e21 h => ?_
     refine LWo.lcall rfl rfl (k_Pspec_l20Rd_pick _ _ _ e21 0) rfl rfl rfl (hn := ?_)
     refine bk h fun x22 e22 h => ?_
     refine LWo.int _ rfl rfl (add_ck e22) (hn := ?_)
     refine LWo.assign (e_int x22) rfl (hn := ?_)
     refine LWo.nil (hN12 _ ?_)
     refine LWP.region (l := [_,_,_]) ?_
     refine LWo.move (e_int t8) rfl (hn := ?_)
     refine bk h fun x23 e23 h => ?_
     refine LWo.int _ rfl rfl (sub_ck e23) (hn := ?_)
     refine LWo.assign (e_int x23) rfl (hn := ?_)
     refine LWo.rekey 6 1024 1012 rfl rfl rfl rfl rfl rfl ?_
     refine LWo.nil (hN7 (t1, x22, x23, x21.2, o1024) _ ⟨rfl, rfl, rfl, rfl, rfl, trivial⟩ ⟨rfl, rfl, trivial⟩ h)
    ·intro N13 hN13
     refine LWP.seq_k fun N14 hN14 => ?_
     refine LWP.region (l := [_,_,_,_,_,_,_,_,_,_]) ?_
     refine LWo.move (.own 1012 0 (o1012).length) rfl (hn := ?_)
     refine LWo.move (.ptr 0 0 0) rfl (hn := ?_)
     refine bk h fun x15 e15 h => ?_
     refine LWo.lcall rfl rfl (k_spec_l20Writes _ _ _ e15 0) rfl rfl rfl (hn := ?_)
     refine LWo.move (e_int t7) rfl (hn := ?_)
     refine bk h fun x16 e16 h => ?_
     refine bS (x16.2) (fun h17 => ?_) (fun h17 => ?_)
     ·have h := bT h17 h
      refine LWo.frzL (f := e_impl_Version) (l := o1012) [6, 20] 1012 rfl rfl ⟨rfl, rfl, trivial⟩ ?_
      refine LWo.ntcall (e := e_impl_Version) (l := x16.1) 1024 rfl rfl (c_spec_WrittenAt _ _ _ _ e16) (.same (.same (.same (.nil)))) rfl (fun _ h => by cases h) rfl (hn := ?_)
      refine LWo.move (.tup [(.own 1024 0 (x16.1).length), (e_bool x16.2)]) rfl (hn := ?_)
      refine LWo.extract (.own 1024 0 (x16.1).length) rfl rfl (hn := ?_)
      refine LWo.extract (e_bool x16.2) rfl rfl (hn := ?_)
      refine LWo.assign (.own 1024 0 (x16.1).length) rfl (hn := ?_)
      refine LWo.assign (e_bool x16.2) rfl (hn := ?_)
      refine LWo.nil (hN14 _ ?_)
      refine LWP.seq_k fun N18 hN18 => ?_
      refine LWP.region (l := [_]) ?_
      refine LWo.move (e_bool x16.2) rfl (hn := ?_)
      refine LWo.nil (hN18 _ ?_)
      refine LWP.condT rfl h17 ?_
      refine LWP.region (l := [_,_]) ?_
      refine LWo.move (.own 1024 0 (x16.1).length) rfl (hn := ?_)
      refine LWo.assign (.own 1024 0 (x16.1).length) rfl (hn := ?_)
      refine LWo.nil (hN13 (t1, t7, t8, x15.2, x16.1) _ ⟨rfl, rfl, rfl, rfl, rfl, trivial⟩ ⟨rfl, rfl, trivial⟩ h)
     ·have h := bF h17 h
      refine LWo.dcall rfl rfl (c_spec_WrittenAt _ _ _ _ e16) (.viewM rfl rfl rfl (.same (.same (.nil)))) (hn := ?_)
      refine LWo.move (.tup [.junk, (e_bool x16.2)]) rfl (hn := ?_)
      refine LWo.extract .junk rfl rfl (hn := ?_)
      refine LWo.extract (e_bool x16.2) rfl rfl (hn := ?_)
      refine LWo.assign .junk rfl (hn := ?_)
      refine LWo.assign (e_bool x16.2) rfl (hn := ?_)
      refine LWo.nil (hN14 _ ?_)
      refine LWP.seq_k fun N19 hN19 => ?_
      refine LWP.region (l := [_]) ?_
      refine LWo.move (e_bool x16.2) rfl (hn := ?_)
      refine LWo.nil (hN19 _ ?_)
      refine LWP.condF rfl h17 ?_
      refine LWP.rekey 6 1012 1024 rfl rfl rfl rfl rfl rfl ?_
      refine LWP.skip (hN13 (t1, t7, t8, x15.2, o1012) _ ⟨rfl, rfl, rfl, rfl, rfl, trivial⟩ ⟨rfl, rfl, trivial⟩ h)
   ·have h := bF h11 h
    refine LWP.exit (hN4 (t1, t7, o0, o1012) _ ⟨rfl, rfl, rfl, rfl, trivial⟩ ⟨rfl, rfl, trivial⟩ h)
theorem k_spec_l20Versions (o0 : S_spec_l20Rd) (a1 : Int) (r : ((List S_impl_Version) × Int × S_spec_l20Rd)) (h : m_spec_l20Versions o0 a1 = some r) (k : Nat) : Does Try.prog f_spec_l20Versions [.ptr k 0 0, e_int a1] [(k, (vob 2 e_spec_l20Rd o0))] (fun x hh => x = .tup [.nw 4 (r.1.map e_impl_Version) false, e_int r.2.1] ∧ hh = [(k, (vob 2 e_spec_l20Rd r.2.2))]) :=
  Does.nameV (c_spec_l20Versions o0 a1 r h) rfl rfl rfl rfl rfl rfl k

def m_spec_DrawLater (a0 : (List UInt8)) : Option ((List S_impl_Version) × (List S_impl_Write) × Int × Int) :=
  (m_spec_l20Open a0).bind fun x3 =>
  (m_spec_l20Versions x3 (0 : Int)).bind fun x5 =>
  (m_spec_l20Writes x5.2.2 (0 : Int)).bind fun x7 =>
  (ckI (x5.2.1 + (1 : Int))).bind fun x8 =>
  (m_Pspec_l20Rd_pick x7.2 x8).bind fun x9 =>
  some (x5.1, x7.1, x5.2.1, x9.1)
theorem c_spec_DrawLater (a0 : (List UInt8)) (r : ((List S_impl_Version) × (List S_impl_Write) × Int × Int)) (h : m_spec_DrawLater a0 = some r) : Ret Try.prog f_spec_DrawLater [e_Luint8 a0] (.tup [e_Limpl_Version r.1, e_Limpl_Write r.2.1, e_int r.2.2.1, e_int r.2.2.2]) := by
  refine Does.goG [] F_spec_DrawLater rfl e_spec_DrawLater n_spec_DrawLater rfl (rvs := [.tmp 2, .tmp 3, .tmp 4, .tmp 5]) rfl rfl ?_
  intro w0 ok0 lent ρ0
  refine LWP.seq_k fun N1 hN1 => ?_
  refine LWP.region (l := [_,_,_,_]) ?_
  refine LWo.assign _ rfl (hn := ?_)
  refine LWo.weakT 2 (e_Limpl_Version ([] : (List S_impl_Version))) rfl .nil ?_
  refine LWo.assign _ rfl (hn := ?_)
  refine LWo.weakT 3 (e_Limpl_Write ([] : (List S_impl_Write))) rfl .nil ?_
  refine LWo.assign (e_int (0 : Int)) rfl (hn := ?_)
  refine LWo.assign (e_int (0 : Int)) rfl (hn := ?_)
  refine LWo.nil (hN1 _ ?_)
  refine LWP.seq_k fun N2 hN2 => ?_
  refine LWP.region (l := [_,_,_]) ?_
  refine LWo.move (e_Luint8 a0) rfl (hn := ?_)
  refine bk h fun x3 e3 h => ?_
  refine LWo.bcallM (e := e_spec_l20Rd) 10 rfl rfl (c_spec_l20Open _ _ e3) (.same (.nil)) rfl rfl rfl (hn := ?_)
  refine LWo.assign (.ptr 10 0 0) rfl (hn := ?_)
  refine LWo.nil (hN2 _ ?_)
  refine LWP.seq_k fun N4 hN4 => ?_
  refine LWP.region (l := [_,_,_,_,_,_,_]) ?_
  refine LWo.move (.ptr 10 0 0) rfl (hn := ?_)
  refine bk h fun x5 e5 h => ?_
  refine LWo.lcall rfl rfl (k_spec_l20Versions _ _ _ e5 10) rfl rfl rfl (hn := ?_)
  refine LWo.move (.tup [(e_Limpl_Version x5.1), (e_int x5.2.1)]) rfl (hn := ?_)
  refine LWo.extract (e_Limpl_Version x5.1) rfl rfl (hn := ?_)
  refine LWo.extract (e_int x5.2.1) rfl rfl (hn := ?_)
  refine LWo.assign (e_Limpl_Version x5.1) rfl (hn := ?_)
  refine LWo.assign (e_int x5.2.1) rfl (hn := ?_)
  refine LWo.nil (hN4 _ ?_)
  refine LWP.seq_k fun N6 hN6 => ?_
  refine LWP.region (l := [_,_,_,_,_,_,_,_,_,_,_,_]) ?_
  refine LWo.move (e_Limpl_Version x5.1) rfl (hn := ?_)
  refine LWo.move (.ptr 10 0 0) rfl (hn := ?_)
  refine bk h fun x7 e7 h => ?_
  refine LWo.lcall rfl rfl (k_spec_l20Writes _ _ _ e7 10) rfl rfl rfl (hn := ?_)
  refine LWo.move (e_int x5.2.1) rfl (hn := ?_)
  refine LWo.move (.ptr 10 0 0) rfl (hn := ?_)
  refine LWo.move (e_int x5.2.1) rfl (hn := ?_)
  refine bk h fun x8 e8 h => ?_
  refine LWo.int _ rfl rfl (add_ck e8) (hn := ?_)
  refine bk h fun x9 e9 h => ?_
  refine LWo.lcall rfl rfl (k_Pspec_l20Rd_pick _ _ _ e9 10) rfl rfl rfl (hn := ?_)
  refine LWo.assign (e_Limpl_Version x5.1) rfl (hn := ?_)
  refine LWo.assign (e_Limpl_Write x7.1) rfl (hn := ?_)
  refine LWo.assign (e_int x5.2.1) rfl (hn := ?_)
  refine LWo.assign (e_int x9.1) rfl (hn := ?_)
  refine LWo.nil (hN6 _ ?_)
  obtain rfl := Option.some.inj h
  refine LWP.ret (QG.mk (.inr rfl) (.cons (.tmp (x := (e_Limpl_Version x5.1)) rfl) (.cons (.tmp (x := (e_Limpl_Write x7.1)) rfl) (.cons (.tmp (x := (e_int x5.2.1)) rfl) (.cons (.tmp (x := (e_int x9.1)) rfl) (.nil))))) (RetOK.many0 (.cons (.pure rfl) (.cons (.pure rfl) (.cons (.pure rfl) (.cons (.pure rfl) (.nil))))) (by simp) (by decide)) rfl rfl)

def m_impl_between_j1 (t6 : Bool) : Option Bool :=
  some t6
def m_impl_between (a0 : Int) (a1 : Int) (a2 : Int) : Option Bool :=
  bif decide (a0 ≥ a1) then (m_impl_between_j1  (decide (a0 ≤ a2)))
  else (m_impl_between_j1  false)
theorem c_impl_between (a0 : Int) (a1 : Int) (a2 : Int) (r : Bool) (h : m_impl_between a0 a1 a2 = some r) : Ret Try.prog f_impl_between [e_int a0, e_int a1, e_int a2] (e_bool r) := by
  refine Does.goG [] F_impl_between rfl e_impl_between n_impl_between rfl (rvs := [.tmp 6]) rfl rfl ?_
  intro w0 ok0 lent ρ0
  refine LWP.seq_k fun N1 hN1 => ?_
  refine LWP.region (l := [_]) ?_
  refine LWo.assign (e_bool false) rfl (hn := ?_)
  refine LWo.nil (hN1 _ ?_)
  refine LWP.join (α := Bool) (fun z : Bool => [(6, (e_bool z))]) (fun z : Bool => []) (fun z : Bool => m_impl_between_j1  z) r (fun _ => by simp [hkeys]) ?_ ?_
  ·rintro t6 h
   replace h : m_impl_between_j1  t6 = some _ := h
   obtain rfl := Option.some.inj h
   refine LWP.ret (QG.mk (.inr rfl) (.cons (.tmp (x := (e_bool t6)) rfl) (.nil)) (RetOK.one0 (.pure rfl) (by decide)) rfl rfl)
  ·intro N2 hN2
   refine LWP.region (l := [_,_,_,_,_,_,_,_,_]) ?_
   refine LWo.move (e_int a0) rfl (hn := ?_)
   refine LWo.move (e_int a1) rfl (hn := ?_)
   refine LWo.int _ rfl rfl rfl (hn := ?_)
   refine LWo.move (e_bool (decide (a0 ≥ a1))) rfl (hn := ?_)
   refine LWo.byCases (t := 10) _ rfl (fun h3 => ?_) (fun h3 => ?_)
   ·have h := bT h3 h
    refine LWo.guardY (t := 10) rfl h3 rfl rfl ?_
    refine LWo.move (e_int a0) rfl (hn := ?_)
    refine LWo.guardY (t := 10) rfl h3 rfl rfl ?_
    refine LWo.move (e_int a2) rfl (hn := ?_)
    refine LWo.guardY (t := 10) rfl h3 rfl rfl ?_
    refine LWo.int _ rfl rfl rfl (hn := ?_)
    refine LWo.pickTM (e_bool (decide (a0 ≤ a2))) rfl h3 rfl (hn := ?_)
    refine LWo.assign (e_bool (decide (a0 ≤ a2))) rfl (hn := ?_)
    refine LWo.nil (hN2 (decide (a0 ≤ a2)) _ ⟨rfl, trivial⟩ trivial h)
   ·have h := bF h3 h
    refine LWo.guardNU (t := 10) rfl h3 rfl rfl rfl rfl rfl ?_
    refine LWo.guardNU (t := 10) rfl h3 rfl rfl rfl rfl rfl ?_
    refine LWo.guardNU (t := 10) rfl h3 rfl rfl rfl rfl rfl ?_
    refine LWo.pickFM (e_bool false) rfl h3 rfl (hn := ?_)
    refine LWo.assign (e_bool false) rfl (hn := ?_)
    refine LWo.nil (hN2 false _ ⟨rfl, trivial⟩ trivial h)

def m_impl_keyOk (a0 : Int) : Option Bool :=
  (m_impl_between a0 (0 : Int) (4 : Int)).bind fun x3 =>
  some x3
theorem c_impl_keyOk (a0 : Int) (r : Bool) (h : m_impl_keyOk a0 = some r) : Ret Try.prog f_impl_keyOk [e_int a0] (e_bool r) := by
  refine Does.goG [] F_impl_keyOk rfl e_impl_keyOk n_impl_keyOk rfl (rvs := [.tmp 2]) rfl rfl ?_
  intro w0 ok0 lent ρ0
  refine LWP.seq_k fun N1 hN1 => ?_
  refine LWP.region (l := [_]) ?_
  refine LWo.assign (e_bool false) rfl (hn := ?_)
  refine LWo.nil (hN1 _ ?_)
  refine LWP.seq_k fun N2 hN2 => ?_
  refine LWP.region (l := [_,_,_]) ?_
  refine LWo.move (e_int a0) rfl (hn := ?_)
  refine bk h fun x3 e3 h => ?_
  refine LWo.vcall rfl rfl (c_impl_between _ _ _ _ e3) (.same (.same (.same (.nil)))) (hn := ?_)
  refine LWo.assign (e_bool x3) rfl (hn := ?_)
  refine LWo.nil (hN2 _ ?_)
  obtain rfl := Option.some.inj h
  refine LWP.ret (QG.mk (.inr rfl) (.cons (.tmp (x := (e_bool x3)) rfl) (.nil)) (RetOK.one0 (.pure rfl) (by decide)) rfl rfl)

def m_slices_IndexFunc_Limpl_Value_impl_Value_j1 (p1 : S_impl_Value → Option Bool)  : Option Int :=
  some (-1 : Int)
def m_slices_IndexFunc_Limpl_Value_impl_Value_l1 (p1 : S_impl_Value → Option Bool) : Nat → (List S_impl_Value) → Int → Int → Option Int
  | 0, _, _, _ => none
  | n1 + 1, t0, t7, t8 =>
    bif decide (t8 < t7) then ((at? t0 t8).bind fun x12 =>
    (p1 x12).bind fun x13 =>
    bif x13 then (some t8)
    else ((ckI (t8 + (1 : Int))).bind fun x16 =>
    (m_slices_IndexFunc_Limpl_Value_impl_Value_l1 p1 n1) t0 t7 x16))
    else (m_slices_IndexFunc_Limpl_Value_impl_Value_j1 p1 )
def m_slices_IndexFunc_Limpl_Value_impl_Value (a0 : (List S_impl_Value)) (p1 : S_impl_Value → Option Bool) : Option Int :=
  m_slices_IndexFunc_Limpl_Value_impl_Value_l1 p1 (((a0.length : Int) - (0 : Int)).toNat + 1) a0 (a0.length : Int) (0 : Int)
theorem c_slices_IndexFunc_Limpl_Value_impl_Value (a0 : (List S_impl_Value)) (p1 : S_impl_Value → Option Bool) (f1 : FuncId) (q1 : List LV) (hq1 : ∀ k, LV.at?.atL k q1 = false) (hf1 : ∀ a0 v, p1 a0 = some v → Ret Try.prog f1 (e_impl_Value a0 :: q1) (e_bool v)) (r : Int) (h : m_slices_IndexFunc_Limpl_Value_impl_Value a0 p1 = some r) : Ret Try.prog f_slices_IndexFunc_Limpl_Value_impl_Value [e_Limpl_Value a0, .clo f1 q1] (e_int r) := by
  refine Does.goG [] F_slices_IndexFunc_Limpl_Value_impl_Value rfl e_slices_IndexFunc_Limpl_Value_impl_Value n_slices_IndexFunc_Limpl_Value_impl_Value rfl (rvs := [.tmp 4]) rfl rfl ?_
  intro w0 ok0 lent ρ0
  refine LWP.seq_k fun N1 hN1 => ?_
  refine LWP.region (l := [_]) ?_
  refine LWo.assign (e_int (0 : Int)) rfl (hn := ?_)
  refine LWo.nil (hN1 _ ?_)
  refine LWP.join (α := Unit) (fun z : Unit => []) (fun z : Unit => []) (fun z : Unit => m_slices_IndexFunc_Limpl_Value_impl_Value_j1 p1 ) r (fun _ => by simp [hkeys]) ?_ ?_
  ·rintro _ h
   replace h : m_slices_IndexFunc_Limpl_Value_impl_Value_j1 p1  = some _ := h
   refine LWP.seq_k fun N17 hN17 => ?_
   refine LWP.region (l := [_]) ?_
   refine LWo.assign (e_int (-1 : Int)) rfl (hn := ?_)
   refine LWo.nil (hN17 _ ?_)
   obtain rfl := Option.some.inj h
   refine LWP.ret (QG.mk (.inr rfl) (.cons (.tmp (x := (e_int (-1 : Int))) rfl) (.nil)) (RetOK.one0 (.pure rfl) (by decide)) rfl rfl)
  ·intro N2 hN2
   refine LWP.seq_k fun N3 hN3 => ?_
   refine LWP.region (l := [_,_,_]) ?_
   refine LWo.move (e_Limpl_Value a0) rfl (hn := ?_)
   refine LWo.lenM (f := e_impl_Value) (l := a0) u_Limpl_Value rfl (hn := ?_)
   refine LWo.move (e_int (0 : Int)) rfl (hn := ?_)
   refine LWo.nil (hN3 _ ?_)
   refine LWP.block ?_
   refine LWP.loopM (α := (List S_impl_Value) × Int × Int) (fun z : (List S_impl_Value) × Int × Int => [(0, (e_Limpl_Value z.1)), (1, (.clo f1 q1)), (7, (e_int z.2.1)), (8, (e_int z.2.2))]) (fun z : (List S_impl_Value) × Int × Int => []) (fun n1 (z : (List S_impl_Value) × Int × Int) => m_slices_IndexFunc_Limpl_Value_impl_Value_l1 p1 n1 z.1 z.2.1 z.2.2) r _ (a0, (a0.length : Int), (0 : Int)) h (fun _ => rfl) (fun _ => by simp [hkeys]) ⟨rfl, rfl, rfl, rfl, trivial⟩ trivial ?_
   rintro n1 ⟨t0, t7, t8⟩ h N4 hN4
   replace h : m_slices_IndexFunc_Limpl_Value_impl_Value_l1 p1 (n1 + 1) t0 t7 t8 = some _ := h
   refine LWP.seq_k fun N6 hN6 => ?_
   refine LWP.region (l := [_]) ?_
   refine LWo.int _ rfl rfl rfl (hn := ?_)
   refine LWo.nil (hN6 _ ?_)
   refine LWP.seq_k fun N7 hN7 => ?_
   refine LWP.cond_split rfl (fun h8 => ?_) (fun h8 => ?_)
   ·have h := bT h8 h
    refine LWP.skip (hN7 _ ?_)
    refine LWP.seq_k fun N9 hN9 => ?_
    refine LWP.block ?_
    refine LWP.seq_k fun N10 hN10 => ?_
    refine LWP.region (l := [_,_]) ?_
    refine LWo.move (e_int t8) rfl (hn := ?_)
    refine LWo.assign (e_int t8) rfl (hn := ?_)
    refine LWo.nil (hN10 _ ?_)
    refine LWP.seq_k fun N11 hN11 => ?_
    refine LWP.region (l := [_,_,_,_,_,_]) ?_
    refine LWo.move (.clo f1 q1) rfl (hn := ?_)
    refine LWo.move (e_Limpl_Value t0) rfl (hn := ?_)
    refine LWo.move (e_int t8) rfl (hn := ?_)
    refine bk h fun x12 e12 h => ?_
    refine LWo.indexM (f := e_impl_Value) e12 u_Limpl_Value s_impl_Value rfl rfl (hn := ?_)
    refine LWo.loadN ((e_impl_Value x12)).cells g_impl_Value s_impl_Value rfl (Nat.le_of_ble_eq_true rfl) rfl (hn := ?_)
    refine bk h fun x13 e13 h => ?_
    refine LWo.vcall rfl rfl (hf1 _ _ e13) .refl (hn := ?_)
    refine LWo.nil (hN11 _ ?_)
    refine LWP.cond_split rfl (fun h14 => ?_) (fun h14 => ?_)
    ·have h := bT h14 h
     refine LWP.seq_k fun N15 hN15 => ?_
     refine LWP.region (l := [_,_]) ?_
     refine LWo.move (e_int t8) rfl (hn := ?_)
     refine LWo.assign (e_int t8) rfl (hn := ?_)
     refine LWo.nil (hN15 _ ?_)
     obtain rfl := Option.some.inj h
     refine LWP.ret (QG.mk (.inr rfl) (.cons (.tmp (x := (e_int t8)) rfl) (.nil)) (RetOK.one0 (.pure rfl) (by decide)) rfl rfl)
    ·have h := bF h14 h
     refine LWP.skip (hN9 _ ?_)
     refine LWP.region (l := [_,_]) ?_
     refine bk h fun x16 e16 h => ?_
     refine LWo.int _ rfl rfl (add_ck e16) (hn := ?_)
     refine LWo.move (e_int x16) rfl (hn := ?_)
     refine LWo.nil (hN4 (t0, t7, x16) _ ⟨rfl, rfl, rfl, rfl, trivial⟩ trivial h)
   ·have h := bF h8 h
    refine LWP.exit (hN2 () _ trivial trivial h)

def m_slices_ContainsFunc_Limpl_Value_impl_Value (a0 : (List S_impl_Value)) (p1 : S_impl_Value → Option Bool) : Option Bool :=
  (m_slices_IndexFunc_Limpl_Value_impl_Value a0 p1).bind fun x3 =>
  some (decide (x3 ≥ (0 : Int)))
theorem c_slices_ContainsFunc_Limpl_Value_impl_Value (a0 : (List S_impl_Value)) (p1 : S_impl_Value → Option Bool) (f1 : FuncId) (q1 : List LV) (hq1 : ∀ k, LV.at?.atL k q1 = false) (hf1 : ∀ a0 v, p1 a0 = some v → Ret Try.prog f1 (e_impl_Value a0 :: q1) (e_bool v)) (r : Bool) (h : m_slices_ContainsFunc_Limpl_Value_impl_Value a0 p1 = some r) : Ret Try.prog f_slices_ContainsFunc_Limpl_Value_impl_Value [e_Limpl_Value a0, .clo f1 q1] (e_bool r) := by
  refine Does.goG [] F_slices_ContainsFunc_Limpl_Value_impl_Value rfl e_slices_ContainsFunc_Limpl_Value_impl_Value n_slices_ContainsFunc_Limpl_Value_impl_Value rfl (rvs := [.tmp 4]) rfl rfl ?_
  intro w0 ok0 lent ρ0
  refine LWP.seq_k fun N1 hN1 => ?_
  refine LWP.region (l := [_]) ?_
  refine LWo.assign (e_bool false) rfl (hn := ?_)
  refine LWo.nil (hN1 _ ?_)
  refine LWP.seq_k fun N2 hN2 => ?_
  refine LWP.region (l := [_,_,_,_,_]) ?_
  refine LWo.move (e_Limpl_Value a0) rfl (hn := ?_)
  refine LWo.move (.clo f1 q1) rfl (hn := ?_)
  refine bk h fun x3 e3 h => ?_
  refine LWo.vcall rfl rfl (c_slices_IndexFunc_Limpl_Value_impl_Value _ _ f1 q1 hq1 hf1 _ e3) (.same (.same (.nil))) (hn := ?_)
  refine LWo.int _ rfl rfl rfl (hn := ?_)
  refine LWo.assign (e_bool (decide (x3 ≥ (0 : Int)))) rfl (hn := ?_)
  refine LWo.nil (hN2 _ ?_)
  obtain rfl := Option.some.inj h
  refine LWP.ret (QG.mk (.inr rfl) (.cons (.tmp (x := (e_bool (decide (x3 ≥ (0 : Int))))) rfl) (.nil)) (RetOK.one0 (.pure rfl) (by decide)) rfl rfl)

def m_impl_letters_j1  : Option Bool :=
  some true
def m_impl_letters_l1 : Nat → (List UInt8) → Int → Int → Option Bool
  | 0, _, _, _ => none
  | n1 + 1, t6, t7, t8 =>
    bif decide (t8 < t7) then ((at? t6 t8).bind fun x12 =>
    (m_impl_between (x12.toNat : Int) (97 : Int) (122 : Int)).bind fun x14 =>
    bif (!x14) then (some false)
    else ((ckI (t8 + (1 : Int))).bind fun x17 =>
    (m_impl_letters_l1  n1) t6 t7 x17))
    else (m_impl_letters_j1  )
def m_impl_letters (a0 : ByteArray) : Option Bool :=
  (sBytes? a0).bind fun x4 =>
  m_impl_letters_l1  (((x4.length : Int) - (0 : Int)).toNat + 1) x4 (x4.length : Int) (0 : Int)
theorem c_impl_letters (a0 : ByteArray) (r : Bool) (h : m_impl_letters a0 = some r) : Ret Try.prog f_impl_letters [e_string a0] (e_bool r) := by
  refine Does.goG [] F_impl_letters rfl e_impl_letters n_impl_letters rfl (rvs := [.tmp 2]) rfl rfl ?_
  intro w0 ok0 lent ρ0
  refine LWP.seq_k fun N1 hN1 => ?_
  refine LWP.region (l := [_]) ?_
  refine LWo.assign (e_bool false) rfl (hn := ?_)
  refine LWo.nil (hN1 _ ?_)
  refine LWP.join (α := Unit) (fun z : Unit => []) (fun z : Unit => []) (fun z : Unit => m_impl_letters_j1  ) r (fun _ => by simp [hkeys]) ?_ ?_
  ·rintro _ h
   replace h : m_impl_letters_j1   = some _ := h
   refine LWP.seq_k fun N18 hN18 => ?_
   refine LWP.region (l := [_]) ?_
   refine LWo.assign (e_bool true) rfl (hn := ?_)
   refine LWo.nil (hN18 _ ?_)
   obtain rfl := Option.some.inj h
   refine LWP.ret (QG.mk (.inr rfl) (.cons (.tmp (x := (e_bool true)) rfl) (.nil)) (RetOK.one0 (.pure rfl) (by decide)) rfl rfl)
  ·intro N2 hN2
   refine LWP.seq_k fun N3 hN3 => ?_
   refine LWP.region (l := [_,_,_,_]) ?_
   refine LWo.move (e_string a0) rfl (hn := ?_)
   refine bk h fun x4 e4 h => ?_
   refine LWo.bytesM e4 u_string u_Luint8 u_uint8 rfl (hn := ?_)
   refine LWo.lenM (f := e_uint8) (l := x4) u_Luint8 rfl (hn := ?_)
   refine LWo.move (e_int (0 : Int)) rfl (hn := ?_)
   refine LWo.nil (hN3 _ ?_)
   refine LWP.block ?_
   refine LWP.loopM (α := (List UInt8) × Int × Int) (fun z : (List UInt8) × Int × Int => [(6, (e_Luint8 z.1)), (7, (e_int z.2.1)), (8, (e_int z.2.2))]) (fun z : (List UInt8) × Int × Int => []) (fun n1 (z : (List UInt8) × Int × Int) => m_impl_letters_l1  n1 z.1 z.2.1 z.2.2) r _ (x4, (x4.length : Int), (0 : Int)) h (fun _ => rfl) (fun _ => by simp [hkeys]) ⟨rfl, rfl, rfl, trivial⟩ trivial ?_
   rintro n1 ⟨t6, t7, t8⟩ h N5 hN5
   replace h : m_impl_letters_l1  (n1 + 1) t6 t7 t8 = some _ := h
   refine LWP.seq_k fun N7 hN7 => ?_
   refine LWP.region (l := [_]) ?_
   refine LWo.int _ rfl rfl rfl (hn := ?_)
   refine LWo.nil (hN7 _ ?_)
   refine LWP.seq_k fun N8 hN8 => ?_
   refine LWP.cond_split rfl (fun h9 => ?_) (fun h9 => ?_)
   ·have h := bT h9 h
    refine LWP.skip (hN8 _ ?_)
    refine LWP.seq_k fun N10 hN10 => ?_
    refine LWP.block ?_
    refine LWP.seq_k fun N11 hN11 => ?_
    refine LWP.region (l := [_,_,_]) ?_
    refine bk h fun x12 e12 h => ?_
    refine LWo.indexM (f := e_uint8) e12 u_Luint8 s_uint8 rfl rfl (hn := ?_)
    refine LWo.load1 (c := (e_uint8 x12)) g_uint8 rfl (hn := ?_)
    refine LWo.assign (e_uint8 x12) rfl (hn := ?_)
    refine LWo.nil (hN11 _ ?_)
    refine LWP.seq_k fun N13 hN13 => ?_
    refine LWP.region (l := [_,_,_,_]) ?_
    refine LWo.move (e_uint8 x12) rfl (hn := ?_)
    refine LWo.convByte _ u_uint8 u_int rfl (hn := ?_)
    refine bk h fun x14 e14 h => ?_
    refine LWo.vcall rfl rfl (c_impl_between _ _ _ _ e14) (.same (.same (.same (.nil)))) (hn := ?_)
    refine LWo.not rfl (hn := ?_)
    refine LWo.nil (hN13 _ ?_)
    refine LWP.cond_split rfl (fun h15 => ?_) (fun h15 => ?_)
    ·have h := bT h15 h
     refine LWP.seq_k fun N16 hN16 => ?_
     refine LWP.region (l := [_]) ?_
     refine LWo.assign (e_bool false) rfl (hn := ?_)
     refine LWo.nil (hN16 _ ?_)
     obtain rfl := Option.some.inj h
     refine LWP.ret (QG.mk (.inr rfl) (.cons (.tmp (x := (e_bool false)) rfl) (.nil)) (RetOK.one0 (.pure rfl) (by decide)) rfl rfl)
    ·have h := bF h15 h
     refine LWP.skip (hN10 _ ?_)
     refine LWP.region (l := [_,_]) ?_
     refine bk h fun x17 e17 h => ?_
     refine LWo.int _ rfl rfl (add_ck e17) (hn := ?_)
     refine LWo.move (e_int x17) rfl (hn := ?_)
     refine LWo.nil (hN5 (t6, t7, x17) _ ⟨rfl, rfl, rfl, trivial⟩ trivial h)
   ·have h := bF h9 h
    refine LWP.exit (hN2 () _ trivial trivial h)

def m_impl_Value_ok_j1 (t2 : Bool) : Option Bool :=
  some t2
def m_impl_Value_ok_j2 (t2 : Bool) : Option Bool :=
  some t2
def m_impl_Value_ok_j3 (t2 : Bool) : Option Bool :=
  some t2
def m_impl_Value_ok (a0 : S_impl_Value) : Option Bool :=
  bif (a0.Kind == (0 : Int)) then (some (decide (a0 = (⟨(0 : Int), (0 : Int), (⟨#[]⟩ : ByteArray)⟩ : S_impl_Value))))
  else (bif (a0.Kind == (1 : Int)) then (bif (sEq a0.S (⟨#[]⟩ : ByteArray)) then ((m_impl_between a0.N (-9999 : Int) (9999 : Int)).bind fun x11 =>
        m_impl_Value_ok_j1  x11)
      else (m_impl_Value_ok_j1  false))
    else (bif (a0.Kind == (2 : Int)) then (bif (a0.N == (0 : Int)) then (bif decide ((a0.S.size : Int) ≤ (6 : Int)) then ((m_impl_letters a0.S).bind fun x17 =>
            m_impl_Value_ok_j2  x17)
          else (m_impl_Value_ok_j2  false))
        else (m_impl_Value_ok_j2  false))
      else (bif (a0.Kind == (3 : Int)) then (bif (sEq a0.S (⟨#[]⟩ : ByteArray)) then ((m_impl_between a0.N (0 : Int) (1 : Int)).bind fun x22 =>
            m_impl_Value_ok_j3  x22)
          else (m_impl_Value_ok_j3  false))
        else (some false))))
theorem c_impl_Value_ok (a0 : S_impl_Value) (r : Bool) (h : m_impl_Value_ok a0 = some r) : Ret Try.prog f_impl_Value_ok [e_impl_Value a0] (e_bool r) := by
  refine Does.goG [] F_impl_Value_ok rfl e_impl_Value_ok n_impl_Value_ok rfl (rvs := [.tmp 2]) rfl rfl ?_
  intro w0 ok0 lent ρ0
  refine LWP.seq_k fun N1 hN1 => ?_
  refine LWP.region (l := [_,_]) ?_
  refine LWo.boxF (e_impl_Value a0) rfl rfl rfl (hn := ?_)
  refine LWo.assign (e_bool false) rfl (hn := ?_)
  refine LWo.nil (hN1 _ ?_)
  refine LWP.seq_k fun N2 hN2 => ?_
  refine LWP.seq_k fun N3 hN3 => ?_
  refine LWP.region (l := [_,_]) ?_
  refine LWo.fieldAddr _ u_impl_Value rfl s_int rfl rfl (hn := ?_)
  refine LWo.load1 (c := (e_int a0.Kind)) g_int rfl (hn := ?_)
  refine LWo.nil (hN3 _ ?_)
  refine LWP.block ?_
  refine LWP.seq_k fun N4 hN4 => ?_
  refine LWP.region (l := [_,_]) ?_
  refine LWo.int _ rfl rfl rfl (hn := ?_)
  refine LWo.assign (e_bool (a0.Kind == (0 : Int))) rfl (hn := ?_)
  refine LWo.nil (hN4 _ ?_)
  refine LWP.cond_split rfl (fun h5 => ?_) (fun h5 => ?_)
  ·have h := bT h5 h
   refine LWP.seq_k fun N6 hN6 => ?_
   refine LWP.region (l := [_,_,_,_]) ?_
   refine LWo.loadN ((e_impl_Value a0)).cells g_impl_Value s_impl_Value rfl (Nat.le_of_ble_eq_true rfl) rfl (hn := ?_)
   refine LWo.build_impl_Value (parts := []) (⟨(0 : Int), (0 : Int), (⟨#[]⟩ : ByteArray)⟩ : S_impl_Value) rfl rfl rfl .refl (hn := ?_)
   refine LWo.eq_impl_Value _ _ rfl rfl (hn := ?_)
   refine LWo.assign (e_bool (decide (a0 = (⟨(0 : Int), (0 : Int), (⟨#[]⟩ : ByteArray)⟩ : S_impl_Value)))) rfl (hn := ?_)
   refine LWo.nil (hN6 _ ?_)
   obtain rfl := Option.some.inj h
   refine LWP.ret (QG.mk (.inr rfl) (.cons (.tmp (x := (e_bool (decide (a0 = (⟨(0 : Int), (0 : Int), (⟨#[]⟩ : ByteArray)⟩ : S_impl_Value))))) rfl) (.nil)) (RetOK.one0 (.pure rfl) (by decide)) rfl rfl)
  ·have h := bF h5 h
   refine LWP.seq_k fun N7 hN7 => ?_
   refine LWP.region (l := [_,_]) ?_
   refine LWo.int _ rfl rfl rfl (hn := ?_)
   refine LWo.assign (e_bool (a0.Kind == (1 : Int))) rfl (hn := ?_)
   refine LWo.nil (hN7 _ ?_)
   refine LWP.cond_split rfl (fun h8 => ?_) (fun h8 => ?_)
   ·have h := bT h8 h
    refine LWP.join (α := Bool) (fun z : Bool => [(2, (e_bool z))]) (fun z : Bool => []) (fun z : Bool => m_impl_Value_ok_j1  z) r (fun _ => by simp [hkeys]) ?_ ?_
    ·rintro t2 h
     replace h : m_impl_Value_ok_j1  t2 = some _ := h
     obtain rfl := Option.some.inj h
     refine LWP.ret (QG.mk (.inr rfl) (.cons (.tmp (x := (e_bool t2)) rfl) (.nil)) (RetOK.one0 (.pure rfl) (by decide)) rfl rfl)
    ·intro N9 hN9
     refine LWP.region (l := [_,_,_,_,_,_,_,_,_]) ?_
     refine LWo.fieldAddr _ u_impl_Value rfl s_string rfl rfl (hn := ?_)
     refine LWo.load1 (c := (e_string a0.S)) g_string rfl (hn := ?_)
     refine LWo.str _ rfl rfl rfl (hn := ?_)
     refine LWo.move (e_bool (sEq a0.S (⟨#[]⟩ : ByteArray))) rfl (hn := ?_)
     refine LWo.byCases (t := 15) _ rfl (fun h10 => ?_) (fun h10 => ?_)
     ·have h := bT h10 h
      refine LWo.guardY (t := 15) rfl h10 rfl rfl ?_
      refine LWo.fieldAddr _ u_impl_Value rfl s_int rfl rfl (hn := ?_)
      refine LWo.guardY (t := 15) rfl h10 rfl rfl ?_
      refine LWo.load1 (c := (e_int a0.N)) g_int rfl (hn := ?_)
      refine bk h fun x11 e11 h => ?_
      refine LWo.guardY (t := 15) rfl h10 rfl rfl ?_
      refine LWo.vcall rfl rfl (c_impl_between _ _ _ _ e11) (.same (.same (.same (.nil)))) (hn := ?_)
      refine LWo.pickTM (e_bool x11) rfl h10 rfl (hn := ?_)
      refine LWo.assign (e_bool x11) rfl (hn := ?_)
      refine LWo.nil (hN9 x11 _ ⟨rfl, trivial⟩ trivial h)
     ·have h := bF h10 h
      refine LWo.guardNU (t := 15) rfl h10 rfl rfl rfl rfl rfl ?_
      refine LWo.guardNU (t := 15) rfl h10 rfl rfl rfl rfl rfl ?_
      refine LWo.guardNU (t := 15) rfl h10 rfl rfl rfl rfl rfl ?_
      refine LWo.pickFM (e_bool false) rfl h10 rfl (hn := ?_)
      refine LWo.assign (e_bool false) rfl (hn := ?_)
      refine LWo.nil (hN9 false _ ⟨rfl, trivial⟩ trivial h)
   ·have h := bF h8 h
    refine LWP.seq_k fun N12 hN12 => ?_
    refine LWP.region (l := [_,_]) ?_
    refine LWo.int _ rfl rfl rfl (hn := ?_)
    refine LWo.assign (e_bool (a0.Kind == (2 : Int))) rfl (hn := ?_)
    refine LWo.nil (hN12 _ ?_)
    refine LWP.cond_split rfl (fun h13 => ?_) (fun h13 => ?_)
    ·have h := bT h13 h
     refine LWP.join (α := Bool) (fun z : Bool => [(2, (e_bool z))]) (fun z : Bool => []) (fun z : Bool => m_impl_Value_ok_j2  z) r (fun _ => by simp [hkeys]) ?_ ?_
     ·rintro t2 h
      replace h : m_impl_Value_ok_j2  t2 = some _ := h
      obtain rfl := Option.some.inj h
      refine LWP.ret (QG.mk (.inr rfl) (.cons (.tmp (x := (e_bool t2)) rfl) (.nil)) (RetOK.one0 (.pure rfl) (by decide)) rfl rfl)
     ·intro N14 hN14
      refine LWP.region (l := [_,_,_,_,_,_,_,_,_,_,_,_,_,_,_]) ?_
      refine LWo.fieldAddr _ u_impl_Value rfl s_int rfl rfl (hn := ?_)
      refine LWo.load1 (c := (e_int a0.N)) g_int rfl (hn := ?_)
      refine LWo.int _ rfl rfl rfl (hn := ?_)
      refine LWo.move (e_bool (a0.N == (0 : Int))) rfl (hn := ?_)
      refine LWo.byCases (t := 25) _ rfl (fun h15 => ?_) (fun h15 => ?_)
      ·have h := bT h15 h
       refine LWo.guardY (t := 25) rfl h15 rfl rfl ?_
       refine LWo.fieldAddr _ u_impl_Value rfl s_string rfl rfl (hn := ?_)
       refine LWo.guardY (t := 25) rfl h15 rfl rfl ?_
       refine LWo.load1 (c := (e_string a0.S)) g_string rfl (hn := ?_)
       refine LWo.guardY (t := 25) rfl h15 rfl rfl ?_
       refine LWo.lenS u_string rfl (hn := ?_)
       refine LWo.guardY (t := 25) rfl h15 rfl rfl ?_
       refine LWo.int _ rfl rfl rfl (hn := ?_)
       refine LWo.pickTM (e_bool (decide ((a0.S.size : Int) ≤ (6 : Int)))) rfl h15 rfl (hn := ?_)
       refine LWo.move (e_bool (decide ((a0.S.size : Int) ≤ (6 : Int)))) rfl (hn := ?_)
       refine LWo.byCases (t := 31) _ rfl (fun h16 => ?_) (fun h16 => ?_)
       ·have h := bT h16 h
        refine LWo.guardY (t := 31) rfl h16 rfl rfl ?_
        refine LWo.fieldAddr _ u_impl_Value rfl s_string rfl rfl (hn := ?_)
        refine LWo.guardY (t := 31) rfl h16 rfl rfl ?_
        refine LWo.load1 (c := (e_string a0.S)) g_string rfl (hn := ?_)
        refine bk h fun x17 e17 h => ?_
        refine LWo.guardY (t := 31) rfl h16 rfl rfl ?_
        refine LWo.vcall rfl rfl (c_impl_letters _ _ e17) (.same (.nil)) (hn := ?_)
        refine LWo.pickTM (e_bool x17) rfl h16 rfl (hn := ?_)
        refine LWo.assign (e_bool x17) rfl (hn := ?_)
        refine LWo.nil (hN14 x17 _ ⟨rfl, trivial⟩ trivial h)
       ·have h := bF h16 h
        refine LWo.guardNU (t := 31) rfl h16 rfl rfl rfl rfl rfl ?_
        refine LWo.guardNU (t := 31) rfl h16 rfl rfl rfl rfl rfl ?_
        refine LWo.guardNU (t := 31) rfl h16 rfl rfl rfl rfl rfl ?_
        refine LWo.pickFM (e_bool false) rfl h16 rfl (hn := ?_)
        refine LWo.assign (e_bool false) rfl (hn := ?_)
        refine LWo.nil (hN14 false _ ⟨rfl, trivial⟩ trivial h)
      ·have h := bF h15 h
       refine LWo.guardNU (t := 25) rfl h15 rfl rfl rfl rfl rfl ?_
       refine LWo.guardNU (t := 25) rfl h15 rfl rfl rfl rfl rfl ?_
       refine LWo.guardNU (t := 25) rfl h15 rfl rfl rfl rfl rfl ?_
       refine LWo.guardNU (t := 25) rfl h15 rfl rfl rfl rfl rfl ?_
       refine LWo.pickFM (e_bool false) rfl h15 rfl (hn := ?_)
       refine LWo.move (e_bool false) rfl (hn := ?_)
       refine LWo.guardNU (t := 31) rfl rfl rfl rfl rfl rfl rfl ?_
       refine LWo.guardNU (t := 31) rfl rfl rfl rfl rfl rfl rfl ?_
       refine LWo.guardNU (t := 31) rfl rfl rfl rfl rfl rfl rfl ?_
       refine LWo.pickFM (e_bool false) rfl rfl rfl (hn := ?_)
       refine LWo.assign (e_bool false) rfl (hn := ?_)
       refine LWo.nil (hN14 false _ ⟨rfl, trivial⟩ trivial h)
    ·have h := bF h13 h
     refine LWP.seq_k fun N18 hN18 => ?_
     refine LWP.region (l := [_,_]) ?_
     refine LWo.int _ rfl rfl rfl (hn := ?_)
     refine LWo.assign (e_bool (a0.Kind == (3 : Int))) rfl (hn := ?_)
     refine LWo.nil (hN18 _ ?_)
     refine LWP.cond_split rfl (fun h19 => ?_) (fun h19 => ?_)
     ·have h := bT h19 h
      refine LWP.join (α := Bool) (fun z : Bool => [(2, (e_bool z))]) (fun z : Bool => []) (fun z : Bool => m_impl_Value_ok_j3  z) r (fun _ => by simp [hkeys]) ?_ ?_
      ·rintro t2 h
       replace h : m_impl_Value_ok_j3  t2 = some _ := h
       obtain rfl := Option.some.inj h
       refine LWP.ret (QG.mk (.inr rfl) (.cons (.tmp (x := (e_bool t2)) rfl) (.nil)) (RetOK.one0 (.pure rfl) (by decide)) rfl rfl)
      ·intro N20 hN20
       refine LWP.region (l := [_,_,_,_,_,_,_,_,_]) ?_
       refine LWo.fieldAddr _ u_impl_Value rfl s_string rfl rfl (hn := ?_)
       refine LWo.load1 (c := (e_string a0.S)) g_string rfl (hn := ?_)
       refine LWo.str _ rfl rfl rfl (hn := ?_)
       refine LWo.move (e_bool (sEq a0.S (⟨#[]⟩ : ByteArray))) rfl (hn := ?_)
       refine LWo.byCases (t := 41) _ rfl (fun h21 => ?_) (fun h21 => ?_)
       ·have h := bT h21 h
        refine LWo.guardY (t := 41) rfl h21 rfl rfl ?_
        refine LWo.fieldAddr _ u_impl_Value rfl s_int rfl rfl (hn := ?_)
        refine LWo.guardY (t := 41) rfl h21 rfl rfl ?_
        refine LWo.load1 (c := (e_int a0.N)) g_int rfl (hn := ?_)
        refine bk h fun x22 e22 h => ?_
        refine LWo.guardY (t := 41) rfl h21 rfl rfl ?_
        refine LWo.vcall rfl rfl (c_impl_between _ _ _ _ e22) (.same (.same (.same (.nil)))) (hn := ?_)
        refine LWo.pickTM (e_bool x22) rfl h21 rfl (hn := ?_)
        refine LWo.assign (e_bool x22) rfl (hn := ?_)
        refine LWo.nil (hN20 x22 _ ⟨rfl, trivial⟩ trivial h)
       ·have h := bF h21 h
        refine LWo.guardNU (t := 41) rfl h21 rfl rfl rfl rfl rfl ?_
        refine LWo.guardNU (t := 41) rfl h21 rfl rfl rfl rfl rfl ?_
        refine LWo.guardNU (t := 41) rfl h21 rfl rfl rfl rfl rfl ?_
        refine LWo.pickFM (e_bool false) rfl h21 rfl (hn := ?_)
        refine LWo.assign (e_bool false) rfl (hn := ?_)
        refine LWo.nil (hN20 false _ ⟨rfl, trivial⟩ trivial h)
     ·have h := bF h19 h
      refine LWP.skip (hN2 _ ?_)
      refine LWP.seq_k fun N23 hN23 => ?_
      refine LWP.region (l := [_]) ?_
      refine LWo.assign (e_bool false) rfl (hn := ?_)
      refine LWo.nil (hN23 _ ?_)
      obtain rfl := Option.some.inj h
      refine LWP.ret (QG.mk (.inr rfl) (.cons (.tmp (x := (e_bool false)) rfl) (.nil)) (RetOK.one0 (.pure rfl) (by decide)) rfl rfl)

def m_impl_RowOk_1 (a0 : S_impl_Value) : Option Bool :=
  (m_impl_Value_ok a0).bind fun x3 =>
  some (!x3)
theorem c_impl_RowOk_1 (a0 : S_impl_Value) (r : Bool) (h : m_impl_RowOk_1 a0 = some r) : Ret Try.prog f_impl_RowOk_1 [e_impl_Value a0] (e_bool r) := by
  refine Does.goG [] F_impl_RowOk_1 rfl e_impl_RowOk_1 n_impl_RowOk_1 rfl (rvs := [.tmp 2]) rfl rfl ?_
  intro w0 ok0 lent ρ0
  refine LWP.seq_k fun N1 hN1 => ?_
  refine LWP.region (l := [_,_]) ?_
  refine LWo.boxF (e_impl_Value a0) rfl rfl rfl (hn := ?_)
  refine LWo.assign (e_bool false) rfl (hn := ?_)
  refine LWo.nil (hN1 _ ?_)
  refine LWP.seq_k fun N2 hN2 => ?_
  refine LWP.region (l := [_,_,_,_]) ?_
  refine LWo.loadN ((e_impl_Value a0)).cells g_impl_Value s_impl_Value rfl (Nat.le_of_ble_eq_true rfl) rfl (hn := ?_)
  refine bk h fun x3 e3 h => ?_
  refine LWo.vcall rfl rfl (c_impl_Value_ok _ _ e3) (.same (.nil)) (hn := ?_)
  refine LWo.not rfl (hn := ?_)
  refine LWo.assign (e_bool (!x3)) rfl (hn := ?_)
  refine LWo.nil (hN2 _ ?_)
  obtain rfl := Option.some.inj h
  refine LWP.ret (QG.mk (.inr rfl) (.cons (.tmp (x := (e_bool (!x3))) rfl) (.nil)) (RetOK.one0 (.pure rfl) (by decide)) rfl rfl)

def m_impl_RowOk_j1 (t2 : Bool) : Option Bool :=
  some t2
def m_impl_RowOk (a0 : (List S_impl_Value)) : Option Bool :=
  bif decide ((a0.length : Int) ≤ (4 : Int)) then ((m_slices_ContainsFunc_Limpl_Value_impl_Value a0 (fun b0_ => m_impl_RowOk_1 b0_ )).bind fun x4 =>
    m_impl_RowOk_j1  (!x4))
  else (m_impl_RowOk_j1  false)
theorem c_impl_RowOk (a0 : (List S_impl_Value)) (r : Bool) (h : m_impl_RowOk a0 = some r) : Ret Try.prog f_impl_RowOk [e_Limpl_Value a0] (e_bool r) := by
  refine Does.goG [] F_impl_RowOk rfl e_impl_RowOk n_impl_RowOk rfl (rvs := [.tmp 2]) rfl rfl ?_
  intro w0 ok0 lent ρ0
  refine LWP.seq_k fun N1 hN1 => ?_
  refine LWP.region (l := [_]) ?_
  refine LWo.assign (e_bool false) rfl (hn := ?_)
  refine LWo.nil (hN1 _ ?_)
  refine LWP.join (α := Bool) (fun z : Bool => [(2, (e_bool z))]) (fun z : Bool => []) (fun z : Bool => m_impl_RowOk_j1  z) r (fun _ => by simp [hkeys]) ?_ ?_
  ·rintro t2 h
   replace h : m_impl_RowOk_j1  t2 = some _ := h
   obtain rfl := Option.some.inj h
   refine LWP.ret (QG.mk (.inr rfl) (.cons (.tmp (x := (e_bool t2)) rfl) (.nil)) (RetOK.one0 (.pure rfl) (by decide)) rfl rfl)
  ·intro N2 hN2
   refine LWP.region (l := [_,_,_,_,_,_,_,_,_]) ?_
   refine LWo.move (e_Limpl_Value a0) rfl (hn := ?_)
   refine LWo.lenM (f := e_impl_Value) (l := a0) u_Limpl_Value rfl (hn := ?_)
   refine LWo.int _ rfl rfl rfl (hn := ?_)
   refine LWo.move (e_bool (decide ((a0.length : Int) ≤ (4 : Int)))) rfl (hn := ?_)
   refine LWo.byCases (t := 6) _ rfl (fun h3 => ?_) (fun h3 => ?_)
   ·have h := bT h3 h
    refine LWo.guardY (t := 6) rfl h3 rfl rfl ?_
    refine LWo.move (e_Limpl_Value a0) rfl (hn := ?_)
    refine bk h fun x4 e4 h => ?_
    refine LWo.guardY (t := 6) rfl h3 rfl rfl ?_
    refine LWo.vcall rfl rfl (c_slices_ContainsFunc_Limpl_Value_impl_Value _ _ f_impl_RowOk_1 [] (fun _ => rfl) (fun b0_ v hv => c_impl_RowOk_1 b0_  v hv) _ e4) (.same (.same (.nil))) (hn := ?_)
    refine LWo.guardY (t := 6) rfl h3 rfl rfl ?_
    refine LWo.not rfl (hn := ?_)
    refine LWo.pickTM (e_bool (!x4)) rfl h3 rfl (hn := ?_)
    refine LWo.assign (e_bool (!x4)) rfl (hn := ?_)
    refine LWo.nil (hN2 (!x4) _ ⟨rfl, trivial⟩ trivial h)
   ·have h := bF h3 h
    refine LWo.guardNU (t := 6) rfl h3 rfl rfl rfl rfl rfl ?_
    refine LWo.guardNU (t := 6) rfl h3 rfl rfl rfl rfl rfl ?_
    refine LWo.guardNU (t := 6) rfl h3 rfl rfl rfl rfl rfl ?_
    refine LWo.pickFM (e_bool false) rfl h3 rfl (hn := ?_)
    refine LWo.assign (e_bool false) rfl (hn := ?_)
    refine LWo.nil (hN2 false _ ⟨rfl, trivial⟩ trivial h)

def m_impl_VersionsOk_j4 (t0 : (List S_impl_Version)) : Option Bool :=
  some (decide ((t0.length : Int) ≤ (60 : Int)))
def m_impl_VersionsOk_j3 (k1 : (List S_impl_Version) → (List S_impl_Version) → Int → Int → Option Bool) (t0 : (List S_impl_Version)) (t6 : (List S_impl_Version)) (t7 : Int) (t8 : Int) : Option Bool :=
  (ckI (t8 + (1 : Int))).bind fun x41 =>
  k1 t0 t6 t7 x41
def m_impl_VersionsOk_j2 (k1 : (List S_impl_Version) → (List S_impl_Version) → Int → Int → Option Bool) (t0 : (List S_impl_Version)) (t6 : (List S_impl_Version)) (t7 : Int) (t8 : Int) (t80 : Bool) : Option Bool :=
  bif t80 then (some false)
  else (m_impl_VersionsOk_j3  k1 t0 t6 t7 t8)
def m_impl_VersionsOk_j1 (k1 : (List S_impl_Version) → (List S_impl_Version) → Int → Int → Option Bool) (t0 : (List S_impl_Version)) (t3 : Int) (t6 : (List S_impl_Version)) (t7 : Int) (t8 : Int) (t42 : Bool) (o4 : S_impl_Version) : Option Bool :=
  bif t42 then (some false)
  else (bif (t3 == (0 : Int)) then (m_impl_VersionsOk_j3  k1 t0 t6 t7 t8)
  else ((ckI (t3 - (1 : Int))).bind fun x31 =>
  (at? t0 x31).bind fun x32 =>
  lt (x32) fun y33 =>
  bif decide (y33.Key > o4.Key) then (m_impl_VersionsOk_j2  k1 t0 t6 t7 t8 true)
  else (bif (y33.Key == o4.Key) then (bif decide (y33.Born ≥ o4.Born) then (m_impl_VersionsOk_j2  k1 t0 t6 t7 t8 true)
    else (bif (y33.Died == (0 : Int)) then (m_impl_VersionsOk_j2  k1 t0 t6 t7 t8 true)
      else (m_impl_VersionsOk_j2  k1 t0 t6 t7 t8 (decide (y33.Died > o4.Born)))))
  else (m_impl_VersionsOk_j2  k1 t0 t6 t7 t8 false))))
def m_impl_VersionsOk_l1 : Nat → (List S_impl_Version) → (List S_impl_Version) → Int → Int → Option Bool
  | 0, _, _, _, _ => none
  | n1 + 1, t0, t6, t7, t8 =>
    bif decide (t8 < t7) then ((at? t6 t8).bind fun x11 =>
    lt (x11) fun y12 =>
    (m_impl_keyOk y12.Key).bind fun x15 =>
    bif (!x15) then (m_impl_VersionsOk_j1  (m_impl_VersionsOk_l1  n1) t0 t8 t6 t7 t8 true y12)
    else ((m_impl_between y12.Born (1 : Int) (40 : Int)).bind fun x17 =>
      bif (!x17) then (m_impl_VersionsOk_j1  (m_impl_VersionsOk_l1  n1) t0 t8 t6 t7 t8 true y12)
      else (bif (y12.Died != (0 : Int)) then ((ckI (y12.Born + (1 : Int))).bind fun x20 =>
          (m_impl_between y12.Died x20 (40 : Int)).bind fun x21 =>
          bif (!x21) then (m_impl_VersionsOk_j1  (m_impl_VersionsOk_l1  n1) t0 t8 t6 t7 t8 true y12)
          else ((m_impl_RowOk y12.Row).bind fun x23 =>
            m_impl_VersionsOk_j1  (m_impl_VersionsOk_l1  n1) t0 t8 t6 t7 t8 (!x23) y12))
        else ((m_impl_RowOk y12.Row).bind fun x24 =>
          m_impl_VersionsOk_j1  (m_impl_VersionsOk_l1  n1) t0 t8 t6 t7 t8 (!x24) y12))))
    else (m_impl_VersionsOk_j4  t0)
def m_impl_VersionsOk (a0 : (List S_impl_Version)) : Option Bool :=
  m_impl_VersionsOk_l1  (((a0.length : Int) - (0 : Int)).toNat + 1) a0 a0 (a0.length : Int) (0 : Int)
theorem c_impl_VersionsOk (a0 : (List S_impl_Version)) (r : Bool) (h : m_impl_VersionsOk a0 = some r) : Ret Try.prog f_impl_VersionsOk [e_Limpl_Version a0] (e_bool r) := by
  refine Does.goG [] F_impl_VersionsOk rfl e_impl_VersionsOk n_impl_VersionsOk rfl (rvs := [.tmp 2]) rfl rfl ?_
  intro w0 ok0 lent ρ0
  refine LWP.seq_k fun N1 hN1 => ?_
  refine LWP.region (l := [_]) ?_
  refine LWo.assign (e_bool false) rfl (hn := ?_)
  refine LWo.nil (hN1 _ ?_)
  refine LWP.join (α := (List S_impl_Version)) (fun z : (List S_impl_Version) => [(0, (e_Limpl_Version z))]) (fun z : (List S_impl_Version) => []) (fun z : (List S_impl_Version) => m_impl_VersionsOk_j4  z) r (fun _ => by simp [hkeys]) ?_ ?_
  ·rintro t0 h
   replace h : m_impl_VersionsOk_j4  t0 = some _ := h
   refine LWP.seq_k fun N42 hN42 => ?_
   refine LWP.region (l := [_,_,_,_]) ?_
   refine LWo.move (e_Limpl_Version t0) rfl (hn := ?_)
   refine LWo.lenM (f := e_impl_Version) (l := t0) u_Limpl_Version rfl (hn := ?_)
   refine LWo.int _ rfl rfl rfl (hn := ?_)
   refine LWo.assign (e_bool (decide ((t0.length : Int) ≤ (60 : Int)))) rfl (hn := ?_)
   refine LWo.nil (hN42 _ ?_)
   obtain rfl := Option.some.inj h
   refine LWP.ret (QG.mk (.inr rfl) (.cons (.tmp (x := (e_bool (decide ((t0.length : Int) ≤ (60 : Int))))) rfl) (.nil)) (RetOK.one0 (.pure rfl) (by decide)) rfl rfl)
  ·intro N2 hN2
   refine LWP.seq_k fun N3 hN3 => ?_
   refine LWP.region (l := [_,_,_]) ?_
   refine LWo.move (e_Limpl_Version a0) rfl (hn := ?_)
   refine LWo.lenM (f := e_impl_Version) (l := a0) u_Limpl_Version rfl (hn := ?_)
   refine LWo.move (e_int (0 : Int)) rfl (hn := ?_)
   refine LWo.nil (hN3 _ ?_)
   refine LWP.block ?_
   refine LWP.loopM (α := (List S_impl_Version) × (List S_impl_Version) × Int × Int) (fun z : (List S_impl_Version) × (List S_impl_Version) × Int × Int => [(0, (e_Limpl_Version z.1)), (6, (e_Limpl_Version z.2.1)), (7, (e_int z.2.2.1)), (8, (e_int z.2.2.2))]) (fun z : (List S_impl_Version) × (List S_impl_Version) × Int × Int => []) (fun n1 (z : (List S_impl_Version) × (List S_impl_Version) × Int × Int) => m_impl_VersionsOk_l1  n1 z.1 z.2.1 z.2.2.1 z.2.2.2) r _ (a0, a0, (a0.length : Int), (0 : Int)) h (fun _ => rfl) (fun _ => by simp [hkeys]) ⟨rfl, rfl, rfl, rfl, trivial⟩ trivial ?_
   rintro n1 ⟨t0, t6, t7, t8⟩ h N4 hN4
   replace h : m_impl_VersionsOk_l1  (n1 + 1) t0 t6 t7 t8 = some _ := h
   refine LWP.seq_k fun N6 hN6 => ?_
   refine LWP.region (l := [_]) ?_
   refine LWo.int _ rfl rfl rfl (hn := ?_)
   refine LWo.nil (hN6 _ ?_)
   refine LWP.seq_k fun N7 hN7 => ?_
   refine LWP.cond_split rfl (fun h8 => ?_) (fun h8 => ?_)
   ·have h := bT h8 h
    refine LWP.skip (hN7 _ ?_)
    refine LWP.join (α := (List S_impl_Version) × (List S_impl_Version) × Int × Int) (fun z : (List S_impl_Version) × (List S_impl_Version) × Int × Int => [(0, (e_Limpl_Version z.1)), (6, (e_Limpl_Version z.2.1)), (7, (e_int z.2.2.1)), (8, (e_int z.2.2.2))]) (fun z : (List S_impl_Version) × (List S_impl_Version) × Int × Int => []) (fun z : (List S_impl_Version) × (List S_impl_Version) × Int × Int => m_impl_VersionsOk_j3  (m_impl_VersionsOk_l1  n1) z.1 z.2.1 z.2.2.1 z.2.2.2) r (fun _ => by simp [hkeys]) ?_ ?_
    ·rintro ⟨t0, t6, t7, t8⟩ h
     replace h : m_impl_VersionsOk_j3  (m_impl_VersionsOk_l1  n1) t0 t6 t7 t8 = some _ := h
     refine LWP.region (l := [_,_]) ?_
     refine bk h fun x41 e41 h => ?_
     refine LWo.int _ rfl rfl (add_ck e41) (hn := ?_)
     refine LWo.move (e_int x41) rfl (hn := ?_)
     refine LWo.nil (hN4 (t0, t6, t7, x41) _ ⟨rfl, rfl, rfl, rfl, trivial⟩ trivial h)
    ·intro N9 hN9
     refine LWP.block ?_
     refine LWP.seq_k fun N10 hN10 => ?_
     refine LWP.region (l := [_,_,_,_,_,_]) ?_
     refine LWo.move (e_int t8) rfl (hn := ?_)
     refine bk h fun x11 e11 h => ?_
     refine LWo.indexM (f := e_impl_Version) e11 u_Limpl_Version s_impl_Version rfl rfl (hn := ?_)
     refine LWo.loadN ((e_impl_Version x11)).cells g_impl_Version s_impl_Version rfl (Nat.le_of_ble_eq_true rfl) rfl (hn := ?_)
     refine LWo.alloc_impl_Version 4 rfl (hn := ?_)
     refine LWo.assign (e_int t8) rfl (hn := ?_)
     refine lk h fun y12 e12 h => ?_
     refine LWo.storeW (y := (⟨(0 : Int), (0 : Int), (0 : Int), []⟩ : S_impl_Version)) y12 s_impl_Version rfl rfl rfl rfl rfl rfl (by rw [e12]; exact .refl) rfl (hn := ?_)
     refine LWo.nil (hN10 _ ?_)
     refine LWP.seq_k fun N13 hN13 => ?_
     refine LWP.join (α := (List S_impl_Version) × Int × (List S_impl_Version) × Int × Int × Bool × S_impl_Version) (fun z : (List S_impl_Version) × Int × (List S_impl_Version) × Int × Int × Bool × S_impl_Version => [(0, (e_Limpl_Version z.1)), (3, (e_int z.2.1)), (4, (.ptr 4 0 0)), (6, (e_Limpl_Version z.2.2.1)), (7, (e_int z.2.2.2.1)), (8, (e_int z.2.2.2.2.1)), (42, (e_bool z.2.2.2.2.2.1))]) (fun z : (List S_impl_Version) × Int × (List S_impl_Version) × Int × Int × Bool × S_impl_Version => [(4, (vob 4 e_impl_Version z.2.2.2.2.2.2))]) (fun z : (List S_impl_Version) × Int × (List S_impl_Version) × Int × Int × Bool × S_impl_Version => m_impl_VersionsOk_j1  (m_impl_VersionsOk_l1  n1) z.1 z.2.1 z.2.2.1 z.2.2.2.1 z.2.2.2.2.1 z.2.2.2.2.2.1 z.2.2.2.2.2.2) r (fun _ => by simp [hkeys]) ?_ ?_
     ·rintro ⟨t0, t3, t6, t7, t8, t42, o4⟩ h
      replace h : m_impl_VersionsOk_j1  (m_impl_VersionsOk_l1  n1) t0 t3 t6 t7 t8 t42 o4 = some _ := h
      refine LWP.cond_split rfl (fun h25 => ?_) (fun h25 => ?_)
      ·have h := bT h25 h
       refine LWP.seq_k fun N26 hN26 => ?_
       refine LWP.region (l := [_]) ?_
       refine LWo.assign (e_bool false) rfl (hn := ?_)
       refine LWo.nil (hN26 _ ?_)
       obtain rfl := Option.some.inj h
       refine LWP.ret (QG.mk (.inr rfl) (.cons (.tmp (x := (e_bool false)) rfl) (.nil)) (RetOK.one0 (.pure rfl) (by decide)) rfl rfl)
      ·have h := bF h25 h
       refine LWP.skip (hN13 _ ?_)
       refine LWP.seq_k fun N27 hN27 => ?_
       refine LWP.seq_k fun N28 hN28 => ?_
       refine LWP.region (l := [_,_]) ?_
       refine LWo.move (e_int t3) rfl (hn := ?_)
       refine LWo.int _ rfl rfl rfl (hn := ?_)
       refine LWo.nil (hN28 _ ?_)
       refine LWP.cond_split rfl (fun h29 => ?_) (fun h29 => ?_)
       ·have h := bT h29 h
        refine LWP.exit (hN9 (t0, t6, t7, t8) _ ⟨rfl, rfl, rfl, rfl, trivial⟩ trivial h)
       ·have h := bF h29 h
        refine LWP.skip (hN27 _ ?_)
        refine LWP.seq_k fun N30 hN30 => ?_
        refine LWP.region (l := [_,_,_,_,_,_,_]) ?_
        refine LWo.move (e_Limpl_Version t0) rfl (hn := ?_)
        refine LWo.move (e_int t3) rfl (hn := ?_)
        refine bk h fun x31 e31 h => ?_
        refine LWo.int _ rfl rfl (sub_ck e31) (hn := ?_)
        refine bk h fun x32 e32 h => ?_
        refine LWo.indexM (f := e_impl_Version) e32 u_Limpl_Version s_impl_Version rfl rfl (hn := ?_)
        refine LWo.loadN ((e_impl_Version x32)).cells g_impl_Version s_impl_Version rfl (Nat.le_of_ble_eq_true rfl) rfl (hn := ?_)
        refine LWo.alloc_impl_Version 5 rfl (hn := ?_)
        refine lk h fun y33 e33 h => ?_
        refine LWo.storeW (y := (⟨(0 : Int), (0 : Int), (0 : Int), []⟩ : S_impl_Version)) y33 s_impl_Version rfl rfl rfl rfl rfl rfl (by rw [e33]; exact .refl) rfl (hn := ?_)
        refine LWo.nil (hN30 _ ?_)
        refine LWP.join (α := (List S_impl_Version) × (List S_impl_Version) × Int × Int × Bool) (fun z : (List S_impl_Version) × (List S_impl_Version) × Int × Int × Bool => [(0, (e_Limpl_Version z.1)), (6, (e_Limpl_Version z.2.1)), (7, (e_int z.2.2.1)), (8, (e_int z.2.2.2.1)), (80, (e_bool z.2.2.2.2))]) (fun z : (List S_impl_Version) × (List S_impl_Version) × Int × Int × Bool => []) (fun z : (List S_impl_Version) × (List S_impl_Version) × Int × Int × Bool => m_impl_VersionsOk_j2  (m_impl_VersionsOk_l1  n1) z.1 z.2.1 z.2.2.1 z.2.2.2.1 z.2.2.2.2) r (fun _ => by simp [hkeys]) ?_ ?_
        ·rintro ⟨t0, t6, t7, t8, t80⟩ h
         replace h : m_impl_VersionsOk_j2  (m_impl_VersionsOk_l1  n1) t0 t6 t7 t8 t80 = some _ := h
         refine LWP.cond_split rfl (fun h39 => ?_) (fun h39 => ?_)
         ·have h := bT h39 h
          refine LWP.seq_k fun N40 hN40 => ?_
          refine LWP.region (l := [_]) ?_
          refine LWo.assign (e_bool false) rfl (hn := ?_)
          refine LWo.nil (hN40 _ ?_)
          obtain rfl := Option.some.inj h
          refine LWP.ret (QG.mk (.inr rfl) (.cons (.tmp (x := (e_bool false)) rfl) (.nil)) (RetOK.one0 (.pure rfl) (by decide)) rfl rfl)
         ·have h := bF h39 h
          refine LWP.skip (hN9 (t0, t6, t7, t8) _ ⟨rfl, rfl, rfl, rfl, trivial⟩ trivial h)
        ·intro N34 hN34
         refine LWP.region (l := [_,_,_,_,_,_,_,_,_,_,_,_,_,_,_,_,_,_,_,_,_,_,_,_,_,_,_,_,_,_,_]) ?_
         refine LWo.fieldPtr u_impl_Version rfl s_int rfl rfl (hn := ?_)
         refine LWo.loadV1 (e_int y33.Key)  g_int rfl rfl rfl (hn := ?_)
         refine LWo.fieldPtr u_impl_Version rfl s_int rfl rfl (hn := ?_)
         refine LWo.loadV1 (e_int o4.Key)  g_int rfl rfl rfl (hn := ?_)
         refine LWo.int _ rfl rfl rfl (hn := ?_)
         refine LWo.move (e_bool (decide (y33.Key > o4.Key))) rfl (hn := ?_)
         refine LWo.byCases (t := 55) _ rfl (fun h35 => ?_) (fun h35 => ?_)
         ·have h := bT h35 h
          refine LWo.guardNU (t := 55) rfl h35 rfl rfl rfl rfl rfl ?_
          refine LWo.guardNU (t := 55) rfl h35 rfl rfl rfl rfl rfl ?_
          refine LWo.guardNU (t := 55) rfl h35 rfl rfl rfl rfl rfl ?_
          refine LWo.guardNU (t := 55) rfl h35 rfl rfl rfl rfl rfl ?_
          refine LWo.guardNU (t := 55) rfl h35 rfl rfl rfl rfl rfl ?_
          refine LWo.guardNU (t := 55) rfl h35 rfl rfl rfl rfl rfl ?_
          refine LWo.guardU (t := 61) rfl rfl rfl rfl rfl ?_
          refine LWo.guardU (t := 61) rfl rfl rfl rfl rfl ?_
          refine LWo.guardU (t := 61) rfl rfl rfl rfl rfl ?_
          refine LWo.guardU (t := 61) rfl rfl rfl rfl rfl ?_
          refine LWo.guardU (t := 61) rfl rfl rfl rfl rfl ?_
          refine LWo.guardU (t := 61) rfl rfl rfl rfl rfl ?_
          refine LWo.guardU (t := 67) rfl rfl rfl rfl rfl ?_
          refine LWo.guardU (t := 67) rfl rfl rfl rfl rfl ?_
          refine LWo.guardU (t := 67) rfl rfl rfl rfl rfl ?_
          refine LWo.guardU (t := 61) rfl rfl rfl rfl rfl ?_
          refine LWo.guardU (t := 61) rfl rfl rfl rfl rfl ?_
          refine LWo.guardU (t := 72) rfl rfl rfl rfl rfl ?_
          refine LWo.guardU (t := 72) rfl rfl rfl rfl rfl ?_
          refine LWo.guardU (t := 72) rfl rfl rfl rfl rfl ?_
          refine LWo.guardU (t := 72) rfl rfl rfl rfl rfl ?_
          refine LWo.guardU (t := 72) rfl rfl rfl rfl rfl ?_
          refine LWo.guardU (t := 61) rfl rfl rfl rfl rfl ?_
          refine LWo.guardNU (t := 55) rfl h35 rfl rfl rfl rfl rfl ?_
          refine LWo.pickTM (e_bool true) rfl h35 rfl (hn := ?_)
          refine LWo.nil (hN34 (t0, t6, t7, t8, true) _ ⟨rfl, rfl, rfl, rfl, rfl, trivial⟩ trivial h)
         ·have h := bF h35 h
          refine LWo.guardY (t := 55) rfl h35 rfl rfl ?_
          refine LWo.fieldPtr u_impl_Version rfl s_int rfl rfl (hn := ?_)
          refine LWo.guardY (t := 55) rfl h35 rfl rfl ?_
          refine LWo.loadV1 (e_int y33.Key)  g_int rfl rfl rfl (hn := ?_)
          refine LWo.guardY (t := 55) rfl h35 rfl rfl ?_
          refine LWo.fieldPtr u_impl_Version rfl s_int rfl rfl (hn := ?_)
          refine LWo.guardY (t := 55) rfl h35 rfl rfl ?_
          refine LWo.loadV1 (e_int o4.Key)  g_int rfl rfl rfl (hn := ?_)
          refine LWo.guardY (t := 55) rfl h35 rfl rfl ?_
          refine LWo.int _ rfl rfl rfl (hn := ?_)
          refine LWo.guardY (t := 55) rfl h35 rfl rfl ?_
          refine LWo.move (e_bool (y33.Key == o4.Key)) rfl (hn := ?_)
          refine LWo.byCases (t := 61) _ rfl (fun h36 => ?_) (fun h36 => ?_)
          ·have h := bT h36 h
           refine LWo.guardY (t := 61) rfl h36 rfl rfl ?_
           refine LWo.fieldPtr u_impl_Version rfl s_int rfl rfl (hn := ?_)
           refine LWo.guardY (t := 61) rfl h36 rfl rfl ?_
           refine LWo.loadV1 (e_int y33.Born)  g_int rfl rfl rfl (hn := ?_)
           refine LWo.guardY (t := 61) rfl h36 rfl rfl ?_
           refine LWo.fieldPtr u_impl_Version rfl s_int rfl rfl (hn := ?_)
           refine LWo.guardY (t := 61) rfl h36 rfl rfl ?_
           refine LWo.loadV1 (e_int o4.Born)  g_int rfl rfl rfl (hn := ?_)
           refine LWo.guardY (t := 61) rfl h36 rfl rfl ?_
           refine LWo.int _ rfl rfl rfl (hn := ?_)
           refine LWo.guardY (t := 61) rfl h36 rfl rfl ?_
           refine LWo.move (e_bool (decide (y33.Born ≥ o4.Born))) rfl (hn := ?_)
           refine LWo.byCases (t := 67) _ rfl (fun h37 => ?_) (fun h37 => ?_)
           ·have h := bT h37 h
            refine LWo.guardNU (t := 67) rfl h37 rfl rfl rfl rfl rfl ?_
            refine LWo.guardNU (t := 67) rfl h37 rfl rfl rfl rfl rfl ?_
            refine LWo.guardNU (t := 67) rfl h37 rfl rfl rfl rfl rfl ?_
            refine LWo.guardY (t := 61) rfl h36 rfl rfl ?_
            refine LWo.pickTM (e_bool true) rfl h37 rfl (hn := ?_)
            refine LWo.guardY (t := 61) rfl h36 rfl rfl ?_
            refine LWo.move (e_bool true) rfl (hn := ?_)
            refine LWo.guardNU (t := 72) rfl rfl rfl rfl rfl rfl rfl ?_
            refine LWo.guardNU (t := 72) rfl rfl rfl rfl rfl rfl rfl ?_
            refine LWo.guardNU (t := 72) rfl rfl rfl rfl rfl rfl rfl ?_
            refine LWo.guardNU (t := 72) rfl rfl rfl rfl rfl rfl rfl ?_
            refine LWo.guardNU (t := 72) rfl rfl rfl rfl rfl rfl rfl ?_
            refine LWo.guardY (t := 61) rfl h36 rfl rfl ?_
            refine LWo.pickTM (e_bool true) rfl rfl rfl (hn := ?_)
            refine LWo.guardY (t := 55) rfl h35 rfl rfl ?_
            refine LWo.pickTM (e_bool true) rfl h36 rfl (hn := ?_)
            refine LWo.pickFM (e_bool true) rfl h35 rfl (hn := ?_)
            refine LWo.nil (hN34 (t0, t6, t7, t8, true) _ ⟨rfl, rfl, rfl, rfl, rfl, trivial⟩ trivial h)
           ·have h := bF h37 h
            refine LWo.guardY (t := 67) rfl h37 rfl rfl ?_
            refine LWo.fieldPtr u_impl_Version rfl s_int rfl rfl (hn := ?_)
            refine LWo.guardY (t := 67) rfl h37 rfl rfl ?_
            refine LWo.loadV1 (e_int y33.Died)  g_int rfl rfl rfl (hn := ?_)
            refine LWo.guardY (t := 67) rfl h37 rfl rfl ?_
            refine LWo.int _ rfl rfl rfl (hn := ?_)
            refine LWo.guardY (t := 61) rfl h36 rfl rfl ?_
            refine LWo.pickFM (e_bool (y33.Died == (0 : Int))) rfl h37 rfl (hn := ?_)
            refine LWo.guardY (t := 61) rfl h36 rfl rfl ?_
            refine LWo.move (e_bool (y33.Died == (0 : Int))) rfl (hn := ?_)
            refine LWo.byCases (t := 72) _ rfl (fun h38 => ?_) (fun h38 => ?_)
            ·have h := bT h38 h
             refine LWo.guardNU (t := 72) rfl h38 rfl rfl rfl rfl rfl ?_
             refine LWo.guardNU (t := 72) rfl h38 rfl rfl rfl rfl rfl ?_
             refine LWo.guardNU (t := 72) rfl h38 rfl rfl rfl rfl rfl ?_
             refine LWo.guardNU (t := 72) rfl h38 rfl rfl rfl rfl rfl ?_
             refine LWo.guardNU (t := 72) rfl h38 rfl rfl rfl rfl rfl ?_
             refine LWo.guardY (t := 61) rfl h36 rfl rfl ?_
             refine LWo.pickTM (e_bool true) rfl h38 rfl (hn := ?_)
             refine LWo.guardY (t := 55) rfl h35 rfl rfl ?_
             refine LWo.pickTM (e_bool true) rfl h36 rfl (hn := ?_)
             refine LWo.pickFM (e_bool true) rfl h35 rfl (hn := ?_)
             refine LWo.nil (hN34 (t0, t6, t7, t8, true) _ ⟨rfl, rfl, rfl, rfl, rfl, trivial⟩ trivial h)
            ·have h := bF h38 h
             refine LWo.guardY (t := 72) rfl h38 rfl rfl ?_
             refine LWo.fieldPtr u_impl_Version rfl s_int rfl rfl (hn := ?_)
             refine LWo.guardY (t := 72) rfl h38 rfl rfl ?_
             refine LWo.loadV1 (e_int y33.Died)  g_int rfl rfl rfl (hn := ?_)
             refine LWo.guardY (t := 72) rfl h38 rfl rfl ?_
             refine LWo.fieldPtr u_impl_Version rfl s_int rfl rfl (hn := ?_)
             refine LWo.guardY (t := 72) rfl h38 rfl rfl ?_
             refine LWo.loadV1 (e_int o4.Born)  g_int rfl rfl rfl (hn := ?_)
             refine LWo.guardY (t := 72) rfl h38 rfl rfl ?_
             refine LWo.int _ rfl rfl rfl (hn := ?_)
             refine LWo.guardY (t := 61) rfl h36 rfl rfl ?_
             refine LWo.pickFM (e_bool (decide (y33.Died > o4.Born))) rfl h38 rfl (hn := ?_)
             refine LWo.guardY (t := 55) rfl h35 rfl rfl ?_
             refine LWo.pickTM (e_bool (decide (y33.Died > o4.Born))) rfl h36 rfl (hn := ?_)
             refine LWo.pickFM (e_bool (decide (y33.Died > o4.Born))) rfl h35 rfl (hn := ?_)
             refine LWo.nil (hN34 (t0, t6, t7, t8, decide (y33.Died > o4.Born)) _ ⟨rfl, rfl, rfl, rfl, rfl, trivial⟩ trivial h)
          ·have h := bF h36 h
           refine LWo.guardNU (t := 61) rfl h36 rfl rfl rfl rfl rfl ?_
           refine LWo.guardNU (t := 61) rfl h36 rfl rfl rfl rfl rfl ?_
           refine LWo.guardNU (t := 61) rfl h36 rfl rfl rfl rfl rfl ?_
           refine LWo.guardNU (t := 61) rfl h36 rfl rfl rfl rfl rfl ?_
           refine LWo.guardNU (t := 61) rfl h36 rfl rfl rfl rfl rfl ?_
           refine LWo.guardNU (t := 61) rfl h36 rfl rfl rfl rfl rfl ?_
           refine LWo.guardU (t := 67) rfl rfl rfl rfl rfl ?_
           refine LWo.guardU (t := 67) rfl rfl rfl rfl rfl ?_
           refine LWo.guardU (t := 67) rfl rfl rfl rfl rfl ?_
           refine LWo.guardNU (t := 61) rfl h36 rfl rfl rfl rfl rfl ?_
           refine LWo.guardNU (t := 61) rfl h36 rfl rfl rfl rfl rfl ?_
           refine LWo.guardU (t := 72) rfl rfl rfl rfl rfl ?_
           refine LWo.guardU (t := 72) rfl rfl rfl rfl rfl ?_
           refine LWo.guardU (t := 72) rfl rfl rfl rfl rfl ?_
           refine LWo.guardU (t := 72) rfl rfl rfl rfl rfl ?_
           refine LWo.guardU (t := 72) rfl rfl rfl rfl rfl ?_
           refine LWo.guardNU (t := 61) rfl h36 rfl rfl rfl rfl rfl ?_
           refine LWo.guardY (t := 55) rfl h35 rfl rfl ?_
           refine LWo.pickFM (e_bool false) rfl h36 rfl (hn := ?_)
           refine LWo.pickFM (e_bool false) rfl h35 rfl (hn := ?_)
           refine LWo.nil (hN34 (t0, t6, t7, t8, false) _ ⟨rfl, rfl, rfl, rfl, rfl, trivial⟩ trivial h)
     ·intro N14 hN14
      refine LWP.region (l := [_,_,_,_,_,_,_,_,_,_,_,_,_,_,_,_,_,_,_,_,_,_,_,_,_,_,_,_,_,_]) ?_
      refine LWo.fieldPtr u_impl_Version rfl s_int rfl rfl (hn := ?_)
      refine LWo.loadV1 (e_int y12.Key)  g_int rfl rfl rfl (hn := ?_)
      refine bk h fun x15 e15 h => ?_
      refine LWo.vcall rfl rfl (c_impl_keyOk _ _ e15) (.same (.nil)) (hn := ?_)
      refine LWo.not rfl (hn := ?_)
      refine LWo.move (e_bool (!x15)) rfl (hn := ?_)
      refine LWo.byCases (t := 17) _ rfl (fun h16 => ?_) (fun h16 => ?_)
      ·have h := bT h16 h
       refine LWo.guardNU (t := 17) rfl h16 rfl rfl rfl rfl rfl ?_
       refine LWo.guardNU (t := 17) rfl h16 rfl rfl rfl rfl rfl ?_
       refine LWo.guardNU (t := 17) rfl h16 rfl rfl rfl rfl rfl ?_
       refine LWo.guardNU (t := 17) rfl h16 rfl rfl rfl rfl rfl ?_
       refine LWo.pickTM (e_bool true) rfl h16 rfl (hn := ?_)
       refine LWo.move (e_bool true) rfl (hn := ?_)
       refine LWo.guardNU (t := 23) rfl rfl rfl rfl rfl rfl rfl ?_
       refine LWo.guardNU (t := 23) rfl rfl rfl rfl rfl rfl rfl ?_
       refine LWo.guardNU (t := 23) rfl rfl rfl rfl rfl rfl rfl ?_
       refine LWo.guardNU (t := 23) rfl rfl rfl rfl rfl rfl rfl ?_
       refine LWo.guardU (t := 27) rfl rfl rfl rfl rfl ?_
       refine LWo.guardU (t := 27) rfl rfl rfl rfl rfl ?_
       refine LWo.guardU (t := 27) rfl rfl rfl rfl rfl ?_
       refine LWo.guardU (t := 27) rfl rfl rfl rfl rfl ?_
       refine LWo.guardU (t := 27) rfl rfl rfl rfl rfl ?_
       refine LWo.guardU (t := 27) rfl rfl rfl rfl rfl ?_
       refine LWo.guardU (t := 27) rfl rfl rfl rfl rfl ?_
       refine LWo.guardNU (t := 23) rfl rfl rfl rfl rfl rfl rfl ?_
       refine LWo.pickTM (e_bool true) rfl rfl rfl (hn := ?_)
       refine LWo.move (e_bool true) rfl (hn := ?_)
       refine LWo.guardNU (t := 37) rfl rfl rfl rfl rfl rfl rfl ?_
       refine LWo.guardNU (t := 37) rfl rfl rfl rfl rfl rfl rfl ?_
       refine LWo.guardNU (t := 37) rfl rfl rfl rfl rfl rfl rfl ?_
       refine LWo.guardNU (t := 37) rfl rfl rfl rfl rfl rfl rfl ?_
       refine LWo.pickTM (e_bool true) rfl rfl rfl (hn := ?_)
       refine LWo.nil (hN14 (t0, t8, t6, t7, t8, true, y12) _ ⟨rfl, rfl, rfl, rfl, rfl, rfl, rfl, trivial⟩ ⟨rfl, trivial⟩ h)
      ·have h := bF h16 h
       refine LWo.guardY (t := 17) rfl h16 rfl rfl ?_
       refine LWo.fieldPtr u_impl_Version rfl s_int rfl rfl (hn := ?_)
       refine LWo.guardY (t := 17) rfl h16 rfl rfl ?_
       refine LWo.loadV1 (e_int y12.Born)  g_int rfl rfl rfl (hn := ?_)
       refine bk h fun x17 e17 h => ?_
       refine LWo.guardY (t := 17) rfl h16 rfl rfl ?_
       refine LWo.vcall rfl rfl (c_impl_between _ _ _ _ e17) (.same (.same (.same (.nil)))) (hn := ?_)
       refine LWo.guardY (t := 17) rfl h16 rfl rfl ?_
       refine LWo.not rfl (hn := ?_)
       refine LWo.pickFM (e_bool (!x17)) rfl h16 rfl (hn := ?_)
       refine LWo.move (e_bool (!x17)) rfl (hn := ?_)
       refine LWo.byCases (t := 23) _ rfl (fun h18 => ?_) (fun h18 => ?_)
       ·have h := bT h18 h
        refine LWo.guardNU (t := 23) rfl h18 rfl rfl rfl rfl rfl ?_
        refine LWo.guardNU (t := 23) rfl h18 rfl rfl rfl rfl rfl ?_
        refine LWo.guardNU (t := 23) rfl h18 rfl rfl rfl rfl rfl ?_
        refine LWo.guardNU (t := 23) rfl h18 rfl rfl rfl rfl rfl ?_
        refine LWo.guardU (t := 27) rfl rfl rfl rfl rfl ?_
        refine LWo.guardU (t := 27) rfl rfl rfl rfl rfl ?_
        refine LWo.guardU (t := 27) rfl rfl rfl rfl rfl ?_
        refine LWo.guardU (t := 27) rfl rfl rfl rfl rfl ?_
        refine LWo.guardU (t := 27) rfl rfl rfl rfl rfl ?_
        refine LWo.guardU (t := 27) rfl rfl rfl rfl rfl ?_
        refine LWo.guardU (t := 27) rfl rfl rfl rfl rfl ?_
        refine LWo.guardNU (t := 23) rfl h18 rfl rfl rfl rfl rfl ?_
        refine LWo.pickTM (e_bool true) rfl h18 rfl (hn := ?_)
        refine LWo.move (e_bool true) rfl (hn := ?_)
        refine LWo.guardNU (t := 37) rfl rfl rfl rfl rfl rfl rfl ?_
        refine LWo.guardNU (t := 37) rfl rfl rfl rfl rfl rfl rfl ?_
        refine LWo.guardNU (t := 37) rfl rfl rfl rfl rfl rfl rfl ?_
        refine LWo.guardNU (t := 37) rfl rfl rfl rfl rfl rfl rfl ?_
        refine LWo.pickTM (e_bool true) rfl rfl rfl (hn := ?_)
        refine LWo.nil (hN14 (t0, t8, t6, t7, t8, true, y12) _ ⟨rfl, rfl, rfl, rfl, rfl, rfl, rfl, trivial⟩ ⟨rfl, trivial⟩ h)
       ·have h := bF h18 h
        refine LWo.guardY (t := 23) rfl h18 rfl rfl ?_
        refine LWo.fieldPtr u_impl_Version rfl s_int rfl rfl (hn := ?_)
        refine LWo.guardY (t := 23) rfl h18 rfl rfl ?_
        refine LWo.loadV1 (e_int y12.Died)  g_int rfl rfl rfl (hn := ?_)
        refine LWo.guardY (t := 23) rfl h18 rfl rfl ?_
        refine LWo.int _ rfl rfl rfl (hn := ?_)
        refine LWo.guardY (t := 23) rfl h18 rfl rfl ?_
        refine LWo.move (e_bool (y12.Died != (0 : Int))) rfl (hn := ?_)
        refine LWo.byCases (t := 27) _ rfl (fun h19 => ?_) (fun h19 => ?_)
        ·have h := bT h19 h
         refine LWo.guardY (t := 27) rfl h19 rfl rfl ?_
         refine LWo.fieldPtr u_impl_Version rfl s_int rfl rfl (hn := ?_)
         refine LWo.guardY (t := 27) rfl h19 rfl rfl ?_
         refine LWo.loadV1 (e_int y12.Died)  g_int rfl rfl rfl (hn := ?_)
         refine LWo.guardY (t := 27) rfl h19 rfl rfl ?_
         refine LWo.fieldPtr u_impl_Version rfl s_int rfl rfl (hn := ?_)
         refine LWo.guardY (t := 27) rfl h19 rfl rfl ?_
         refine LWo.loadV1 (e_int y12.Born)  g_int rfl rfl rfl (hn := ?_)
         refine bk h fun x20 e20 h => ?_
         refine LWo.guardY (t := 27) rfl h19 rfl rfl ?_
         refine LWo.int _ rfl rfl (add_ck e20) (hn := ?_)
         refine bk h fun x21 e21 h => ?_
         refine LWo.guardY (t := 27) rfl h19 rfl rfl ?_
         refine LWo.vcall rfl rfl (c_impl_between _ _ _ _ e21) (.same (.same (.same (.nil)))) (hn := ?_)
         refine LWo.guardY (t := 27) rfl h19 rfl rfl ?_
         refine LWo.not rfl (hn := ?_)
         refine LWo.guardY (t := 23) rfl h18 rfl rfl ?_
         refine LWo.pickTM (e_bool (!x21)) rfl h19 rfl (hn := ?_)
         refine LWo.pickFM (e_bool (!x21)) rfl h18 rfl (hn := ?_)
         refine LWo.move (e_bool (!x21)) rfl (hn := ?_)
         refine LWo.byCases (t := 37) _ rfl (fun h22 => ?_) (fun h22 => ?_)
         ·have h := bT h22 h
          refine LWo.guardNU (t := 37) rfl h22 rfl rfl rfl rfl rfl ?_
          refine LWo.guardNU (t := 37) rfl h22 rfl rfl rfl rfl rfl ?_
          refine LWo.guardNU (t := 37) rfl h22 rfl rfl rfl rfl rfl ?_
          refine LWo.guardNU (t := 37) rfl h22 rfl rfl rfl rfl rfl ?_
          refine LWo.pickTM (e_bool true) rfl h22 rfl (hn := ?_)
          refine LWo.nil (hN14 (t0, t8, t6, t7, t8, true, y12) _ ⟨rfl, rfl, rfl, rfl, rfl, rfl, rfl, trivial⟩ ⟨rfl, trivial⟩ h)
         ·have h := bF h22 h
          refine LWo.guardY (t := 37) rfl h22 rfl rfl ?_
          refine LWo.fieldPtr u_impl_Version rfl s_Limpl_Value rfl rfl (hn := ?_)
          refine LWo.guardY (t := 37) rfl h22 rfl rfl ?_
          refine LWo.loadV1 (e_Limpl_Value y12.Row)  g_Limpl_Value rfl rfl rfl (hn := ?_)
          refine bk h fun x23 e23 h => ?_
          refine LWo.guardY (t := 37) rfl h22 rfl rfl ?_
          refine LWo.vcall rfl rfl (c_impl_RowOk _ _ e23) (.same (.nil)) (hn := ?_)
          refine LWo.guardY (t := 37) rfl h22 rfl rfl ?_
          refine LWo.not rfl (hn := ?_)
          refine LWo.pickFM (e_bool (!x23)) rfl h22 rfl (hn := ?_)
          refine LWo.nil (hN14 (t0, t8, t6, t7, t8, (!x23), y12) _ ⟨rfl, rfl, rfl, rfl, rfl, rfl, rfl, trivial⟩ ⟨rfl, trivial⟩ h)
        ·have h := bF h19 h
         refine LWo.guardNU (t := 27) rfl h19 rfl rfl rfl rfl rfl ?_
         refine LWo.guardNU (t := 27) rfl h19 rfl rfl rfl rfl rfl ?_
         refine LWo.guardNU (t := 27) rfl h19 rfl rfl rfl rfl rfl ?_
         refine LWo.guardNU (t := 27) rfl h19 rfl rfl rfl rfl rfl ?_
         refine LWo.guardNU (t := 27) rfl h19 rfl rfl rfl rfl rfl ?_
         refine LWo.guardNU (t := 27) rfl h19 rfl rfl rfl rfl rfl ?_
         refine LWo.guardNU (t := 27) rfl h19 rfl rfl rfl rfl rfl ?_
         refine LWo.guardY (t := 23) rfl h18 rfl rfl ?_
         refine LWo.pickFM (e_bool false) rfl h19 rfl (hn := ?_)
         refine LWo.pickFM (e_bool false) rfl h18 rfl (hn := ?_)
         refine LWo.move (e_bool false) rfl (hn := ?_)
         refine LWo.guardY (t := 37) rfl rfl rfl rfl ?_
         refine LWo.fieldPtr u_impl_Version rfl s_Limpl_Value rfl rfl (hn := ?_)
         refine LWo.guardY (t := 37) rfl rfl rfl rfl ?_
         refine LWo.loadV1 (e_Limpl_Value y12.Row)  g_Limpl_Value rfl rfl rfl (hn := ?_)
         refine bk h fun x24 e24 h => ?_
         refine LWo.guardY (t := 37) rfl rfl rfl rfl ?_
         refine LWo.vcall rfl rfl (c_impl_RowOk _ _ e24) (.same (.nil)) (hn := ?_)
         refine LWo.guardY (t := 37) rfl rfl rfl rfl ?_
         refine LWo.not rfl (hn := ?_)
         refine LWo.pickFM (e_bool (!x24)) rfl rfl rfl (hn := ?_)
         refine LWo.nil (hN14 (t0, t8, t6, t7, t8, (!x24), y12) _ ⟨rfl, rfl, rfl, rfl, rfl, rfl, rfl, trivial⟩ ⟨rfl, trivial⟩ h)
   ·have h := bF h8 h
    refine LWP.exit (hN2 t0 _ ⟨rfl, trivial⟩ trivial h)

def m_impl_WritesOk_j2 (t0 : (List S_impl_Write)) : Option Bool :=
  some (decide ((t0.length : Int) ≤ (5 : Int)))
def m_impl_WritesOk_j1 (k1 : (List S_impl_Write) → (List S_impl_Write) → Int → Int → Option Bool) (t0 : (List S_impl_Write)) (t5 : (List S_impl_Write)) (t6 : Int) (t7 : Int) (t46 : Bool) : Option Bool :=
  bif t46 then (some false)
  else ((ckI (t7 + (1 : Int))).bind fun x28 =>
  k1 t0 t5 t6 x28)
def m_impl_WritesOk_l1 : Nat → (List S_impl_Write) → (List S_impl_Write) → Int → Int → Option Bool
  | 0, _, _, _, _ => none
  | n1 + 1, t0, t5, t6, t7 =>
    bif decide (t7 < t6) then ((at? t5 t7).bind fun x11 =>
    lt (x11) fun y12 =>
    (m_impl_keyOk y12.Key).bind fun x14 =>
    bif (!x14) then (m_impl_WritesOk_j1  (m_impl_WritesOk_l1  n1) t0 t5 t6 t7 true)
    else ((m_impl_RowOk y12.Row).bind fun x16 =>
      bif (!x16) then (m_impl_WritesOk_j1  (m_impl_WritesOk_l1  n1) t0 t5 t6 t7 true)
      else (bif y12.Gone then (bif decide ((y12.Row.length : Int) > (0 : Int)) then (m_impl_WritesOk_j1  (m_impl_WritesOk_l1  n1) t0 t5 t6 t7 true)
          else (bif decide (t7 > (0 : Int)) then ((ckI (t7 - (1 : Int))).bind fun x21 =>
              (at? t0 x21).bind fun x22 =>
              m_impl_WritesOk_j1  (m_impl_WritesOk_l1  n1) t0 t5 t6 t7 (decide (x22.Key ≥ y12.Key)))
            else (m_impl_WritesOk_j1  (m_impl_WritesOk_l1  n1) t0 t5 t6 t7 false)))
        else (bif decide (t7 > (0 : Int)) then ((ckI (t7 - (1 : Int))).bind fun x24 =>
            (at? t0 x24).bind fun x25 =>
            m_impl_WritesOk_j1  (m_impl_WritesOk_l1  n1) t0 t5 t6 t7 (decide (x25.Key ≥ y12.Key)))
          else (m_impl_WritesOk_j1  (m_impl_WritesOk_l1  n1) t0 t5 t6 t7 false)))))
    else (m_impl_WritesOk_j2  t0)
def m_impl_WritesOk (a0 : (List S_impl_Write)) : Option Bool :=
  m_impl_WritesOk_l1  (((a0.length : Int) - (0 : Int)).toNat + 1) a0 a0 (a0.length : Int) (0 : Int)
theorem c_impl_WritesOk (a0 : (List S_impl_Write)) (r : Bool) (h : m_impl_WritesOk a0 = some r) : Ret Try.prog f_impl_WritesOk [e_Limpl_Write a0] (e_bool r) := by
  refine Does.goG [] F_impl_WritesOk rfl e_impl_WritesOk n_impl_WritesOk rfl (rvs := [.tmp 2]) rfl rfl ?_
  intro w0 ok0 lent ρ0
  refine LWP.seq_k fun N1 hN1 => ?_
  refine LWP.region (l := [_]) ?_
  refine LWo.assign (e_bool false) rfl (hn := ?_)
  refine LWo.nil (hN1 _ ?_)
  refine LWP.join (α := (List S_impl_Write)) (fun z : (List S_impl_Write) => [(0, (e_Limpl_Write z))]) (fun z : (List S_impl_Write) => []) (fun z : (List S_impl_Write) => m_impl_WritesOk_j2  z) r (fun _ => by simp [hkeys]) ?_ ?_
  ·rintro t0 h
   replace h : m_impl_WritesOk_j2  t0 = some _ := h
   refine LWP.seq_k fun N29 hN29 => ?_
   refine LWP.region (l := [_,_,_,_]) ?_
   refine LWo.move (e_Limpl_Write t0) rfl (hn := ?_)
   refine LWo.lenM (f := e_impl_Write) (l := t0) u_Limpl_Write rfl (hn := ?_)
   refine LWo.int _ rfl rfl rfl (hn := ?_)
   refine LWo.assign (e_bool (decide ((t0.length : Int) ≤ (5 : Int)))) rfl (hn := ?_)
   refine LWo.nil (hN29 _ ?_)
   obtain rfl := Option.some.inj h
   refine LWP.ret (QG.mk (.inr rfl) (.cons (.tmp (x := (e_bool (decide ((t0.length : Int) ≤ (5 : Int))))) rfl) (.nil)) (RetOK.one0 (.pure rfl) (by decide)) rfl rfl)
  ·intro N2 hN2
   refine LWP.seq_k fun N3 hN3 => ?_
   refine LWP.region (l := [_,_,_]) ?_
   refine LWo.move (e_Limpl_Write a0) rfl (hn := ?_)
   refine LWo.lenM (f := e_impl_Write) (l := a0) u_Limpl_Write rfl (hn := ?_)
   refine LWo.move (e_int (0 : Int)) rfl (hn := ?_)
   refine LWo.nil (hN3 _ ?_)
   refine LWP.block ?_
   refine LWP.loopM (α := (List S_impl_Write) × (List S_impl_Write) × Int × Int) (fun z : (List S_impl_Write) × (List S_impl_Write) × Int × Int => [(0, (e_Limpl_Write z.1)), (5, (e_Limpl_Write z.2.1)), (6, (e_int z.2.2.1)), (7, (e_int z.2.2.2))]) (fun z : (List S_impl_Write) × (List S_impl_Write) × Int × Int => []) (fun n1 (z : (List S_impl_Write) × (List S_impl_Write) × Int × Int) => m_impl_WritesOk_l1  n1 z.1 z.2.1 z.2.2.1 z.2.2.2) r _ (a0, a0, (a0.length : Int), (0 : Int)) h (fun _ => rfl) (fun _ => by simp [hkeys]) ⟨rfl, rfl, rfl, rfl, trivial⟩ trivial ?_
   rintro n1 ⟨t0, t5, t6, t7⟩ h N4 hN4
   replace h : m_impl_WritesOk_l1  (n1 + 1) t0 t5 t6 t7 = some _ := h
   refine LWP.seq_k fun N6 hN6 => ?_
   refine LWP.region (l := [_]) ?_
   refine LWo.int _ rfl rfl rfl (hn := ?_)
   refine LWo.nil (hN6 _ ?_)
   refine LWP.seq_k fun N7 hN7 => ?_
   refine LWP.cond_split rfl (fun h8 => ?_) (fun h8 => ?_)
   ·have h := bT h8 h
    refine LWP.skip (hN7 _ ?_)
    refine LWP.seq_k fun N9 hN9 => ?_
    refine LWP.block ?_
    refine LWP.seq_k fun N10 hN10 => ?_
    refine LWP.region (l := [_,_,_,_,_,_]) ?_
    refine LWo.move (e_int t7) rfl (hn := ?_)
    refine bk h fun x11 e11 h => ?_
    refine LWo.indexM (f := e_impl_Write) e11 u_Limpl_Write s_impl_Write rfl rfl (hn := ?_)
    refine LWo.loadN ((e_impl_Write x11)).cells g_impl_Write s_impl_Write rfl (Nat.le_of_ble_eq_true rfl) rfl (hn := ?_)
    refine LWo.alloc_impl_Write 4 rfl (hn := ?_)
    refine LWo.assign (e_int t7) rfl (hn := ?_)
    refine lk h fun y12 e12 h => ?_
    refine LWo.storeW (y := (⟨(0 : Int), [], false⟩ : S_impl_Write)) y12 s_impl_Write rfl rfl rfl rfl rfl rfl (by rw [e12]; exact .refl) rfl (hn := ?_)
    refine LWo.nil (hN10 _ ?_)
    refine LWP.join (α := (List S_impl_Write) × (List S_impl_Write) × Int × Int × Bool) (fun z : (List S_impl_Write) × (List S_impl_Write) × Int × Int × Bool => [(0, (e_Limpl_Write z.1)), (5, (e_Limpl_Write z.2.1)), (6, (e_int z.2.2.1)), (7, (e_int z.2.2.2.1)), (46, (e_bool z.2.2.2.2))]) (fun z : (List S_impl_Write) × (List S_impl_Write) × Int × Int × Bool => []) (fun z : (List S_impl_Write) × (List S_impl_Write) × Int × Int × Bool => m_impl_WritesOk_j1  (m_impl_WritesOk_l1  n1) z.1 z.2.1 z.2.2.1 z.2.2.2.1 z.2.2.2.2) r (fun _ => by simp [hkeys]) ?_ ?_
    ·rintro ⟨t0, t5, t6, t7, t46⟩ h
     replace h : m_impl_WritesOk_j1  (m_impl_WritesOk_l1  n1) t0 t5 t6 t7 t46 = some _ := h
     refine LWP.cond_split rfl (fun h26 => ?_) (fun h26 => ?_)
     ·have h := bT h26 h
      refine LWP.seq_k fun N27 hN27 => ?_
      refine LWP.region (l := [_]) ?_
      refine LWo.assign (e_bool false) rfl (hn := ?_)
      refine LWo.nil (hN27 _ ?_)
      obtain rfl := Option.some.inj h
      refine LWP.ret (QG.mk (.inr rfl) (.cons (.tmp (x := (e_bool false)) rfl) (.nil)) (RetOK.one0 (.pure rfl) (by decide)) rfl rfl)
     ·have h := bF h26 h
      refine LWP.skip (hN9 _ ?_)
      refine LWP.region (l := [_,_]) ?_
      refine bk h fun x28 e28 h => ?_
      refine LWo.int _ rfl rfl (add_ck e28) (hn := ?_)
      refine LWo.move (e_int x28) rfl (hn := ?_)
      refine LWo.nil (hN4 (t0, t5, t6, x28) _ ⟨rfl, rfl, rfl, rfl, trivial⟩ trivial h)
    ·intro N13 hN13
     refine bk h fun x14 e14 h => ?_
     refine bS ((!x14)) (fun h15 => ?_) (fun h15 => ?_)
     ·have h := bT h15 h
      refine LWP.drawF (l := [_,_,_,_,_,_,_,_,_,_,_,_,_,_,_,_,_,_,_,_,_,_,_,_,_,_,_,_,_,_,_,_,_,_,_]) [] [0, 3, 4, 5, 6, 7] [([4], []), ([12], [4]), ([13], []), ([14], []), ([15], []), ([4, 16], []), ([16, 17], []), ([16, 18], []), ([16, 19], []), ([16, 20], []), ([21], []), ([4, 22], []), ([22, 23], []), ([22, 24], []), ([4, 25], []), ([25, 26], []), ([25, 27], []), ([25, 28], []), ([22, 25, 29], []), ([22, 30], []), ([31], []), ([3, 32], []), ([32, 33], []), ([32, 34], []), ([0, 35], []), ([3, 35], []), ([35, 37], []), ([35, 36, 38], []), ([35, 39], []), ([35, 40], []), ([4, 35], []), ([35, 42], []), ([35, 41, 43], []), ([32, 35, 44], []), ([32, 45], [])] [0, 5, 6, 7, 46] [] mixed (by kernel_rfl) rfl (by decide) ?_
      refine dq 12 rfl (fun _ g u h => LWo.fieldPtr u_impl_Write rfl s_int u.1 rfl (hn := .nil (zn g))) ?_
      refine dq 13 rfl (fun _ g u h => LWo.loadV1 (e_int y12.Key)  g_int u.1 h.1 rfl (hn := .nil (zn g))) ?_
      refine dq 14 rfl (fun _ g u h => LWo.vcall rfl (av1 u.1) (c_impl_keyOk _ _ e14) (.same (.nil)) (hn := .nil (zn g))) ?_
      refine dq 15 rfl (fun _ g u h => LWo.not u.1 (hn := .nil (zn g))) ?_
      refine dq 16 rfl (fun _ g u h => LWo.move (e_bool (!x14)) u.1 (hn := .nil (zn g))) ?_
      refine dq 17 rfl (fun _ g u h => LWo.guardNU (t := 16) u.2.1 h15 rfl rfl rfl rfl rfl (.nil (zn g))) ?_
      refine dq 18 rfl (fun _ g u h => LWo.guardNU (t := 16) u.1 h15 rfl rfl rfl rfl rfl (.nil (zn g))) ?_
      refine dq 19 rfl (fun _ g u h => LWo.guardNU (t := 16) u.1 h15 rfl rfl rfl rfl rfl (.nil (zn g))) ?_
      refine dq 20 rfl (fun _ g u h => LWo.guardNU (t := 16) u.1 h15 rfl rfl rfl rfl rfl (.nil (zn g))) ?_
      refine dq 21 rfl (fun _ g u h => LWo.pickTM (e_bool true) u.1 h15 rfl (hn := .nil (zn g))) ?_
      refine dq 22 rfl (fun _ g u h => LWo.move (e_bool true) u.1 (hn := .nil (zn g))) ?_
      refine dq 23 rfl (fun _ g u h => LWo.guardNU (t := 22) u.2.1 rfl rfl rfl rfl rfl rfl (.nil (zn g))) ?_
      refine dq 24 rfl (fun _ g u h => LWo.guardNU (t := 22) u.1 rfl rfl rfl rfl rfl rfl (.nil (zn g))) ?_
      refine dq 25 rfl (fun _ g u h => LWo.guardNU (t := 22) u.1 rfl rfl rfl rfl rfl rfl (.nil (zn g))) ?_
      refine dq 26 rfl (fun _ g u h => LWo.guardU (t := 25) u.2.1 rfl rfl rfl rfl (.nil (zn g))) ?_
      refine dq 27 rfl (fun _ g u h => LWo.guardU (t := 25) u.1 rfl rfl rfl rfl (.nil (zn g))) ?_
      refine dq 28 rfl (fun _ g u h => LWo.guardU (t := 25) u.1 rfl rfl rfl rfl (.nil (zn g))) ?_
      refine dq 29 rfl (fun _ g u h => LWo.guardU (t := 25) u.1 rfl rfl rfl rfl (.nil (zn g))) ?_
      refine dq 30 rfl (fun _ g u h => LWo.guardNU (t := 22) u.1 rfl rfl rfl rfl rfl rfl (.nil (zn g))) ?_
      refine dq 31 rfl (fun _ g u h => LWo.pickTM (e_bool true) u.1 rfl rfl (hn := .nil (zn g))) ?_
      refine dq 32 rfl (fun _ g u h => LWo.move (e_bool true) u.1 (hn := .nil (zn g))) ?_
      refine dq 33 rfl (fun _ g u h => LWo.guardNU (t := 32) u.2.1 rfl rfl rfl rfl rfl rfl (.nil (zn g))) ?_
      refine dq 34 rfl (fun _ g u h => LWo.guardNU (t := 32) u.1 rfl rfl rfl rfl rfl rfl (.nil (zn g))) ?_
      refine dq 35 rfl (fun _ g u h => LWo.guardNU (t := 32) u.1 rfl rfl rfl rfl rfl rfl (.nil (zn g))) ?_
      refine dq 36 rfl (fun _ g u h => LWo.guardU (t := 35) u.2.1 rfl rfl rfl rfl (.nil (zn g))) ?_
      refine dq 37 rfl (fun _ g u h => LWo.guardU (t := 35) u.2.1 rfl rfl rfl rfl (.nil (zn g))) ?_
      refine dq 38 rfl (fun _ g u h => LWo.guardU (t := 35) u.1 rfl rfl rfl rfl (.nil (zn g))) ?_
      refine dq 39 rfl (fun _ g u h => LWo.guardU (t := 35) u.1 rfl rfl rfl rfl (.nil (zn g))) ?_
      refine dq 40 rfl (fun _ g u h => LWo.guardU (t := 35) u.1 rfl rfl rfl rfl (.nil (zn g))) ?_
      refine dq 41 rfl (fun _ g u h => LWo.guardU (t := 35) u.1 rfl rfl rfl rfl (.nil (zn g))) ?_
      refine dq 42 rfl (fun _ g u h => LWo.guardU (t := 35) u.2.1 rfl rfl rfl rfl (.nil (zn g))) ?_
      refine dq 43 rfl (fun _ g u h => LWo.guardU (t := 35) u.1 rfl rfl rfl rfl (.nil (zn g))) ?_
      refine dq 44 rfl (fun _ g u h => LWo.guardU (t := 35) u.1 rfl rfl rfl rfl (.nil (zn g))) ?_
      refine dq 45 rfl (fun _ g u h => LWo.guardNU (t := 32) u.1 rfl rfl rfl rfl rfl rfl (.nil (zn g))) ?_
      refine dq 46 rfl (fun _ g u h => LWo.pickTM (e_bool true) u.1 rfl rfl (hn := .nil (zn g))) ?_
      refine ⟨rfl, by kernel_rfl, hN13 (t0, t5, t6, t7, true) _ ⟨rfl, rfl, rfl, rfl, rfl, trivial⟩ trivial h⟩
     ·have h := bF h15 h
      refine bk h fun x16 e16 h => ?_
      refine bS ((!x16)) (fun h17 => ?_) (fun h17 => ?_)
      ·have h := bT h17 h
       refine LWP.drawF (l := [_,_,_,_,_,_,_,_,_,_,_,_,_,_,_,_,_,_,_,_,_,_,_,_,_,_,_,_,_,_,_,_,_,_,_]) [] [0, 3, 4, 5, 6, 7] [([4], []), ([12], [4]), ([13], []), ([14], []), ([15], []), ([4, 16], []), ([16, 17], [4]), ([16, 18], []), ([16, 19], []), ([16, 20], []), ([21], []), ([4, 22], []), ([22, 23], []), ([22, 24], []), ([4, 25], []), ([25, 26], []), ([25, 27], []), ([25, 28], []), ([22, 25, 29], []), ([22, 30], []), ([31], []), ([3, 32], []), ([32, 33], []), ([32, 34], []), ([0, 35], []), ([3, 35], []), ([35, 37], []), ([35, 36, 38], []), ([35, 39], []), ([35, 40], []), ([4, 35], []), ([35, 42], []), ([35, 41, 43], []), ([32, 35, 44], []), ([32, 45], [])] [0, 5, 6, 7, 46] [] mixed (by kernel_rfl) rfl (by decide) ?_
       refine dq 12 rfl (fun _ g u h => LWo.fieldPtr u_impl_Write rfl s_int u.1 rfl (hn := .nil (zn g))) ?_
       refine dq 13 rfl (fun _ g u h => LWo.loadV1 (e_int y12.Key)  g_int u.1 h.1 rfl (hn := .nil (zn g))) ?_
       refine dq 14 rfl (fun _ g u h => LWo.vcall rfl (av1 u.1) (c_impl_keyOk _ _ e14) (.same (.nil)) (hn := .nil (zn g))) ?_
       refine dq 15 rfl (fun _ g u h => LWo.not u.1 (hn := .nil (zn g))) ?_
       refine dq 16 rfl (fun _ g u h => LWo.move (e_bool (!x14)) u.1 (hn := .nil (zn g))) ?_
       refine dq 17 rfl (fun _ g u h => LWo.guardY (t := 16) u.2.1 h15 rfl rfl (LWo.fieldPtr u_impl_Write rfl s_Limpl_Value u.1 rfl (hn := .nil (zn g)))) ?_
       refine dq 18 rfl (fun _ g u h => LWo.guardY (t := 16) u.1 h15 rfl rfl (LWo.loadV1 (e_Limpl_Value y12.Row)  g_Limpl_Value u.2.1 h.1 rfl (hn := .nil (zn g)))) ?_
       refine dq 19 rfl (fun _ g u h => LWo.guardY (t := 16) u.1 h15 rfl rfl (LWo.vcall rfl (av1 u.2.1) (c_impl_RowOk _ _ e16) (.same (.nil)) (hn := .nil (zn g)))) ?_
       refine dq 20 rfl (fun _ g u h => LWo.guardY (t := 16) u.1 h15 rfl rfl (LWo.not u.2.1 (hn := .nil (zn g)))) ?_
       refine dq 21 rfl (fun _ g u h => LWo.pickFM (e_bool (!x16)) u.1 h15 u.2.1 (hn := .nil (zn g))) ?_
       refine dq 22 rfl (fun _ g u h => LWo.move (e_bool (!x16)) u.1 (hn := .nil (zn g))) ?_
       refine dq 23 rfl (fun _ g u h => LWo.guardNU (t := 22) u.2.1 h17 rfl rfl rfl rfl rfl (.nil (zn g))) ?_
       refine dq 24 rfl (fun _ g u h => LWo.guardNU (t := 22) u.1 h17 rfl rfl rfl rfl rfl (.nil (zn g))) ?_
       refine dq 25 rfl (fun _ g u h => LWo.guardNU (t := 22) u.1 h17 rfl rfl rfl rfl rfl (.nil (zn g))) ?_
       refine dq 26 rfl (fun _ g u h => LWo.guardU (t := 25) u.2.1 rfl rfl rfl rfl (.nil (zn g))) ?_
       refine dq 27 rfl (fun _ g u h => LWo.guardU (t := 25) u.1 rfl rfl rfl rfl (.nil (zn g))) ?_
       refine dq 28 rfl (fun _ g u h => LWo.guardU (t := 25) u.1 rfl rfl rfl rfl (.nil (zn g))) ?_
       refine dq 29 rfl (fun _ g u h => LWo.guardU (t := 25) u.1 rfl rfl rfl rfl (.nil (zn g))) ?_
       refine dq 30 rfl (fun _ g u h => LWo.guardNU (t := 22) u.1 h17 rfl rfl rfl rfl rfl (.nil (zn g))) ?_
       refine dq 31 rfl (fun _ g u h => LWo.pickTM (e_bool true) u.1 h17 rfl (hn := .nil (zn g))) ?_
       refine dq 32 rfl (fun _ g u h => LWo.move (e_bool true) u.1 (hn := .nil (zn g))) ?_
       refine dq 33 rfl (fun _ g u h => LWo.guardNU (t := 32) u.2.1 rfl rfl rfl rfl rfl rfl (.nil (zn g))) ?_
       refine dq 34 rfl (fun _ g u h => LWo.guardNU (t := 32) u.1 rfl rfl rfl rfl rfl rfl (.nil (zn g))) ?_
       refine dq 35 rfl (fun _ g u h => LWo.guardNU (t := 32) u.1 rfl rfl rfl rfl rfl rfl (.nil (zn g))) ?_
       refine dq 36 rfl (fun _ g u h => LWo.guardU (t := 35) u.2.1 rfl rfl rfl rfl (.nil (zn g))) ?_
       refine dq 37 rfl (fun _ g u h => LWo.guardU (t := 35) u.2.1 rfl rfl rfl rfl (.nil (zn g))) ?_
       refine dq 38 rfl (fun _ g u h => LWo.guardU (t := 35) u.1 rfl rfl rfl rfl (.nil (zn g))) ?_
       refine dq 39 rfl (fun _ g u h => LWo.guardU (t := 35) u.1 rfl rfl rfl rfl (.nil (zn g))) ?_
       refine dq 40 rfl (fun _ g u h => LWo.guardU (t := 35) u.1 rfl rfl rfl rfl (.nil (zn g))) ?_
       refine dq 41 rfl (fun _ g u h => LWo.guardU (t := 35) u.1 rfl rfl rfl rfl (.nil (zn g))) ?_
       refine dq 42 rfl (fun _ g u h => LWo.guardU (t := 35) u.2.1 rfl rfl rfl rfl (.nil (zn g))) ?_
       refine dq 43 rfl (fun _ g u h => LWo.guardU (t := 35) u.1 rfl rfl rfl rfl (.nil (zn g))) ?_
       refine dq 44 rfl (fun _ g u h => LWo.guardU (t := 35) u.1 rfl rfl rfl rfl (.nil (zn g))) ?_
       refine dq 45 rfl (fun _ g u h => LWo.guardNU (t := 32) u.1 rfl rfl rfl rfl rfl rfl (.nil (zn g))) ?_
       refine dq 46 rfl (fun _ g u h => LWo.pickTM (e_bool true) u.1 rfl rfl (hn := .nil (zn g))) ?_
       refine ⟨rfl, by kernel_rfl, hN13 (t0, t5, t6, t7, true) _ ⟨rfl, rfl, rfl, rfl, rfl, trivial⟩ trivial h⟩
      ·have h := bF h17 h
       refine bS (y12.Gone) (fun h18 => ?_) (fun h18 => ?_)
       ·have h := bT h18 h
        refine bS (decide ((y12.Row.length : Int) > (0 : Int))) (fun h19 => ?_) (fun h19 => ?_)
        ·have h := bT h19 h
         refine LWP.drawF (l := [_,_,_,_,_,_,_,_,_,_,_,_,_,_,_,_,_,_,_,_,_,_,_,_,_,_,_,_,_,_,_,_,_,_,_]) [] [0, 3, 4, 5, 6, 7] [([4], []), ([12], [4]), ([13], []), ([14], []), ([15], []), ([4, 16], []), ([16, 17], [4]), ([16, 18], []), ([16, 19], []), ([16, 20], []), ([21], []), ([4, 22], []), ([22, 23], [4]), ([22, 24], []), ([4, 25], []), ([25, 26], [4]), ([25, 27], []), ([25, 28], []), ([22, 25, 29], []), ([22, 30], []), ([31], []), ([3, 32], []), ([32, 33], []), ([32, 34], []), ([0, 35], []), ([3, 35], []), ([35, 37], []), ([35, 36, 38], []), ([35, 39], []), ([35, 40], []), ([4, 35], []), ([35, 42], []), ([35, 41, 43], []), ([32, 35, 44], []), ([32, 45], [])] [0, 5, 6, 7, 46] [] mixed (by kernel_rfl) rfl (by decide) ?_
         refine dq 12 rfl (fun _ g u h => LWo.fieldPtr u_impl_Write rfl s_int u.1 rfl (hn := .nil (zn g))) ?_
         refine dq 13 rfl (fun _ g u h => LWo.loadV1 (e_int y12.Key)  g_int u.1 h.1 rfl (hn := .nil (zn g))) ?_
         refine dq 14 rfl (fun _ g u h => LWo.vcall rfl (av1 u.1) (c_impl_keyOk _ _ e14) (.same (.nil)) (hn := .nil (zn g))) ?_
         refine dq 15 rfl (fun _ g u h => LWo.not u.1 (hn := .nil (zn g))) ?_
         refine dq 16 rfl (fun _ g u h => LWo.move (e_bool (!x14)) u.1 (hn := .nil (zn g))) ?_
         refine dq 17 rfl (fun _ g u h => LWo.guardY (t := 16) u.2.1 h15 rfl rfl (LWo.fieldPtr u_impl_Write rfl s_Limpl_Value u.1 rfl (hn := .nil (zn g)))) ?_
         refine dq 18 rfl (fun _ g u h => LWo.guardY (t := 16) u.1 h15 rfl rfl (LWo.loadV1 (e_Limpl_Value y12.Row)  g_Limpl_Value u.2.1 h.1 rfl (hn := .nil (zn g)))) ?_
         refine dq 19 rfl (fun _ g u h => LWo.guardY (t := 16) u.1 h15 rfl rfl (LWo.vcall rfl (av1 u.2.1) (c_impl_RowOk _ _ e16) (.same (.nil)) (hn := .nil (zn g)))) ?_
         refine dq 20 rfl (fun _ g u h => LWo.guardY (t := 16) u.1 h15 rfl rfl (LWo.not u.2.1 (hn := .nil (zn g)))) ?_
         refine dq 21 rfl (fun _ g u h => LWo.pickFM (e_bool (!x16)) u.1 h15 u.2.1 (hn := .nil (zn g))) ?_
         refine dq 22 rfl (fun _ g u h => LWo.move (e_bool (!x16)) u.1 (hn := .nil (zn g))) ?_
         refine dq 23 rfl (fun _ g u h => LWo.guardY (t := 22) u.2.1 h17 rfl rfl (LWo.fieldPtr u_impl_Write rfl s_bool u.1 rfl (hn := .nil (zn g)))) ?_
         refine dq 24 rfl (fun _ g u h => LWo.guardY (t := 22) u.1 h17 rfl rfl (LWo.loadV1 (e_bool y12.Gone)  g_bool u.2.1 h.1 rfl (hn := .nil (zn g)))) ?_
         refine dq 25 rfl (fun _ g u h => LWo.guardY (t := 22) u.1 h17 rfl rfl (LWo.move (e_bool y12.Gone) u.2.1 (hn := .nil (zn g)))) ?_
         refine dq 26 rfl (fun _ g u h => LWo.guardY (t := 25) u.2.1 h18 rfl rfl (LWo.fieldPtr u_impl_Write rfl s_Limpl_Value u.1 rfl (hn := .nil (zn g)))) ?_
         refine dq 27 rfl (fun _ g u h => LWo.guardY (t := 25) u.1 h18 rfl rfl (LWo.loadV1 (e_Limpl_Value y12.Row)  g_Limpl_Value u.2.1 h.1 rfl (hn := .nil (zn g)))) ?_
         refine dq 28 rfl (fun _ g u h => LWo.guardY (t := 25) u.1 h18 rfl rfl (LWo.lenM (f := e_impl_Value) (l := y12.Row) u_Limpl_Value u.2.1 (hn := .nil (zn g)))) ?_
         refine dq 29 rfl (fun _ g u h => LWo.guardY (t := 25) u.1 h18 rfl rfl (LWo.int _ u.2.1 rfl rfl (hn := .nil (zn g)))) ?_
         refine dq 30 rfl (fun _ g u h => LWo.guardY (t := 22) u.1 h17 rfl rfl (LWo.pickTM (e_bool (decide ((y12.Row.length : Int) > (0 : Int)))) u.2.1 h18 u.2.2.1 (hn := .nil (zn g)))) ?_
         refine dq 31 rfl (fun _ g u h => LWo.pickFM (e_bool (decide ((y12.Row.length : Int) > (0 : Int)))) u.1 h17 u.2.1 (hn := .nil (zn g))) ?_
         refine dq 32 rfl (fun _ g u h => LWo.move (e_bool (decide ((y12.Row.length : Int) > (0 : Int)))) u.1 (hn := .nil (zn g))) ?_
         refine dq 33 rfl (fun _ g u h => LWo.guardNU (t := 32) u.2.1 h19 rfl rfl rfl rfl rfl (.nil (zn g))) ?_
         refine dq 34 rfl (fun _ g u h => LWo.guardNU (t := 32) u.1 h19 rfl rfl rfl rfl rfl (.nil (zn g))) ?_
         refine dq 35 rfl (fun _ g u h => LWo.guardNU (t := 32) u.1 h19 rfl rfl rfl rfl rfl (.nil (zn g))) ?_
         refine dq 36 rfl (fun _ g u h => LWo.guardU (t := 35) u.2.1 rfl rfl rfl rfl (.nil (zn g))) ?_
         refine dq 37 rfl (fun _ g u h => LWo.guardU (t := 35) u.2.1 rfl rfl rfl rfl (.nil (zn g))) ?_
         refine dq 38 rfl (fun _ g u h => LWo.guardU (t := 35) u.1 rfl rfl rfl rfl (.nil (zn g))) ?_
         refine dq 39 rfl (fun _ g u h => LWo.guardU (t := 35) u.1 rfl rfl rfl rfl (.nil (zn g))) ?_
         refine dq 40 rfl (fun _ g u h => LWo.guardU (t := 35) u.1 rfl rfl rfl rfl (.nil (zn g))) ?_
         refine dq 41 rfl (fun _ g u h => LWo.guardU (t := 35) u.1 rfl rfl rfl rfl (.nil (zn g))) ?_
         refine dq 42 rfl (fun _ g u h => LWo.guardU (t := 35) u.2.1 rfl rfl rfl rfl (.nil (zn g))) ?_
         refine dq 43 rfl (fun _ g u h => LWo.guardU (t := 35) u.1 rfl rfl rfl rfl (.nil (zn g))) ?_
         refine dq 44 rfl (fun _ g u h => LWo.guardU (t := 35) u.1 rfl rfl rfl rfl (.nil (zn g))) ?_
         refine dq 45 rfl (fun _ g u h => LWo.guardNU (t := 32) u.1 h19 rfl rfl rfl rfl rfl (.nil (zn g))) ?_
         refine dq 46 rfl (fun _ g u h => LWo.pickTM (e_bool true) u.1 h19 rfl (hn := .nil (zn g))) ?_
         refine ⟨rfl, by kernel_rfl, hN13 (t0, t5, t6, t7, true) _ ⟨rfl, rfl, rfl, rfl, rfl, trivial⟩ trivial h⟩
        ·have h := bF h19 h
         refine bS (decide (t7 > (0 : Int))) (fun h20 => ?_) (fun h20 => ?_)
         ·have h := bT h20 h
          refine bk h fun x21 e21 h => ?_
          refine bk h fun x22 e22 h => ?_
          refine LWP.drawF (l := [_,_,_,_,_,_,_,_,_,_,_,_,_,_,_,_,_,_,_,_,_,_,_,_,_,_,_,_,_,_,_,_,_,_,_]) [] [0, 3, 4, 5, 6, 7] [([4], []), ([12], [4]), ([13], []), ([14], []), ([15], []), ([4, 16], []), ([16, 17], [4]), ([16, 18], []), ([16, 19], []), ([16, 20], []), ([21], []), ([4, 22], []), ([22, 23], [4]), ([22, 24], []), ([4, 25], []), ([25, 26], [4]), ([25, 27], []), ([25, 28], []), ([22, 25, 29], []), ([22, 30], []), ([31], []), ([3, 32], []), ([32, 33], []), ([32, 34], []), ([0, 35], []), ([3, 35], []), ([35, 37], []), ([35, 36, 38], []), ([35, 39], []), ([35, 40], []), ([4, 35], []), ([35, 42], [4]), ([35, 41, 43], []), ([32, 35, 44], []), ([32, 45], [])] [0, 5, 6, 7, 46] [] mixed (by kernel_rfl) rfl (by decide) ?_
          refine dq 12 rfl (fun _ g u h => LWo.fieldPtr u_impl_Write rfl s_int u.1 rfl (hn := .nil (zn g))) ?_
          refine dq 13 rfl (fun _ g u h => LWo.loadV1 (e_int y12.Key)  g_int u.1 h.1 rfl (hn := .nil (zn g))) ?_
          refine dq 14 rfl (fun _ g u h => LWo.vcall rfl (av1 u.1) (c_impl_keyOk _ _ e14) (.same (.nil)) (hn := .nil (zn g))) ?_
          refine dq 15 rfl (fun _ g u h => LWo.not u.1 (hn := .nil (zn g))) ?_
          refine dq 16 rfl (fun _ g u h => LWo.move (e_bool (!x14)) u.1 (hn := .nil (zn g))) ?_
          refine dq 17 rfl (fun _ g u h => LWo.guardY (t := 16) u.2.1 h15 rfl rfl (LWo.fieldPtr u_impl_Write rfl s_Limpl_Value u.1 rfl (hn := .nil (zn g)))) ?_
          refine dq 18 rfl (fun _ g u h => LWo.guardY (t := 16) u.1 h15 rfl rfl (LWo.loadV1 (e_Limpl_Value y12.Row)  g_Limpl_Value u.2.1 h.1 rfl (hn := .nil (zn g)))) ?_
          refine dq 19 rfl (fun _ g u h => LWo.guardY (t := 16) u.1 h15 rfl rfl (LWo.vcall rfl (av1 u.2.1) (c_impl_RowOk _ _ e16) (.same (.nil)) (hn := .nil (zn g)))) ?_
          refine dq 20 rfl (fun _ g u h => LWo.guardY (t := 16) u.1 h15 rfl rfl (LWo.not u.2.1 (hn := .nil (zn g)))) ?_
          refine dq 21 rfl (fun _ g u h => LWo.pickFM (e_bool (!x16)) u.1 h15 u.2.1 (hn := .nil (zn g))) ?_
          refine dq 22 rfl (fun _ g u h => LWo.move (e_bool (!x16)) u.1 (hn := .nil (zn g))) ?_
          refine dq 23 rfl (fun _ g u h => LWo.guardY (t := 22) u.2.1 h17 rfl rfl (LWo.fieldPtr u_impl_Write rfl s_bool u.1 rfl (hn := .nil (zn g)))) ?_
          refine dq 24 rfl (fun _ g u h => LWo.guardY (t := 22) u.1 h17 rfl rfl (LWo.loadV1 (e_bool y12.Gone)  g_bool u.2.1 h.1 rfl (hn := .nil (zn g)))) ?_
          refine dq 25 rfl (fun _ g u h => LWo.guardY (t := 22) u.1 h17 rfl rfl (LWo.move (e_bool y12.Gone) u.2.1 (hn := .nil (zn g)))) ?_
          refine dq 26 rfl (fun _ g u h => LWo.guardY (t := 25) u.2.1 h18 rfl rfl (LWo.fieldPtr u_impl_Write rfl s_Limpl_Value u.1 rfl (hn := .nil (zn g)))) ?_
          refine dq 27 rfl (fun _ g u h => LWo.guardY (t := 25) u.1 h18 rfl rfl (LWo.loadV1 (e_Limpl_Value y12.Row)  g_Limpl_Value u.2.1 h.1 rfl (hn := .nil (zn g)))) ?_
          refine dq 28 rfl (fun _ g u h => LWo.guardY (t := 25) u.1 h18 rfl rfl (LWo.lenM (f := e_impl_Value) (l := y12.Row) u_Limpl_Value u.2.1 (hn := .nil (zn g)))) ?_
          refine dq 29 rfl (fun _ g u h => LWo.guardY (t := 25) u.1 h18 rfl rfl (LWo.int _ u.2.1 rfl rfl (hn := .nil (zn g)))) ?_
          refine dq 30 rfl (fun _ g u h => LWo.guardY (t := 22) u.1 h17 rfl rfl (LWo.pickTM (e_bool (decide ((y12.Row.length : Int) > (0 : Int)))) u.2.1 h18 u.2.2.1 (hn := .nil (zn g)))) ?_
          refine dq 31 rfl (fun _ g u h => LWo.pickFM (e_bool (decide ((y12.Row.length : Int) > (0 : Int)))) u.1 h17 u.2.1 (hn := .nil (zn g))) ?_
          refine dq 32 rfl (fun _ g u h => LWo.move (e_bool (decide ((y12.Row.length : Int) > (0 : Int)))) u.1 (hn := .nil (zn g))) ?_
          refine dq 33 rfl (fun _ g u h => LWo.guardY (t := 32) u.2.1 h19 rfl rfl (LWo.move (e_int t7) u.1 (hn := .nil (zn g)))) ?_
          refine dq 34 rfl (fun _ g u h => LWo.guardY (t := 32) u.1 h19 rfl rfl (LWo.int _ u.2.1 rfl rfl (hn := .nil (zn g)))) ?_
          refine dq 35 rfl (fun _ g u h => LWo.guardY (t := 32) u.1 h19 rfl rfl (LWo.move (e_bool (decide (t7 > (0 : Int)))) u.2.1 (hn := .nil (zn g)))) ?_
          refine dq 36 rfl (fun _ g u h => LWo.guardY (t := 35) u.2.1 h20 rfl rfl (LWo.move (e_Limpl_Write t0) u.1 (hn := .nil (zn g)))) ?_
          refine dq 37 rfl (fun _ g u h => LWo.guardY (t := 35) u.2.1 h20 rfl rfl (LWo.move (e_int t7) u.1 (hn := .nil (zn g)))) ?_
          refine dq 38 rfl (fun _ g u h => LWo.guardY (t := 35) u.1 h20 rfl rfl (LWo.int _ u.2.1 rfl (sub_ck e21) (hn := .nil (zn g)))) ?_
          refine dq 39 rfl (fun _ g u h => LWo.guardY (t := 35) u.1 h20 rfl rfl (LWo.indexM (f := e_impl_Write) e22 u_Limpl_Write s_impl_Write u.2.1 u.2.2.1 (hn := .nil (zn g)))) ?_
          refine dq 40 rfl (fun _ g u h => LWo.guardY (t := 35) u.1 h20 rfl rfl (LWo.fieldAddr _ u_impl_Write rfl s_int u.2.1 rfl (hn := .nil (zn g)))) ?_
          refine dq 41 rfl (fun _ g u h => LWo.guardY (t := 35) u.1 h20 rfl rfl (LWo.load1 (c := (e_int x22.Key)) g_int u.2.1 (hn := .nil (zn g)))) ?_
          refine dq 42 rfl (fun _ g u h => LWo.guardY (t := 35) u.2.1 h20 rfl rfl (LWo.fieldPtr u_impl_Write rfl s_int u.1 rfl (hn := .nil (zn g)))) ?_
          refine dq 43 rfl (fun _ g u h => LWo.guardY (t := 35) u.1 h20 rfl rfl (LWo.loadV1 (e_int y12.Key)  g_int u.2.1 h.1 rfl (hn := .nil (zn g)))) ?_
          refine dq 44 rfl (fun _ g u h => LWo.guardY (t := 35) u.1 h20 rfl rfl (LWo.int _ u.2.1 u.2.2.1 rfl (hn := .nil (zn g)))) ?_
          refine dq 45 rfl (fun _ g u h => LWo.guardY (t := 32) u.1 h19 rfl rfl (LWo.pickTM (e_bool (decide (x22.Key ≥ y12.Key))) u.2.1 h20 u.2.2.1 (hn := .nil (zn g)))) ?_
          refine dq 46 rfl (fun _ g u h => LWo.pickFM (e_bool (decide (x22.Key ≥ y12.Key))) u.1 h19 u.2.1 (hn := .nil (zn g))) ?_
          refine ⟨rfl, by kernel_rfl, hN13 (t0, t5, t6, t7, decide (x22.Key ≥ y12.Key)) _ ⟨rfl, rfl, rfl, rfl, rfl, trivial⟩ trivial h⟩
         ·have h := bF h20 h
          refine LWP.drawF (l := [_,_,_,_,_,_,_,_,_,_,_,_,_,_,_,_,_,_,_,_,_,_,_,_,_,_,_,_,_,_,_,_,_,_,_]) [] [0, 3, 4, 5, 6, 7] [([4], []), ([12], [4]), ([13], []), ([14], []), ([15], []), ([4, 16], []), ([16, 17], [4]), ([16, 18], []), ([16, 19], []), ([16, 20], []), ([21], []), ([4, 22], []), ([22, 23], [4]), ([22, 24], []), ([4, 25], []), ([25, 26], [4]), ([25, 27], []), ([25, 28], []), ([22, 25, 29], []), ([22, 30], []), ([31], []), ([3, 32], []), ([32, 33], []), ([32, 34], []), ([0, 35], []), ([3, 35], []), ([35, 37], []), ([35, 36, 38], []), ([35, 39], []), ([35, 40], []), ([4, 35], []), ([35, 42], []), ([35, 41, 43], []), ([32, 35, 44], []), ([32, 45], [])] [0, 5, 6, 7, 46] [] mixed (by kernel_rfl) rfl (by decide) ?_
          refine dq 12 rfl (fun _ g u h => LWo.fieldPtr u_impl_Write rfl s_int u.1 rfl (hn := .nil (zn g))) ?_
          refine dq 13 rfl (fun _ g u h => LWo.loadV1 (e_int y12.Key)  g_int u.1 h.1 rfl (hn := .nil (zn g))) ?_
          refine dq 14 rfl (fun _ g u h => LWo.vcall rfl (av1 u.1) (c_impl_keyOk _ _ e14) (.same (.nil)) (hn := .nil (zn g))) ?_
          refine dq 15 rfl (fun _ g u h => LWo.not u.1 (hn := .nil (zn g))) ?_
          refine dq 16 rfl (fun _ g u h => LWo.move (e_bool (!x14)) u.1 (hn := .nil (zn g))) ?_
          refine dq 17 rfl (fun _ g u h => LWo.guardY (t := 16) u.2.1 h15 rfl rfl (LWo.fieldPtr u_impl_Write rfl s_Limpl_Value u.1 rfl (hn := .nil (zn g)))) ?_
          refine dq 18 rfl (fun _ g u h => LWo.guardY (t := 16) u.1 h15 rfl rfl (LWo.loadV1 (e_Limpl_Value y12.Row)  g_Limpl_Value u.2.1 h.1 rfl (hn := .nil (zn g)))) ?_
          refine dq 19 rfl (fun _ g u h => LWo.guardY (t := 16) u.1 h15 rfl rfl (LWo.vcall rfl (av1 u.2.1) (c_impl_RowOk _ _ e16) (.same (.nil)) (hn := .nil (zn g)))) ?_
          refine dq 20 rfl (fun _ g u h => LWo.guardY (t := 16) u.1 h15 rfl rfl (LWo.not u.2.1 (hn := .nil (zn g)))) ?_
          refine dq 21 rfl (fun _ g u h => LWo.pickFM (e_bool (!x16)) u.1 h15 u.2.1 (hn := .nil (zn g))) ?_
          refine dq 22 rfl (fun _ g u h => LWo.move (e_bool (!x16)) u.1 (hn := .nil (zn g))) ?_
          refine dq 23 rfl (fun _ g u h => LWo.guardY (t := 22) u.2.1 h17 rfl rfl (LWo.fieldPtr u_impl_Write rfl s_bool u.1 rfl (hn := .nil (zn g)))) ?_
          refine dq 24 rfl (fun _ g u h => LWo.guardY (t := 22) u.1 h17 rfl rfl (LWo.loadV1 (e_bool y12.Gone)  g_bool u.2.1 h.1 rfl (hn := .nil (zn g)))) ?_
          refine dq 25 rfl (fun _ g u h => LWo.guardY (t := 22) u.1 h17 rfl rfl (LWo.move (e_bool y12.Gone) u.2.1 (hn := .nil (zn g)))) ?_
          refine dq 26 rfl (fun _ g u h => LWo.guardY (t := 25) u.2.1 h18 rfl rfl (LWo.fieldPtr u_impl_Write rfl s_Limpl_Value u.1 rfl (hn := .nil (zn g)))) ?_
          refine dq 27 rfl (fun _ g u h => LWo.guardY (t := 25) u.1 h18 rfl rfl (LWo.loadV1 (e_Limpl_Value y12.Row)  g_Limpl_Value u.2.1 h.1 rfl (hn := .nil (zn g)))) ?_
          refine dq 28 rfl (fun _ g u h => LWo.guardY (t := 25) u.1 h18 rfl rfl (LWo.lenM (f := e_impl_Value) (l := y12.Row) u_Limpl_Value u.2.1 (hn := .nil (zn g)))) ?_
          refine dq 29 rfl (fun _ g u h => LWo.guardY (t := 25) u.1 h18 rfl rfl (LWo.int _ u.2.1 rfl rfl (hn := .nil (zn g)))) ?_
          refine dq 30 rfl (fun _ g u h => LWo.guardY (t := 22) u.1 h17 rfl rfl (LWo.pickTM (e_bool (decide ((y12.Row.length : Int) > (0 : Int)))) u.2.1 h18 u.2.2.1 (hn := .nil (zn g)))) ?_
          refine dq 31 rfl (fun _ g u h => LWo.pickFM (e_bool (decide ((y12.Row.length : Int) > (0 : Int)))) u.1 h17 u.2.1 (hn := .nil (zn g))) ?_
          refine dq 32 rfl (fun _ g u h => LWo.move (e_bool (decide ((y12.Row.length : Int) > (0 : Int)))) u.1 (hn := .nil (zn g))) ?_
          refine dq 33 rfl (fun _ g u h => LWo.guardY (t := 32) u.2.1 h19 rfl rfl (LWo.move (e_int t7) u.1 (hn := .nil (zn g)))) ?_
          refine dq 34 rfl (fun _ g u h => LWo.guardY (t := 32) u.1 h19 rfl rfl (LWo.int _ u.2.1 rfl rfl (hn := .nil (zn g)))) ?_
          refine dq 35 rfl (fun _ g u h => LWo.guardY (t := 32) u.1 h19 rfl rfl (LWo.move (e_bool (decide (t7 > (0 : Int)))) u.2.1 (hn := .nil (zn g)))) ?_
          refine dq 36 rfl (fun _ g u h => LWo.guardNU (t := 35) u.2.1 h20 rfl rfl rfl rfl rfl (.nil (zn g))) ?_
          refine dq 37 rfl (fun _ g u h => LWo.guardNU (t := 35) u.2.1 h20 rfl rfl rfl rfl rfl (.nil (zn g))) ?_
          refine dq 38 rfl (fun _ g u h => LWo.guardNU (t := 35) u.1 h20 rfl rfl rfl rfl rfl (.nil (zn g))) ?_
          refine dq 39 rfl (fun _ g u h => LWo.guardNU (t := 35) u.1 h20 rfl rfl rfl rfl rfl (.nil (zn g))) ?_
          refine dq 40 rfl (fun _ g u h => LWo.guardNU (t := 35) u.1 h20 rfl rfl rfl rfl rfl (.nil (zn g))) ?_
          refine dq 41 rfl (fun _ g u h => LWo.guardNU (t := 35) u.1 h20 rfl rfl rfl rfl rfl (.nil (zn g))) ?_
          refine dq 42 rfl (fun _ g u h => LWo.guardNU (t := 35) u.2.1 h20 rfl rfl rfl rfl rfl (.nil (zn g))) ?_
          refine dq 43 rfl (fun _ g u h => LWo.guardNU (t := 35) u.1 h20 rfl rfl rfl rfl rfl (.nil (zn g))) ?_
          refine dq 44 rfl (fun _ g u h => LWo.guardNU (t := 35) u.1 h20 rfl rfl rfl rfl rfl (.nil (zn g))) ?_
          refine dq 45 rfl (fun _ g u h => LWo.guardY (t := 32) u.1 h19 rfl rfl (LWo.pickFM (e_bool false) u.2.1 h20 rfl (hn := .nil (zn g)))) ?_
          refine dq 46 rfl (fun _ g u h => LWo.pickFM (e_bool false) u.1 h19 u.2.1 (hn := .nil (zn g))) ?_
          refine ⟨rfl, by kernel_rfl, hN13 (t0, t5, t6, t7, false) _ ⟨rfl, rfl, rfl, rfl, rfl, trivial⟩ trivial h⟩
       ·have h := bF h18 h
        refine bS (decide (t7 > (0 : Int))) (fun h23 => ?_) (fun h23 => ?_)
        ·have h := bT h23 h
         refine bk h fun x24 e24 h => ?_
         refine bk h fun x25 e25 h => ?_
         refine LWP.drawF (l := [_,_,_,_,_,_,_,_,_,_,_,_,_,_,_,_,_,_,_,_,_,_,_,_,_,_,_,_,_,_,_,_,_,_,_]) [] [0, 3, 4, 5, 6, 7] [([4], []), ([12], [4]), ([13], []), ([14], []), ([15], []), ([4, 16], []), ([16, 17], [4]), ([16, 18], []), ([16, 19], []), ([16, 20], []), ([21], []), ([4, 22], []), ([22, 23], [4]), ([22, 24], []), ([4, 25], []), ([25, 26], []), ([25, 27], []), ([25, 28], []), ([22, 25, 29], []), ([22, 30], []), ([31], []), ([3, 32], []), ([32, 33], []), ([32, 34], []), ([0, 35], []), ([3, 35], []), ([35, 37], []), ([35, 36, 38], []), ([35, 39], []), ([35, 40], []), ([4, 35], []), ([35, 42], [4]), ([35, 41, 43], []), ([32, 35, 44], []), ([32, 45], [])] [0, 5, 6, 7, 46] [] mixed (by kernel_rfl) rfl (by decide) ?_
         refine dq 12 rfl (fun _ g u h => LWo.fieldPtr u_impl_Write rfl s_int u.1 rfl (hn := .nil (zn g))) ?_
         refine dq 13 rfl (fun _ g u h => LWo.loadV1 (e_int y12.Key)  g_int u.1 h.1 rfl (hn := .nil (zn g))) ?_
         refine dq 14 rfl (fun _ g u h => LWo.vcall rfl (av1 u.1) (c_impl_keyOk _ _ e14) (.same (.nil)) (hn := .nil (zn g))) ?_
         refine dq 15 rfl (fun _ g u h => LWo.not u.1 (hn := .nil (zn g))) ?_
         refine dq 16 rfl (fun _ g u h => LWo.move (e_bool (!x14)) u.1 (hn := .nil (zn g))) ?_
         refine dq 17 rfl (fun _ g u h => LWo.guardY (t := 16) u.2.1 h15 rfl rfl (LWo.fieldPtr u_impl_Write rfl s_Limpl_Value u.1 rfl (hn := .nil (zn g)))) ?_
         refine dq 18 rfl (fun _ g u h => LWo.guardY (t := 16) u.1 h15 rfl rfl (LWo.loadV1 (e_Limpl_Value y12.Row)  g_Limpl_Value u.2.1 h.1 rfl (hn := .nil (zn g)))) ?_
         refine dq 19 rfl (fun _ g u h => LWo.guardY (t := 16) u.1 h15 rfl rfl (LWo.vcall rfl (av1 u.2.1) (c_impl_RowOk _ _ e16) (.same (.nil)) (hn := .nil (zn g)))) ?_
         refine dq 20 rfl (fun _ g u h => LWo.guardY (t := 16) u.1 h15 rfl rfl (LWo.not u.2.1 (hn := .nil (zn g)))) ?_
         refine dq 21 rfl (fun _ g u h => LWo.pickFM (e_bool (!x16)) u.1 h15 u.2.1 (hn := .nil (zn g))) ?_
         refine dq 22 rfl (fun _ g u h => LWo.move (e_bool (!x16)) u.1 (hn := .nil (zn g))) ?_
         refine dq 23 rfl (fun _ g u h => LWo.guardY (t := 22) u.2.1 h17 rfl rfl (LWo.fieldPtr u_impl_Write rfl s_bool u.1 rfl (hn := .nil (zn g)))) ?_
         refine dq 24 rfl (fun _ g u h => LWo.guardY (t := 22) u.1 h17 rfl rfl (LWo.loadV1 (e_bool y12.Gone)  g_bool u.2.1 h.1 rfl (hn := .nil (zn g)))) ?_
         refine dq 25 rfl (fun _ g u h => LWo.guardY (t := 22) u.1 h17 rfl rfl (LWo.move (e_bool y12.Gone) u.2.1 (hn := .nil (zn g)))) ?_
         refine dq 26 rfl (fun _ g u h => LWo.guardNU (t := 25) u.2.1 h18 rfl rfl rfl rfl rfl (.nil (zn g))) ?_
         refine dq 27 rfl (fun _ g u h => LWo.guardNU (t := 25) u.1 h18 rfl rfl rfl rfl rfl (.nil (zn g))) ?_
         refine dq 28 rfl (fun _ g u h => LWo.guardNU (t := 25) u.1 h18 rfl rfl rfl rfl rfl (.nil (zn g))) ?_
         refine dq 29 rfl (fun _ g u h => LWo.guardNU (t := 25) u.1 h18 rfl rfl rfl rfl rfl (.nil (zn g))) ?_
         refine dq 30 rfl (fun _ g u h => LWo.guardY (t := 22) u.1 h17 rfl rfl (LWo.pickFM (e_bool false) u.2.1 h18 rfl (hn := .nil (zn g)))) ?_
         refine dq 31 rfl (fun _ g u h => LWo.pickFM (e_bool false) u.1 h17 u.2.1 (hn := .nil (zn g))) ?_
         refine dq 32 rfl (fun _ g u h => LWo.move (e_bool false) u.1 (hn := .nil (zn g))) ?_
         refine dq 33 rfl (fun _ g u h => LWo.guardY (t := 32) u.2.1 rfl rfl rfl (LWo.move (e_int t7) u.1 (hn := .nil (zn g)))) ?_
         refine dq 34 rfl (fun _ g u h => LWo.guardY (t := 32) u.1 rfl rfl rfl (LWo.int _ u.2.1 rfl rfl (hn := .nil (zn g)))) ?_
         refine dq 35 rfl (fun _ g u h => LWo.guardY (t := 32) u.1 rfl rfl rfl (LWo.move (e_bool (decide (t7 > (0 : Int)))) u.2.1 (hn := .nil (zn g)))) ?_
         refine dq 36 rfl (fun _ g u h => LWo.guardY (t := 35) u.2.1 h23 rfl rfl (LWo.move (e_Limpl_Write t0) u.1 (hn := .nil (zn g)))) ?_
         refine dq 37 rfl (fun _ g u h => LWo.guardY (t := 35) u.2.1 h23 rfl rfl (LWo.move (e_int t7) u.1 (hn := .nil (zn g)))) ?_
         refine dq 38 rfl (fun _ g u h => LWo.guardY (t := 35) u.1 h23 rfl rfl (LWo.int _ u.2.1 rfl (sub_ck e24) (hn := .nil (zn g)))) ?_
         refine dq 39 rfl (fun _ g u h => LWo.guardY (t := 35) u.1 h23 rfl rfl (LWo.indexM (f := e_impl_Write) e25 u_Limpl_Write s_impl_Write u.2.1 u.2.2.1 (hn := .nil (zn g)))) ?_
         refine dq 40 rfl (fun _ g u h => LWo.guardY (t := 35) u.1 h23 rfl rfl (LWo.fieldAddr _ u_impl_Write rfl s_int u.2.1 rfl (hn := .nil (zn g)))) ?_
         refine dq 41 rfl (fun _ g u h => LWo.guardY (t := 35) u.1 h23 rfl rfl (LWo.load1 (c := (e_int x25.Key)) g_int u.2.1 (hn := .nil (zn g)))) ?_
         refine dq 42 rfl (fun _ g u h => LWo.guardY (t := 35) u.2.1 h23 rfl rfl (LWo.fieldPtr u_impl_Write rfl s_int u.1 rfl (hn := .nil (zn g)))) ?_
         refine dq 43 rfl (fun _ g u h => LWo.guardY (t := 35) u.1 h23 rfl rfl (LWo.loadV1 (e_int y12.Key)  g_int u.2.1 h.1 rfl (hn := .nil (zn g)))) ?_
         refine dq 44 rfl (fun _ g u h => LWo.guardY (t := 35) u.1 h23 rfl rfl (LWo.int _ u.2.1 u.2.2.1 rfl (hn := .nil (zn g)))) ?_
         refine dq 45 rfl (fun _ g u h => LWo.guardY (t := 32) u.1 rfl rfl rfl (LWo.pickTM (e_bool (decide (x25.Key ≥ y12.Key))) u.2.1 h23 u.2.2.1 (hn := .nil (zn g)))) ?_
         refine dq 46 rfl (fun _ g u h => LWo.pickFM (e_bool (decide (x25.Key ≥ y12.Key))) u.1 rfl u.2.1 (hn := .nil (zn g))) ?_
         refine ⟨rfl, by kernel_rfl, hN13 (t0, t5, t6, t7, decide (x25.Key ≥ y12.Key)) _ ⟨rfl, rfl, rfl, rfl, rfl, trivial⟩ trivial h⟩
        ·have h := bF h23 h
         refine LWP.drawF (l := [_,_,_,_,_,_,_,_,_,_,_,_,_,_,_,_,_,_,_,_,_,_,_,_,_,_,_,_,_,_,_,_,_,_,_]) [] [0, 3, 4, 5, 6, 7] [([4], []), ([12], [4]), ([13], []), ([14], []), ([15], []), ([4, 16], []), ([16, 17], [4]), ([16, 18], []), ([16, 19], []), ([16, 20], []), ([21], []), ([4, 22], []), ([22, 23], [4]), ([22, 24], []), ([4, 25], []), ([25, 26], []), ([25, 27], []), ([25, 28], []), ([22, 25, 29], []), ([22, 30], []), ([31], []), ([3, 32], []), ([32, 33], []), ([32, 34], []), ([0, 35], []), ([3, 35], []), ([35, 37], []), ([35, 36, 38], []), ([35, 39], []), ([35, 40], []), ([4, 35], []), ([35, 42], []), ([35, 41, 43], []), ([32, 35, 44], []), ([32, 45], [])] [0, 5, 6, 7, 46] [] mixed (by kernel_rfl) rfl (by decide) ?_
         refine dq 12 rfl (fun _ g u h => LWo.fieldPtr u_impl_Write rfl s_int u.1 rfl (hn := .nil (zn g))) ?_
         refine dq 13 rfl (fun _ g u h => LWo.loadV1 (e_int y12.Key)  g_int u.1 h.1 rfl (hn := .nil (zn g))) ?_
         refine dq 14 rfl (fun _ g u h => LWo.vcall rfl (av1 u.1) (c_impl_keyOk _ _ e14) (.same (.nil)) (hn := .nil (zn g))) ?_
         refine dq 15 rfl (fun _ g u h => LWo.not u.1 (hn := .nil (zn g))) ?_
         refine dq 16 rfl (fun _ g u h => LWo.move (e_bool (!x14)) u.1 (hn := .nil (zn g))) ?_
         refine dq 17 rfl (fun _ g u h => LWo.guardY (t := 16) u.2.1 h15 rfl rfl (LWo.fieldPtr u_impl_Write rfl s_Limpl_Value u.1 rfl (hn := .nil (zn g)))) ?_
         refine dq 18 rfl (fun _ g u h => LWo.guardY (t := 16) u.1 h15 rfl rfl (LWo.loadV1 (e_Limpl_Value y12.Row)  g_Limpl_Value u.2.1 h.1 rfl (hn := .nil (zn g)))) ?_
         refine dq 19 rfl (fun _ g u h => LWo.guardY (t := 16) u.1 h15 rfl rfl (LWo.vcall rfl (av1 u.2.1) (c_impl_RowOk _ _ e16) (.same (.nil)) (hn := .nil (zn g)))) ?_
         refine dq 20 rfl (fun _ g u h => LWo.guardY (t := 16) u.1 h15 rfl rfl (LWo.not u.2.1 (hn := .nil (zn g)))) ?_
         refine dq 21 rfl (fun _ g u h => LWo.pickFM (e_bool (!x16)) u.1 h15 u.2.1 (hn := .nil (zn g))) ?_
         refine dq 22 rfl (fun _ g u h => LWo.move (e_bool (!x16)) u.1 (hn := .nil (zn g))) ?_
         refine dq 23 rfl (fun _ g u h => LWo.guardY (t := 22) u.2.1 h17 rfl rfl (LWo.fieldPtr u_impl_Write rfl s_bool u.1 rfl (hn := .nil (zn g)))) ?_
         refine dq 24 rfl (fun _ g u h => LWo.guardY (t := 22) u.1 h17 rfl rfl (LWo.loadV1 (e_bool y12.Gone)  g_bool u.2.1 h.1 rfl (hn := .nil (zn g)))) ?_
         refine dq 25 rfl (fun _ g u h => LWo.guardY (t := 22) u.1 h17 rfl rfl (LWo.move (e_bool y12.Gone) u.2.1 (hn := .nil (zn g)))) ?_
         refine dq 26 rfl (fun _ g u h => LWo.guardNU (t := 25) u.2.1 h18 rfl rfl rfl rfl rfl (.nil (zn g))) ?_
         refine dq 27 rfl (fun _ g u h => LWo.guardNU (t := 25) u.1 h18 rfl rfl rfl rfl rfl (.nil (zn g))) ?_
         refine dq 28 rfl (fun _ g u h => LWo.guardNU (t := 25) u.1 h18 rfl rfl rfl rfl rfl (.nil (zn g))) ?_
         refine dq 29 rfl (fun _ g u h => LWo.guardNU (t := 25) u.1 h18 rfl rfl rfl rfl rfl (.nil (zn g))) ?_
         refine dq 30 rfl (fun _ g u h => LWo.guardY (t := 22) u.1 h17 rfl rfl (LWo.pickFM (e_bool false) u.2.1 h18 rfl (hn := .nil (zn g)))) ?_
         refine dq 31 rfl (fun _ g u h => LWo.pickFM (e_bool false) u.1 h17 u.2.1 (hn := .nil (zn g))) ?_
         refine dq 32 rfl (fun _ g u h => LWo.move (e_bool false) u.1 (hn := .nil (zn g))) ?_
         refine dq 33 rfl (fun _ g u h => LWo.guardY (t := 32) u.2.1 rfl rfl rfl (LWo.move (e_int t7) u.1 (hn := .nil (zn g)))) ?_
         refine dq 34 rfl (fun _ g u h => LWo.guardY (t := 32) u.1 rfl rfl rfl (LWo.int _ u.2.1 rfl rfl (hn := .nil (zn g)))) ?_
         refine dq 35 rfl (fun _ g u h => LWo.guardY (t := 32) u.1 rfl rfl rfl (LWo.move (e_bool (decide (t7 > (0 : Int)))) u.2.1 (hn := .nil (zn g)))) ?_
         refine dq 36 rfl (fun _ g u h => LWo.guardNU (t := 35) u.2.1 h23 rfl rfl rfl rfl rfl (.nil (zn g))) ?_
         refine dq 37 rfl (fun _ g u h => LWo.guardNU (t := 35) u.2.1 h23 rfl rfl rfl rfl rfl (.nil (zn g))) ?_
         refine dq 38 rfl (fun _ g u h => LWo.guardNU (t := 35) u.1 h23 rfl rfl rfl rfl rfl (.nil (zn g))) ?_
         refine dq 39 rfl (fun _ g u h => LWo.guardNU (t := 35) u.1 h23 rfl rfl rfl rfl rfl (.nil (zn g))) ?_
         refine dq 40 rfl (fun _ g u h => LWo.guardNU (t := 35) u.1 h23 rfl rfl rfl rfl rfl (.nil (zn g))) ?_
         refine dq 41 rfl (fun _ g u h => LWo.guardNU (t := 35) u.1 h23 rfl rfl rfl rfl rfl (.nil (zn g))) ?_
         refine dq 42 rfl (fun _ g u h => LWo.guardNU (t := 35) u.2.1 h23 rfl rfl rfl rfl rfl (.nil (zn g))) ?_
         refine dq 43 rfl (fun _ g u h => LWo.guardNU (t := 35) u.1 h23 rfl rfl rfl rfl rfl (.nil (zn g))) ?_
         refine dq 44 rfl (fun _ g u h => LWo.guardNU (t := 35) u.1 h23 rfl rfl rfl rfl rfl (.nil (zn g))) ?_
         refine dq 45 rfl (fun _ g u h => LWo.guardY (t := 32) u.1 rfl rfl rfl (LWo.pickFM (e_bool false) u.2.1 h23 rfl (hn := .nil (zn g)))) ?_
         refine dq 46 rfl (fun _ g u h => LWo.pickFM (e_bool false) u.1 rfl u.2.1 (hn := .nil (zn g))) ?_
         refine ⟨rfl, by kernel_rfl, hN13 (t0, t5, t6, t7, false) _ ⟨rfl, rfl, rfl, rfl, rfl, trivial⟩ trivial h⟩
   ·have h := bF h8 h
    refine LWP.exit (hN2 t0 _ ⟨rfl, trivial⟩ trivial h)
end Go.Proofs.Ytijihchddhikhaa
