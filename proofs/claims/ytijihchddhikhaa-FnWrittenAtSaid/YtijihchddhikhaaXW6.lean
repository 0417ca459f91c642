/- Mirrors of functions, and that the functions return what the mirrors say. -/
import Derived.Test.YtijihchddhikhaaXW5
set_option linter.unusedVariables false
set_option linter.unusedSimpArgs false
set_option linter.unnecessarySimpa false
namespace Go.Proofs.Ytijihchddhikhaa
open Go.Proofs Go.Lift Go.RowKit
def m_impl_SeenAt (a0 : (List S_impl_Version)) (a1 : Int) (a2 : Int) : Option ((List S_impl_Value) × Bool) :=
  (m_impl_VersionsOk a0).bind fun x4 =>
  bif (!x4) then (some (([] : (List S_impl_Value)), false))
  else ((m_impl_seen a0 a1 a2).bind fun x8 =>
  lt (x8.1) fun y9 =>
  (m_impl_clone_impl_Value y9.Row).bind fun x11 =>
  some (x11, x8.2))
theorem c_impl_SeenAt (a0 : (List S_impl_Version)) (a1 : Int) (a2 : Int) (r : ((List S_impl_Value) × Bool)) (h : m_impl_SeenAt a0 a1 a2 = some r) : Ret Try.prog f_impl_SeenAt [e_Limpl_Version a0, e_int a1, e_int a2] (.tup [.nw 3 (r.1.map e_impl_Value) false, e_bool r.2]) := by
  refine Does.goG [] F_impl_SeenAt rfl e_impl_SeenAt n_impl_SeenAt rfl (rvs := [.tmp 6, .tmp 7]) rfl rfl ?_
  intro w0 ok0 lent ρ0
  refine LWP.seq_k fun N1 hN1 => ?_
  refine LWP.region (l := [_,_]) ?_
  refine LWo.assign _ rfl (hn := ?_)
  refine LWo.ownNil 6 1006 3 rfl rfl rfl ?_
  refine LWo.known 6 (.own 1006 0 ([] : (List S_impl_Value)).length) rfl ?_
  refine LWo.assign (e_bool false) rfl (hn := ?_)
  refine LWo.nil (hN1 _ ?_)
  refine LWP.seq_k fun N2 hN2 => ?_
  refine LWP.seq_k fun N3 hN3 => ?_
  refine LWP.region (l := [_,_,_]) ?_
  refine LWo.move (e_Limpl_Version a0) rfl (hn := ?_)
  refine bk h fun x4 e4 h => ?_
  refine LWo.vcall rfl rfl (c_impl_VersionsOk _ _ e4) (.same (.nil)) (hn := ?_)
  refine LWo.not rfl (hn := ?_)
  refine LWo.nil (hN3 _ ?_)
  refine LWP.cond_split rfl (fun h5 => ?_) (fun h5 => ?_)
  ·have h := bT h5 h
   refine LWP.seq_k fun N6 hN6 => ?_
   refine LWP.region (l := [_,_]) ?_
   refine LWo.assign _ rfl (hn := ?_)
   refine LWo.ownNil 6 1006 3 rfl rfl rfl ?_
   refine LWo.known 6 (.own 1006 0 ([] : (List S_impl_Value)).length) rfl ?_
   refine LWo.assign (e_bool false) rfl (hn := ?_)
   refine LWo.nil (hN6 _ ?_)
   obtain rfl := Option.some.inj h
   refine LWP.ret (QG.mk (.inr rfl) (.cons (.tmp (x := (.own 1006 0 (([] : (List S_impl_Value))).length)) rfl) (.cons (.tmp (x := (e_bool false)) rfl) (.nil))) (RetOK.many0 (.cons (.nwM rfl rfl) (.cons (.pure rfl) (.nil))) (by simp) (by decide)) rfl rfl)
  ·have h := bF h5 h
   refine LWP.skip (hN2 _ ?_)
   refine LWP.seq_k fun N7 hN7 => ?_
   refine LWP.region (l := [_,_,_,_,_,_,_,_,_,_]) ?_
   refine LWo.move (e_Limpl_Version a0) rfl (hn := ?_)
   refine LWo.move (e_int a1) rfl (hn := ?_)
   refine LWo.move (e_int a2) rfl (hn := ?_)
   refine bk h fun x8 e8 h => ?_
   refine LWo.vcall rfl rfl (c_impl_seen _ _ _ _ e8) (.same (.same (.same (.nil)))) (hn := ?_)
   refine LWo.move (.tup [(e_impl_Version x8.1), (e_bool x8.2)]) rfl (hn := ?_)
   refine LWo.extract (e_impl_Version x8.1) rfl rfl (hn := ?_)
   refine LWo.extract (e_bool x8.2) rfl rfl (hn := ?_)
   refine LWo.alloc_impl_Version 8 rfl (hn := ?_)
   refine lk h fun y9 e9 h => ?_
   refine LWo.storeW (y := (⟨(0 : Int), (0 : Int), (0 : Int), []⟩ : S_impl_Version)) y9 s_impl_Version rfl rfl rfl rfl rfl rfl (by rw [e9]; exact .refl) rfl (hn := ?_)
   refine LWo.assign (e_bool x8.2) rfl (hn := ?_)
   refine LWo.nil (hN7 _ ?_)
   refine LWP.seq_k fun N10 hN10 => ?_
   refine LWP.region (l := [_,_,_,_,_,_]) ?_
   refine LWo.fieldPtr u_impl_Version rfl s_Limpl_Value rfl rfl (hn := ?_)
   refine LWo.loadV1 (e_Limpl_Value y9.Row)  g_Limpl_Value rfl rfl rfl (hn := ?_)
   refine bk h fun x11 e11 h => ?_
   refine LWo.ncall (e := e_impl_Value) 1022 rfl rfl (c_impl_clone_impl_Value _ _ e11) (.same (.nil)) rfl (hn := ?_)
   refine LWo.move (e_bool x8.2) rfl (hn := ?_)
   refine LWo.assign (.own 1022 0 (x11).length) rfl (hn := ?_)
   refine LWo.assign (e_bool x8.2) rfl (hn := ?_)
   refine LWo.nil (hN10 _ ?_)
   obtain rfl := Option.some.inj h
   refine LWP.ret (QG.mk (.inr rfl) (.cons (.tmp (x := (.own 1022 0 (x11).length)) rfl) (.cons (.tmp (x := (e_bool x8.2)) rfl) (.nil))) (RetOK.many0 (.cons (.nwM rfl rfl) (.cons (.pure rfl) (.nil))) (by simp) (by decide)) rfl rfl)

def m_laws_sameSeen_j1 (t8 : Bool) : Option Bool :=
  some t8
def m_laws_sameSeen (a0 : (List S_impl_Version)) (a1 : (List S_impl_Version)) (a2 : Int) (a3 : Int) : Option Bool :=
  (m_impl_SeenAt a0 a2 a3).bind fun x3 =>
  (m_impl_SeenAt a1 a2 a3).bind fun x5 =>
  bif (x3.2 == x5.2) then ((m_laws_sameRow x3.1 x5.1).bind fun x8 =>
    m_laws_sameSeen_j1  x8)
  else (m_laws_sameSeen_j1  false)
theorem c_laws_sameSeen (a0 : (List S_impl_Version)) (a1 : (List S_impl_Version)) (a2 : Int) (a3 : Int) (r : Bool) (h : m_laws_sameSeen a0 a1 a2 a3 = some r) : Ret Try.prog f_laws_sameSeen [e_Limpl_Version a0, e_Limpl_Version a1, e_int a2, e_int a3] (e_bool r) := by
  refine Does.goG [] F_laws_sameSeen rfl e_laws_sameSeen n_laws_sameSeen rfl (rvs := [.tmp 8]) rfl rfl ?_
  intro w0 ok0 lent ρ0
  refine LWP.seq_k fun N1 hN1 => ?_
  refine LWP.region (l := [_]) ?_
  refine LWo.assign (e_bool false) rfl (hn := ?_)
  refine LWo.nil (hN1 _ ?_)
  refine LWP.seq_k fun N2 hN2 => ?_
  refine LWP.region (l := [_,_,_,_,_,_,_,_,_]) ?_
  refine LWo.move (e_Limpl_Version a0) rfl (hn := ?_)
  refine LWo.move (e_int a2) rfl (hn := ?_)
  refine LWo.move (e_int a3) rfl (hn := ?_)
  refine bk h fun x3 e3 h => ?_
  refine LWo.vcall rfl rfl (c_impl_SeenAt _ _ _ _ e3) (.same (.same (.same (.nil)))) (hn := ?_)
  refine LWo.move (.tup [(e_Limpl_Value x3.1), (e_bool x3.2)]) rfl (hn := ?_)
  refine LWo.extract (e_Limpl_Value x3.1) rfl rfl (hn := ?_)
  refine LWo.extract (e_bool x3.2) rfl rfl (hn := ?_)
  refine LWo.assign (e_Limpl_Value x3.1) rfl (hn := ?_)
  refine LWo.assign (e_bool x3.2) rfl (hn := ?_)
  refine LWo.nil (hN2 _ ?_)
  refine LWP.seq_k fun N4 hN4 => ?_
  refine LWP.region (l := [_,_,_,_,_,_,_,_,_]) ?_
  refine LWo.move (e_Limpl_Version a1) rfl (hn := ?_)
  refine LWo.move (e_int a2) rfl (hn := ?_)
  refine LWo.move (e_int a3) rfl (hn := ?_)
  refine bk h fun x5 e5 h => ?_
  refine LWo.vcall rfl rfl (c_impl_SeenAt _ _ _ _ e5) (.same (.same (.same (.nil)))) (hn := ?_)
  refine LWo.move (.tup [(e_Limpl_Value x5.1), (e_bool x5.2)]) rfl (hn := ?_)
  refine LWo.extract (e_Limpl_Value x5.1) rfl rfl (hn := ?_)
  refine LWo.extract (e_bool x5.2) rfl rfl (hn := ?_)
  refine LWo.assign (e_Limpl_Value x5.1) rfl (hn := ?_)
  refine LWo.assign (e_bool x5.2) rfl (hn := ?_)
  refine LWo.nil (hN4 _ ?_)
  refine LWP.join (α := Bool) (fun z : Bool => [(8, (e_bool z))]) (fun z : Bool => []) (fun z : Bool => m_laws_sameSeen_j1  z) r (fun _ => by simp [hkeys]) ?_ ?_
  ·rintro t8 h
   replace h : m_laws_sameSeen_j1  t8 = some _ := h
   obtain rfl := Option.some.inj h
   refine LWP.ret (QG.mk (.inr rfl) (.cons (.tmp (x := (e_bool t8)) rfl) (.nil)) (RetOK.one0 (.pure rfl) (by decide)) rfl rfl)
  ·intro N6 hN6
   refine LWP.region (l := [_,_,_,_,_,_,_,_,_]) ?_
   refine LWo.move (e_bool x3.2) rfl (hn := ?_)
   refine LWo.move (e_bool x5.2) rfl (hn := ?_)
   refine LWo.boolEq u_bool rfl rfl (hn := ?_)
   refine LWo.move (e_bool (x3.2 == x5.2)) rfl (hn := ?_)
   refine LWo.byCases (t := 30) _ rfl (fun h7 => ?_) (fun h7 => ?_)
   ·have h := bT h7 h
    refine LWo.guardY (t := 30) rfl h7 rfl rfl ?_
    refine LWo.move (e_Limpl_Value x3.1) rfl (hn := ?_)
    refine LWo.guardY (t := 30) rfl h7 rfl rfl ?_
    refine LWo.move (e_Limpl_Value x5.1) rfl (hn := ?_)
    refine bk h fun x8 e8 h => ?_
    refine LWo.guardY (t := 30) rfl h7 rfl rfl ?_
    refine LWo.vcall rfl rfl (c_laws_sameRow _ _ _ e8) (.same (.same (.nil))) (hn := ?_)
    refine LWo.pickTM (e_bool x8) rfl h7 rfl (hn := ?_)
    refine LWo.assign (e_bool x8) rfl (hn := ?_)
    refine LWo.nil (hN6 x8 _ ⟨rfl, trivial⟩ trivial h)
   ·have h := bF h7 h
    refine LWo.guardNU (t := 30) rfl h7 rfl rfl rfl rfl rfl ?_
    refine LWo.guardNU (t := 30) rfl h7 rfl rfl rfl rfl rfl ?_
    refine LWo.guardNU (t := 30) rfl h7 rfl rfl rfl rfl rfl ?_
    refine LWo.pickFM (e_bool false) rfl h7 rfl (hn := ?_)
    refine LWo.assign (e_bool false) rfl (hn := ?_)
    refine LWo.nil (hN6 false _ ⟨rfl, trivial⟩ trivial h)

def m_laws_FnWrittenAt_j9 (t2 : Bool) : Option Bool :=
  some t2
def m_laws_FnWrittenAt_j8 (t6 : (List S_impl_Version)) : Option Bool :=
  (m_impl_VersionsOk t6).bind fun x74 =>
  bif x74 then ((m_laws_alive ).bind fun x76 =>
    m_laws_FnWrittenAt_j9  x76)
  else (m_laws_FnWrittenAt_j9  false)
def m_laws_FnWrittenAt_j7 (k1 : (List S_impl_Version) → (List S_impl_Write) → Int → (List S_impl_Version) → Int → Option Bool) (t3 : (List S_impl_Version)) (t4 : (List S_impl_Write)) (t5 : Int) (t6 : (List S_impl_Version)) (t10 : Int) : Option Bool :=
  (ckI (t10 + (1 : Int))).bind fun x72 =>
  k1 t3 t4 t5 t6 x72
def m_laws_FnWrittenAt_j6 (k1 : (List S_impl_Version) → (List S_impl_Write) → Int → (List S_impl_Version) → Int → Option Bool) (t3 : (List S_impl_Version)) (t4 : (List S_impl_Write)) (t5 : Int) (t6 : (List S_impl_Version)) (t10 : Int) (t112 : Bool) : Option Bool :=
  bif t112 then (some false)
  else (m_laws_FnWrittenAt_j7  k1 t3 t4 t5 t6 t10)
def m_laws_FnWrittenAt_j5 (k1 : (List S_impl_Version) → (List S_impl_Write) → Int → (List S_impl_Version) → Int → Option Bool) (t3 : (List S_impl_Version)) (t4 : (List S_impl_Write)) (t5 : Int) (t6 : (List S_impl_Version)) (t10 : Int) (t12 : Bool) : Option Bool :=
  bif (!t12) then ((m_laws_sameSeen t3 t6 t10 t5).bind fun x69 =>
    m_laws_FnWrittenAt_j6  k1 t3 t4 t5 t6 t10 (!x69))
  else (m_laws_FnWrittenAt_j6  k1 t3 t4 t5 t6 t10 false)
def m_laws_FnWrittenAt_j4 (k1 : (List S_impl_Version) → (List S_impl_Write) → Int → (List S_impl_Version) → Int → Option Bool) (k3 : (List S_impl_Version) → (List S_impl_Write) → Int → (List S_impl_Version) → Int → Bool → Int → Option Bool) (t3 : (List S_impl_Version)) (t4 : (List S_impl_Write)) (t5 : Int) (t6 : (List S_impl_Version)) (t10 : Int) (t12 : Bool) (t13 : Int) : Option Bool :=
  (ckI (t13 + (1 : Int))).bind fun x66 =>
  k3 t3 t4 t5 t6 t10 t12 x66
def m_laws_FnWrittenAt_j3 (k1 : (List S_impl_Version) → (List S_impl_Write) → Int → (List S_impl_Version) → Int → Option Bool) (k3 : (List S_impl_Version) → (List S_impl_Write) → Int → (List S_impl_Version) → Int → Bool → Int → Option Bool) (t3 : (List S_impl_Version)) (t4 : (List S_impl_Write)) (t5 : Int) (t6 : (List S_impl_Version)) (t10 : Int) (t12 : Bool) (t13 : Int) (t102 : Bool) : Option Bool :=
  bif t102 then (some false)
  else (m_laws_FnWrittenAt_j4  k1 k3 t3 t4 t5 t6 t10 t12 t13)
def m_laws_FnWrittenAt_l3 (k1 : (List S_impl_Version) → (List S_impl_Write) → Int → (List S_impl_Version) → Int → Option Bool) : Nat → (List S_impl_Version) → (List S_impl_Write) → Int → (List S_impl_Version) → Int → Bool → Int → Option Bool
  | 0, _, _, _, _, _, _, _ => none
  | n3 + 1, t3, t4, t5, t6, t10, t12, t13 =>
    bif decide (t13 < (t4.length : Int)) then ((at? t4 t13).bind fun x54 =>
    bif (x54.Key == t10) then ((m_impl_SeenAt t6 t10 t5).bind fun x58 =>
      (at? t4 t13).bind fun x60 =>
      bif (x58.2 == x60.Gone) then (m_laws_FnWrittenAt_j3  k1 (m_laws_FnWrittenAt_l3  k1 n3) t3 t4 t5 t6 t10 true t13 true)
      else ((at? t4 t13).bind fun x62 =>
        (m_laws_sameRow x58.1 x62.Row).bind fun x63 =>
        m_laws_FnWrittenAt_j3  k1 (m_laws_FnWrittenAt_l3  k1 n3) t3 t4 t5 t6 t10 true t13 (!x63)))
    else (m_laws_FnWrittenAt_j4  k1 (m_laws_FnWrittenAt_l3  k1 n3) t3 t4 t5 t6 t10 t12 t13))
    else (m_laws_FnWrittenAt_j5  k1 t3 t4 t5 t6 t10 t12)
def m_laws_FnWrittenAt_j2 (k1 : (List S_impl_Version) → (List S_impl_Write) → Int → (List S_impl_Version) → Int → Option Bool) (t3 : (List S_impl_Version)) (t4 : (List S_impl_Write)) (t5 : Int) (t6 : (List S_impl_Version)) (t10 : Int) : Option Bool :=
  m_laws_FnWrittenAt_l3  k1 (((t4.length : Int) - (0 : Int)).toNat + 1) t3 t4 t5 t6 t10 false (0 : Int)
def m_laws_FnWrittenAt_l2 (k1 : (List S_impl_Version) → (List S_impl_Write) → Int → (List S_impl_Version) → Int → Option Bool) : Nat → (List S_impl_Version) → (List S_impl_Write) → Int → (List S_impl_Version) → Int → Int → Option Bool
  | 0, _, _, _, _, _, _ => none
  | n2 + 1, t3, t4, t5, t6, t10, t11 =>
    bif decide (t11 < t5) then ((m_laws_sameSeen t3 t6 t10 t11).bind fun x40 =>
    bif (!x40) then (some false)
    else ((ckI (t11 + (1 : Int))).bind fun x43 =>
    (m_laws_FnWrittenAt_l2  k1 n2) t3 t4 t5 t6 t10 x43))
    else (m_laws_FnWrittenAt_j2  k1 t3 t4 t5 t6 t10)
def m_laws_FnWrittenAt_l1 : Nat → (List S_impl_Version) → (List S_impl_Write) → Int → (List S_impl_Version) → Int → Option Bool
  | 0, _, _, _, _, _ => none
  | n1 + 1, t3, t4, t5, t6, t10 =>
    bif decide (t10 < (5 : Int)) then (m_laws_FnWrittenAt_l2  (m_laws_FnWrittenAt_l1  n1) ((t5 - (0 : Int)).toNat + 1) t3 t4 t5 t6 t10 (0 : Int))
    else (m_laws_FnWrittenAt_j8  t6)
def m_laws_FnWrittenAt_j1 (t3 : (List S_impl_Version)) (t4 : (List S_impl_Write)) (t5 : Int) (t6 : (List S_impl_Version)) (t7 : Bool) (t47 : Bool) : Option Bool :=
  bif t47 then (some false)
  else (bif (!t7) then ((m_laws_alive ).bind fun x22 =>
  some x22)
  else (m_laws_FnWrittenAt_l1  (((5 : Int) - (0 : Int)).toNat + 1) t3 t4 t5 t6 (0 : Int)))
def m_laws_FnWrittenAt (a0 : (List UInt8)) : Option Bool :=
  bif decide ((a0.length : Int) > (1048576 : Int)) then (some true)
  else ((m_spec_DrawWrittenAt a0).bind fun x7 =>
  (m_impl_WrittenAt x7.1 x7.2.1 x7.2.2).bind fun x9 =>
  (m_spec_WrittenAt x7.1 x7.2.1 x7.2.2).bind fun x11 =>
  bif (x9.2 != x11.2) then (m_laws_FnWrittenAt_j1  x7.1 x7.2.1 x7.2.2 x9.1 x9.2 true)
  else ((m_laws_sameVersions x9.1 x11.1).bind fun x15 =>
    m_laws_FnWrittenAt_j1  x7.1 x7.2.1 x7.2.2 x9.1 x9.2 (!x15)))
theorem c_laws_FnWrittenAt (a0 : (List UInt8)) (r : Bool) (h : m_laws_FnWrittenAt a0 = some r) : Ret Try.prog f_laws_FnWrittenAt [e_Luint8 a0] (e_bool r) := by
  refine Does.goG [] F_laws_FnWrittenAt rfl e_laws_FnWrittenAt n_laws_FnWrittenAt rfl (rvs := [.tmp 2]) rfl rfl ?_
  intro w0 ok0 lent ρ0
  refine LWP.seq_k fun N1 hN1 => ?_
  refine LWP.region (l := [_]) ?_
  refine LWo.assign (e_bool false) rfl (hn := ?_)
  refine LWo.nil (hN1 _ ?_)
  refine LWP.seq_k fun N2 hN2 => ?_
  refine LWP.seq_k fun N3 hN3 => ?_
  refine LWP.region (l := [_,_,_]) ?_
  refine LWo.move (e_Luint8 a0) rfl (hn := ?_)
  refine LWo.lenM (f := e_uint8) (l := a0) u_Luint8 rfl (hn := ?_)
  refine LWo.int _ rfl rfl rfl (hn := ?_)
  refine LWo.nil (hN3 _ ?_)
  refine LWP.cond_split rfl (fun h4 => ?_) (fun h4 => ?_)
  ·have h := bT h4 h
   refine LWP.seq_k fun N5 hN5 => ?_
   refine LWP.region (l := [_]) ?_
   refine LWo.assign (e_bool true) rfl (hn := ?_)
   refine LWo.nil (hN5 _ ?_)
   obtain rfl := Option.some.inj h
   refine LWP.ret (QG.mk (.inr rfl) (.cons (.tmp (x := (e_bool true)) rfl) (.nil)) (RetOK.one0 (.pure rfl) (by decide)) rfl rfl)
  ·have h := bF h4 h
   refine LWP.skip (hN2 _ ?_)
   refine LWP.seq_k fun N6 hN6 => ?_
   refine LWP.region (l := [_,_,_,_,_,_,_,_,_]) ?_
   refine LWo.move (e_Luint8 a0) rfl (hn := ?_)
   refine bk h fun x7 e7 h => ?_
   refine LWo.vcall rfl rfl (c_spec_DrawWrittenAt _ _ e7) (.same (.nil)) (hn := ?_)
   refine LWo.move (.tup [(e_Limpl_Version x7.1), (e_Limpl_Write x7.2.1), (e_int x7.2.2)]) rfl (hn := ?_)
   refine LWo.extract (e_Limpl_Version x7.1) rfl rfl (hn := ?_)
   refine LWo.extract (e_Limpl_Write x7.2.1) rfl rfl (hn := ?_)
   refine LWo.extract (e_int x7.2.2) rfl rfl (hn := ?_)
   refine LWo.assign (e_Limpl_Version x7.1) rfl (hn := ?_)
   refine LWo.assign (e_Limpl_Write x7.2.1) rfl (hn := ?_)
   refine LWo.assign (e_int x7.2.2) rfl (hn := ?_)
   refine LWo.nil (hN6 _ ?_)
   refine LWP.seq_k fun N8 hN8 => ?_
   refine LWP.region (l := [_,_,_,_,_,_,_,_,_]) ?_
   refine LWo.move (e_Limpl_Version x7.1) rfl (hn := ?_)
   refine LWo.move (e_Limpl_Write x7.2.1) rfl (hn := ?_)
   refine LWo.move (e_int x7.2.2) rfl (hn := ?_)
   refine bk h fun x9 e9 h => ?_
   refine LWo.vcall rfl rfl (c_impl_WrittenAt _ _ _ _ e9) (.same (.same (.same (.nil)))) (hn := ?_)
   refine LWo.move (.tup [(e_Limpl_Version x9.1), (e_bool x9.2)]) rfl (hn := ?_)
   refine LWo.extract (e_Limpl_Version x9.1) rfl rfl (hn := ?_)
   refine LWo.extract (e_bool x9.2) rfl rfl (hn := ?_)
   refine LWo.assign (e_Limpl_Version x9.1) rfl (hn := ?_)
   refine LWo.assign (e_bool x9.2) rfl (hn := ?_)
   refine LWo.nil (hN8 _ ?_)
   refine LWP.seq_k fun N10 hN10 => ?_
   refine LWP.region (l := [_,_,_,_,_,_,_,_,_]) ?_
   refine LWo.move (e_Limpl_Version x7.1) rfl (hn := ?_)
   refine LWo.move (e_Limpl_Write x7.2.1) rfl (hn := ?_)
   refine LWo.move (e_int x7.2.2) rfl (hn := ?_)
   refine bk h fun x11 e11 h => ?_
   refine LWo.vcall rfl rfl (c_spec_WrittenAt _ _ _ _ e11) (.same (.same (.same (.nil)))) (hn := ?_)
   refine LWo.move (.tup [(e_Limpl_Version x11.1), (e_bool x11.2)]) rfl (hn := ?_)
   refine LWo.extract (e_Limpl_Version x11.1) rfl rfl (hn := ?_)
   refine LWo.extract (e_bool x11.2) rfl rfl (hn := ?_)
   refine LWo.assign (e_Limpl_Version x11.1) rfl (hn := ?_)
   refine LWo.assign (e_bool x11.2) rfl (hn := ?_)
   refine LWo.nil (hN10 _ ?_)
   refine LWP.seq_k fun N12 hN12 => ?_
   refine LWP.join (α := (List S_impl_Version) × (List S_impl_Write) × Int × (List S_impl_Version) × Bool × Bool) (fun z : (List S_impl_Version) × (List S_impl_Write) × Int × (List S_impl_Version) × Bool × Bool => [(3, (e_Limpl_Version z.1)), (4, (e_Limpl_Write z.2.1)), (5, (e_int z.2.2.1)), (6, (e_Limpl_Version z.2.2.2.1)), (7, (e_bool z.2.2.2.2.1)), (47, (e_bool z.2.2.2.2.2))]) (fun z : (List S_impl_Version) × (List S_impl_Write) × Int × (List S_impl_Version) × Bool × Bool => []) (fun z : (List S_impl_Version) × (List S_impl_Write) × Int × (List S_impl_Version) × Bool × Bool => m_laws_FnWrittenAt_j1  z.1 z.2.1 z.2.2.1 z.2.2.2.1 z.2.2.2.2.1 z.2.2.2.2.2) r (fun _ => by simp [hkeys]) ?_ ?_
   ·rintro ⟨t3, t4, t5, t6, t7, t47⟩ h
    replace h : m_laws_FnWrittenAt_j1  t3 t4 t5 t6 t7 t47 = some _ := h
    refine LWP.cond_split rfl (fun h16 => ?_) (fun h16 => ?_)
    ·have h := bT h16 h
     refine LWP.seq_k fun N17 hN17 => ?_
     refine LWP.region (l := [_]) ?_
     refine LWo.assign (e_bool false) rfl (hn := ?_)
     refine LWo.nil (hN17 _ ?_)
     obtain rfl := Option.some.inj h
     refine LWP.ret (QG.mk (.inr rfl) (.cons (.tmp (x := (e_bool false)) rfl) (.nil)) (RetOK.one0 (.pure rfl) (by decide)) rfl rfl)
    ·have h := bF h16 h
     refine LWP.skip (hN12 _ ?_)
     refine LWP.seq_k fun N18 hN18 => ?_
     refine LWP.seq_k fun N19 hN19 => ?_
     refine LWP.region (l := [_,_]) ?_
     refine LWo.move (e_bool t7) rfl (hn := ?_)
     refine LWo.not rfl (hn := ?_)
     refine LWo.nil (hN19 _ ?_)
     refine LWP.cond_split rfl (fun h20 => ?_) (fun h20 => ?_)
     ·have h := bT h20 h
      refine LWP.seq_k fun N21 hN21 => ?_
      refine LWP.region (l := [_,_]) ?_
      refine bk h fun x22 e22 h => ?_
      refine LWo.vcall rfl rfl (c_laws_alive  _ e22) (.nil) (hn := ?_)
      refine LWo.assign (e_bool x22) rfl (hn := ?_)
      refine LWo.nil (hN21 _ ?_)
      obtain rfl := Option.some.inj h
      refine LWP.ret (QG.mk (.inr rfl) (.cons (.tmp (x := (e_bool x22)) rfl) (.nil)) (RetOK.one0 (.pure rfl) (by decide)) rfl rfl)
     ·have h := bF h20 h
      refine LWP.skip (hN18 _ ?_)
      refine LWP.join (α := (List S_impl_Version)) (fun z : (List S_impl_Version) => [(6, (e_Limpl_Version z))]) (fun z : (List S_impl_Version) => []) (fun z : (List S_impl_Version) => m_laws_FnWrittenAt_j8  z) r (fun _ => by simp [hkeys]) ?_ ?_
      ·rintro t6 h
       replace h : m_laws_FnWrittenAt_j8  t6 = some _ := h
       refine LWP.join (α := Bool) (fun z : Bool => [(2, (e_bool z))]) (fun z : Bool => []) (fun z : Bool => m_laws_FnWrittenAt_j9  z) r (fun _ => by simp [hkeys]) ?_ ?_
       ·rintro t2 h
        replace h : m_laws_FnWrittenAt_j9  t2 = some _ := h
        obtain rfl := Option.some.inj h
        refine LWP.ret (QG.mk (.inr rfl) (.cons (.tmp (x := (e_bool t2)) rfl) (.nil)) (RetOK.one0 (.pure rfl) (by decide)) rfl rfl)
       ·intro N73 hN73
        refine LWP.region (l := [_,_,_,_,_,_]) ?_
        refine LWo.move (e_Limpl_Version t6) rfl (hn := ?_)
        refine bk h fun x74 e74 h => ?_
        refine LWo.vcall rfl rfl (c_impl_VersionsOk _ _ e74) (.same (.nil)) (hn := ?_)
        refine LWo.move (e_bool x74) rfl (hn := ?_)
        refine LWo.byCases (t := 115) _ rfl (fun h75 => ?_) (fun h75 => ?_)
        ·have h := bT h75 h
         refine bk h fun x76 e76 h => ?_
         refine LWo.guardY (t := 115) rfl h75 rfl rfl ?_
         refine LWo.vcall rfl rfl (c_laws_alive  _ e76) (.nil) (hn := ?_)
         refine LWo.pickTM (e_bool x76) rfl h75 rfl (hn := ?_)
         refine LWo.assign (e_bool x76) rfl (hn := ?_)
         refine LWo.nil (hN73 x76 _ ⟨rfl, trivial⟩ trivial h)
        ·have h := bF h75 h
         refine LWo.guardNU (t := 115) rfl h75 rfl rfl rfl rfl rfl ?_
         refine LWo.pickFM (e_bool false) rfl h75 rfl (hn := ?_)
         refine LWo.assign (e_bool false) rfl (hn := ?_)
         refine LWo.nil (hN73 false _ ⟨rfl, trivial⟩ trivial h)
      ·intro N23 hN23
       refine LWP.seq_k fun N24 hN24 => ?_
       refine LWP.region (l := [_]) ?_
       refine LWo.assign (e_int (0 : Int)) rfl (hn := ?_)
       refine LWo.nil (hN24 _ ?_)
       refine LWP.block ?_
       refine LWP.loopM (α := (List S_impl_Version) × (List S_impl_Write) × Int × (List S_impl_Version) × Int) (fun z : (List S_impl_Version) × (List S_impl_Write) × Int × (List S_impl_Version) × Int => [(3, (e_Limpl_Version z.1)), (4, (e_Limpl_Write z.2.1)), (5, (e_int z.2.2.1)), (6, (e_Limpl_Version z.2.2.2.1)), (10, (e_int z.2.2.2.2))]) (fun z : (List S_impl_Version) × (List S_impl_Write) × Int × (List S_impl_Version) × Int => []) (fun n1 (z : (List S_impl_Version) × (List S_impl_Write) × Int × (List S_impl_Version) × Int) => m_laws_FnWrittenAt_l1  n1 z.1 z.2.1 z.2.2.1 z.2.2.2.1 z.2.2.2.2) r _ (t3, t4, t5, t6, (0 : Int)) h (fun _ => rfl) (fun _ => by simp [hkeys]) ⟨rfl, rfl, rfl, rfl, rfl, trivial⟩ trivial ?_
       rintro n1 ⟨t3, t4, t5, t6, t10⟩ h N25 hN25
       replace h : m_laws_FnWrittenAt_l1  (n1 + 1) t3 t4 t5 t6 t10 = some _ := h
       refine LWP.seq_k fun N27 hN27 => ?_
       refine LWP.seq_k fun N28 hN28 => ?_
       refine LWP.region (l := [_,_]) ?_
       refine LWo.move (e_int t10) rfl (hn := ?_)
       refine LWo.int _ rfl rfl rfl (hn := ?_)
       refine LWo.nil (hN28 _ ?_)
       refine LWP.cond_split rfl (fun h29 => ?_) (fun h29 => ?_)
       ·have h := bT h29 h
        refine LWP.skip (hN27 _ ?_)
        refine LWP.join (α := (List S_impl_Version) × (List S_impl_Write) × Int × (List S_impl_Version) × Int) (fun z : (List S_impl_Version) × (List S_impl_Write) × Int × (List S_impl_Version) × Int => [(3, (e_Limpl_Version z.1)), (4, (e_Limpl_Write z.2.1)), (5, (e_int z.2.2.1)), (6, (e_Limpl_Version z.2.2.2.1)), (10, (e_int z.2.2.2.2))]) (fun z : (List S_impl_Version) × (List S_impl_Write) × Int × (List S_impl_Version) × Int => []) (fun z : (List S_impl_Version) × (List S_impl_Write) × Int × (List S_impl_Version) × Int => m_laws_FnWrittenAt_j7  (m_laws_FnWrittenAt_l1  n1) z.1 z.2.1 z.2.2.1 z.2.2.2.1 z.2.2.2.2) r (fun _ => by simp [hkeys]) ?_ ?_
        ·rintro ⟨t3, t4, t5, t6, t10⟩ h
         replace h : m_laws_FnWrittenAt_j7  (m_laws_FnWrittenAt_l1  n1) t3 t4 t5 t6 t10 = some _ := h
         refine LWP.region (l := [_,_,_]) ?_
         refine LWo.move (e_int t10) rfl (hn := ?_)
         refine bk h fun x72 e72 h => ?_
         refine LWo.int _ rfl rfl (add_ck e72) (hn := ?_)
         refine LWo.assign (e_int x72) rfl (hn := ?_)
         refine LWo.nil (hN25 (t3, t4, t5, t6, x72) _ ⟨rfl, rfl, rfl, rfl, rfl, trivial⟩ trivial h)
        ·intro N30 hN30
         refine LWP.block ?_
         refine LWP.join (α := (List S_impl_Version) × (List S_impl_Write) × Int × (List S_impl_Version) × Int) (fun z : (List S_impl_Version) × (List S_impl_Write) × Int × (List S_impl_Version) × Int => [(3, (e_Limpl_Version z.1)), (4, (e_Limpl_Write z.2.1)), (5, (e_int z.2.2.1)), (6, (e_Limpl_Version z.2.2.2.1)), (10, (e_int z.2.2.2.2))]) (fun z : (List S_impl_Version) × (List S_impl_Write) × Int × (List S_impl_Version) × Int => []) (fun z : (List S_impl_Version) × (List S_impl_Write) × Int × (List S_impl_Version) × Int => m_laws_FnWrittenAt_j2  (m_laws_FnWrittenAt_l1  n1) z.1 z.2.1 z.2.2.1 z.2.2.2.1 z.2.2.2.2) r (fun _ => by simp [hkeys]) ?_ ?_
         ·rintro ⟨t3, t4, t5, t6, t10⟩ h
          replace h : m_laws_FnWrittenAt_j2  (m_laws_FnWrittenAt_l1  n1) t3 t4 t5 t6 t10 = some _ := h
          refine LWP.seq_k fun N44 hN44 => ?_
          refine LWP.region (l := [_]) ?_
          refine LWo.assign (e_bool false) rfl (hn := ?_)
          refine LWo.nil (hN44 _ ?_)
          refine LWP.join (α := (List S_impl_Version) × (List S_impl_Write) × Int × (List S_impl_Version) × Int × Bool) (fun z : (List S_impl_Version) × (List S_impl_Write) × Int × (List S_impl_Version) × Int × Bool => [(3, (e_Limpl_Version z.1)), (4, (e_Limpl_Write z.2.1)), (5, (e_int z.2.2.1)), (6, (e_Limpl_Version z.2.2.2.1)), (10, (e_int z.2.2.2.2.1)), (12, (e_bool z.2.2.2.2.2))]) (fun z : (List S_impl_Version) × (List S_impl_Write) × Int × (List S_impl_Version) × Int × Bool => []) (fun z : (List S_impl_Version) × (List S_impl_Write) × Int × (List S_impl_Version) × Int × Bool => m_laws_FnWrittenAt_j5  (m_laws_FnWrittenAt_l1  n1) z.1 z.2.1 z.2.2.1 z.2.2.2.1 z.2.2.2.2.1 z.2.2.2.2.2) r (fun _ => by simp [hkeys]) ?_ ?_
          ·rintro ⟨t3, t4, t5, t6, t10, t12⟩ h
           replace h : m_laws_FnWrittenAt_j5  (m_laws_FnWrittenAt_l1  n1) t3 t4 t5 t6 t10 t12 = some _ := h
           refine LWP.join (α := (List S_impl_Version) × (List S_impl_Write) × Int × (List S_impl_Version) × Int × Bool) (fun z : (List S_impl_Version) × (List S_impl_Write) × Int × (List S_impl_Version) × Int × Bool => [(3, (e_Limpl_Version z.1)), (4, (e_Limpl_Write z.2.1)), (5, (e_int z.2.2.1)), (6, (e_Limpl_Version z.2.2.2.1)), (10, (e_int z.2.2.2.2.1)), (112, (e_bool z.2.2.2.2.2))]) (fun z : (List S_impl_Version) × (List S_impl_Write) × Int × (List S_impl_Version) × Int × Bool => []) (fun z : (List S_impl_Version) × (List S_impl_Write) × Int × (List S_impl_Version) × Int × Bool => m_laws_FnWrittenAt_j6  (m_laws_FnWrittenAt_l1  n1) z.1 z.2.1 z.2.2.1 z.2.2.2.1 z.2.2.2.2.1 z.2.2.2.2.2) r (fun _ => by simp [hkeys]) ?_ ?_
           ·rintro ⟨t3, t4, t5, t6, t10, t112⟩ h
            replace h : m_laws_FnWrittenAt_j6  (m_laws_FnWrittenAt_l1  n1) t3 t4 t5 t6 t10 t112 = some _ := h
            refine LWP.cond_split rfl (fun h70 => ?_) (fun h70 => ?_)
            ·have h := bT h70 h
             refine LWP.seq_k fun N71 hN71 => ?_
             refine LWP.region (l := [_]) ?_
             refine LWo.assign (e_bool false) rfl (hn := ?_)
             refine LWo.nil (hN71 _ ?_)
             obtain rfl := Option.some.inj h
             refine LWP.ret (QG.mk (.inr rfl) (.cons (.tmp (x := (e_bool false)) rfl) (.nil)) (RetOK.one0 (.pure rfl) (by decide)) rfl rfl)
            ·have h := bF h70 h
             refine LWP.skip (hN30 (t3, t4, t5, t6, t10) _ ⟨rfl, rfl, rfl, rfl, rfl, trivial⟩ trivial h)
           ·intro N67 hN67
            refine LWP.region (l := [_,_,_,_,_,_,_,_,_,_]) ?_
            refine LWo.move (e_bool t12) rfl (hn := ?_)
            refine LWo.not rfl (hn := ?_)
            refine LWo.move (e_bool (!t12)) rfl (hn := ?_)
            refine LWo.byCases (t := 105) _ rfl (fun h68 => ?_) (fun h68 => ?_)
            ·have h := bT h68 h
             refine LWo.guardY (t := 105) rfl h68 rfl rfl ?_
             refine LWo.move (e_Limpl_Version t3) rfl (hn := ?_)
             refine LWo.guardY (t := 105) rfl h68 rfl rfl ?_
             refine LWo.move (e_Limpl_Version t6) rfl (hn := ?_)
             refine LWo.guardY (t := 105) rfl h68 rfl rfl ?_
             refine LWo.move (e_int t10) rfl (hn := ?_)
             refine LWo.guardY (t := 105) rfl h68 rfl rfl ?_
             refine LWo.move (e_int t5) rfl (hn := ?_)
             refine bk h fun x69 e69 h => ?_
             refine LWo.guardY (t := 105) rfl h68 rfl rfl ?_
             refine LWo.vcall rfl rfl (c_laws_sameSeen _ _ _ _ _ e69) (.same (.same (.same (.same (.nil))))) (hn := ?_)
             refine LWo.guardY (t := 105) rfl h68 rfl rfl ?_
             refine LWo.not rfl (hn := ?_)
             refine LWo.pickTM (e_bool (!x69)) rfl h68 rfl (hn := ?_)
             refine LWo.nil (hN67 (t3, t4, t5, t6, t10, (!x69)) _ ⟨rfl, rfl, rfl, rfl, rfl, rfl, trivial⟩ trivial h)
            ·have h := bF h68 h
             refine LWo.guardNU (t := 105) rfl h68 rfl rfl rfl rfl rfl ?_
             refine LWo.guardNU (t := 105) rfl h68 rfl rfl rfl rfl rfl ?_
             refine LWo.guardNU (t := 105) rfl h68 rfl rfl rfl rfl rfl ?_
             refine LWo.guardNU (t := 105) rfl h68 rfl rfl rfl rfl rfl ?_
             refine LWo.guardNU (t := 105) rfl h68 rfl rfl rfl rfl rfl ?_
             refine LWo.guardNU (t := 105) rfl h68 rfl rfl rfl rfl rfl ?_
             refine LWo.pickFM (e_bool false) rfl h68 rfl (hn := ?_)
             refine LWo.nil (hN67 (t3, t4, t5, t6, t10, false) _ ⟨rfl, rfl, rfl, rfl, rfl, rfl, trivial⟩ trivial h)
          ·intro N45 hN45
           refine LWP.seq_k fun N46 hN46 => ?_
           refine LWP.region (l := [_]) ?_
           refine LWo.assign (e_int (0 : Int)) rfl (hn := ?_)
           refine LWo.nil (hN46 _ ?_)
           refine LWP.block ?_
           refine LWP.loopM (α := (List S_impl_Version) × (List S_impl_Write) × Int × (List S_impl_Version) × Int × Bool × Int) (fun z : (List S_impl_Version) × (List S_impl_Write) × Int × (List S_impl_Version) × Int × Bool × Int => [(3, (e_Limpl_Version z.1)), (4, (e_Limpl_Write z.2.1)), (5, (e_int z.2.2.1)), (6, (e_Limpl_Version z.2.2.2.1)), (10, (e_int z.2.2.2.2.1)), (12, (e_bool z.2.2.2.2.2.1)), (13, (e_int z.2.2.2.2.2.2))]) (fun z : (List S_impl_Version) × (List S_impl_Write) × Int × (List S_impl_Version) × Int × Bool × Int => []) (fun n3 (z : (List S_impl_Version) × (List S_impl_Write) × Int × (List S_impl_Version) × Int × Bool × Int) => m_laws_FnWrittenAt_l3  (m_laws_FnWrittenAt_l1  n1) n3 z.1 z.2.1 z.2.2.1 z.2.2.2.1 z.2.2.2.2.1 z.2.2.2.2.2.1 z.2.2.2.2.2.2) r _ (t3, t4, t5, t6, t10, false, (0 : Int)) h (fun _ => rfl) (fun _ => by simp [hkeys]) ⟨rfl, rfl, rfl, rfl, rfl, rfl, rfl, trivial⟩ trivial ?_
           rintro n3 ⟨t3, t4, t5, t6, t10, t12, t13⟩ h N47 hN47
           replace h : m_laws_FnWrittenAt_l3  (m_laws_FnWrittenAt_l1  n1) (n3 + 1) t3 t4 t5 t6 t10 t12 t13 = some _ := h
           refine LWP.seq_k fun N49 hN49 => ?_
           refine LWP.seq_k fun N50 hN50 => ?_
           refine LWP.region (l := [_,_,_,_]) ?_
           refine LWo.move (e_int t13) rfl (hn := ?_)
           refine LWo.move (e_Limpl_Write t4) rfl (hn := ?_)
           refine LWo.lenM (f := e_impl_Write) (l := t4) u_Limpl_Write rfl (hn := ?_)
           refine LWo.int _ rfl rfl rfl (hn := ?_)
           refine LWo.nil (hN50 _ ?_)
           refine LWP.cond_split rfl (fun h51 => ?_) (fun h51 => ?_)
           ·have h := bT h51 h
            refine LWP.skip (hN49 _ ?_)
            refine LWP.join (α := (List S_impl_Version) × (List S_impl_Write) × Int × (List S_impl_Version) × Int × Bool × Int) (fun z : (List S_impl_Version) × (List S_impl_Write) × Int × (List S_impl_Version) × Int × Bool × Int => [(3, (e_Limpl_Version z.1)), (4, (e_Limpl_Write z.2.1)), (5, (e_int z.2.2.1)), (6, (e_Limpl_Version z.2.2.2.1)), (10, (e_int z.2.2.2.2.1)), (12, (e_bool z.2.2.2.2.2.1)), (13, (e_int z.2.2.2.2.2.2))]) (fun z : (List S_impl_Version) × (List S_impl_Write) × Int × (List S_impl_Version) × Int × Bool × Int => []) (fun z : (List S_impl_Version) × (List S_impl_Write) × Int × (List S_impl_Version) × Int × Bool × Int => m_laws_FnWrittenAt_j4  (m_laws_FnWrittenAt_l1  n1) (m_laws_FnWrittenAt_l3  (m_laws_FnWrittenAt_l1  n1) n3) z.1 z.2.1 z.2.2.1 z.2.2.2.1 z.2.2.2.2.1 z.2.2.2.2.2.1 z.2.2.2.2.2.2) r (fun _ => by simp [hkeys]) ?_ ?_
            ·rintro ⟨t3, t4, t5, t6, t10, t12, t13⟩ h
             replace h : m_laws_FnWrittenAt_j4  (m_laws_FnWrittenAt_l1  n1) (m_laws_FnWrittenAt_l3  (m_laws_FnWrittenAt_l1  n1) n3) t3 t4 t5 t6 t10 t12 t13 = some _ := h
             refine LWP.region (l := [_,_,_]) ?_
             refine LWo.move (e_int t13) rfl (hn := ?_)
             refine bk h fun x66 e66 h => ?_
             refine LWo.int _ rfl rfl (add_ck e66) (hn := ?_)
             refine LWo.assign (e_int x66) rfl (hn := ?_)
             refine LWo.nil (hN47 (t3, t4, t5, t6, t10, t12, x66) _ ⟨rfl, rfl, rfl, rfl, rfl, rfl, rfl, trivial⟩ trivial h)
            ·intro N52 hN52
             refine LWP.block ?_
             refine LWP.seq_k fun N53 hN53 => ?_
             refine LWP.region (l := [_,_,_,_,_,_,_]) ?_
             refine LWo.move (e_Limpl_Write t4) rfl (hn := ?_)
             refine LWo.move (e_int t13) rfl (hn := ?_)
             refine bk h fun x54 e54 h => ?_
             refine LWo.indexM (f := e_impl_Write) e54 u_Limpl_Write s_impl_Write rfl rfl (hn := ?_)
             refine LWo.fieldAddr _ u_impl_Write rfl s_int rfl rfl (hn := ?_)
             refine LWo.load1 (c := (e_int x54.Key)) g_int rfl (hn := ?_)
             refine LWo.move (e_int t10) rfl (hn := ?_)
             refine LWo.int _ rfl rfl rfl (hn := ?_)
             refine LWo.nil (hN53 _ ?_)
             refine LWP.cond_split rfl (fun h55 => ?_) (fun h55 => ?_)
             ·have h := bT h55 h
              refine LWP.seq_k fun N56 hN56 => ?_
              refine LWP.region (l := [_]) ?_
              refine LWo.assign (e_bool true) rfl (hn := ?_)
              refine LWo.nil (hN56 _ ?_)
              refine LWP.seq_k fun N57 hN57 => ?_
              refine LWP.region (l := [_,_,_,_,_,_,_,_,_]) ?_
              refine LWo.move (e_Limpl_Version t6) rfl (hn := ?_)
              refine LWo.move (e_int t10) rfl (hn := ?_)
              refine LWo.move (e_int t5) rfl (hn := ?_)
              refine bk h fun x58 e58 h => ?_
              refine LWo.vcall rfl rfl (c_impl_SeenAt _ _ _ _ e58) (.same (.same (.same (.nil)))) (hn := ?_)
              refine LWo.move (.tup [(e_Limpl_Value x58.1), (e_bool x58.2)]) rfl (hn := ?_)
              refine LWo.extract (e_Limpl_Value x58.1) rfl rfl (hn := ?_)
              refine LWo.extract (e_bool x58.2) rfl rfl (hn := ?_)
              refine LWo.assign (e_Limpl_Value x58.1) rfl (hn := ?_)
              refine LWo.assign (e_bool x58.2) rfl (hn := ?_)
              refine LWo.nil (hN57 _ ?_)
              refine LWP.join (α := (List S_impl_Version) × (List S_impl_Write) × Int × (List S_impl_Version) × Int × Bool × Int × Bool) (fun z : (List S_impl_Version) × (List S_impl_Write) × Int × (List S_impl_Version) × Int × Bool × Int × Bool => [(3, (e_Limpl_Version z.1)), (4, (e_Limpl_Write z.2.1)), (5, (e_int z.2.2.1)), (6, (e_Limpl_Version z.2.2.2.1)), (10, (e_int z.2.2.2.2.1)), (12, (e_bool z.2.2.2.2.2.1)), (13, (e_int z.2.2.2.2.2.2.1)), (102, (e_bool z.2.2.2.2.2.2.2))]) (fun z : (List S_impl_Version) × (List S_impl_Write) × Int × (List S_impl_Version) × Int × Bool × Int × Bool => []) (fun z : (List S_impl_Version) × (List S_impl_Write) × Int × (List S_impl_Version) × Int × Bool × Int × Bool => m_laws_FnWrittenAt_j3  (m_laws_FnWrittenAt_l1  n1) (m_laws_FnWrittenAt_l3  (m_laws_FnWrittenAt_l1  n1) n3) z.1 z.2.1 z.2.2.1 z.2.2.2.1 z.2.2.2.2.1 z.2.2.2.2.2.1 z.2.2.2.2.2.2.1 z.2.2.2.2.2.2.2) r (fun _ => by simp [hkeys]) ?_ ?_
              ·rintro ⟨t3, t4, t5, t6, t10, t12, t13, t102⟩ h
               replace h : m_laws_FnWrittenAt_j3  (m_laws_FnWrittenAt_l1  n1) (m_laws_FnWrittenAt_l3  (m_laws_FnWrittenAt_l1  n1) n3) t3 t4 t5 t6 t10 t12 t13 t102 = some _ := h
               refine LWP.cond_split rfl (fun h64 => ?_) (fun h64 => ?_)
               ·have h := bT h64 h
                refine LWP.seq_k fun N65 hN65 => ?_
                refine LWP.region (l := [_]) ?_
                refine LWo.assign (e_bool false) rfl (hn := ?_)
                refine LWo.nil (hN65 _ ?_)
                obtain rfl := Option.some.inj h
                refine LWP.ret (QG.mk (.inr rfl) (.cons (.tmp (x := (e_bool false)) rfl) (.nil)) (RetOK.one0 (.pure rfl) (by decide)) rfl rfl)
               ·have h := bF h64 h
                refine LWP.skip (hN52 (t3, t4, t5, t6, t10, t12, t13) _ ⟨rfl, rfl, rfl, rfl, rfl, rfl, rfl, trivial⟩ trivial h)
              ·intro N59 hN59
               refine LWP.region (l := [_,_,_,_,_,_,_,_,_,_,_,_,_,_,_,_,_]) ?_
               refine LWo.move (e_bool x58.2) rfl (hn := ?_)
               refine LWo.move (e_Limpl_Write t4) rfl (hn := ?_)
               refine LWo.move (e_int t13) rfl (hn := ?_)
               refine bk h fun x60 e60 h => ?_
               refine LWo.indexM (f := e_impl_Write) e60 u_Limpl_Write s_impl_Write rfl rfl (hn := ?_)
               refine LWo.fieldAddr _ u_impl_Write rfl s_bool rfl rfl (hn := ?_)
               refine LWo.load1 (c := (e_bool x60.Gone)) g_bool rfl (hn := ?_)
               refine LWo.boolEq u_bool rfl rfl (hn := ?_)
               refine LWo.move (e_bool (x58.2 == x60.Gone)) rfl (hn := ?_)
               refine LWo.byCases (t := 93) _ rfl (fun h61 => ?_) (fun h61 => ?_)
               ·have h := bT h61 h
                refine LWo.guardNU (t := 93) rfl h61 rfl rfl rfl rfl rfl ?_
                refine LWo.guardNU (t := 93) rfl h61 rfl rfl rfl rfl rfl ?_
                refine LWo.guardNU (t := 93) rfl h61 rfl rfl rfl rfl rfl ?_
                refine LWo.guardNU (t := 93) rfl h61 rfl rfl rfl rfl rfl ?_
                refine LWo.guardNU (t := 93) rfl h61 rfl rfl rfl rfl rfl ?_
                refine LWo.guardNU (t := 93) rfl h61 rfl rfl rfl rfl rfl ?_
                refine LWo.guardNU (t := 93) rfl h61 rfl rfl rfl rfl rfl ?_
                refine LWo.guardNU (t := 93) rfl h61 rfl rfl rfl rfl rfl ?_
                refine LWo.pickTM (e_bool true) rfl h61 rfl (hn := ?_)
                refine LWo.nil (hN59 (t3, t4, t5, t6, t10, true, t13, true) _ ⟨rfl, rfl, rfl, rfl, rfl, rfl, rfl, rfl, trivial⟩ trivial h)
               ·have h := bF h61 h
                refine LWo.guardY (t := 93) rfl h61 rfl rfl ?_
                refine LWo.move (e_Limpl_Value x58.1) rfl (hn := ?_)
                refine LWo.guardY (t := 93) rfl h61 rfl rfl ?_
                refine LWo.move (e_Limpl_Write t4) rfl (hn := ?_)
                refine LWo.guardY (t := 93) rfl h61 rfl rfl ?_
                refine LWo.move (e_int t13) rfl (hn := ?_)
                refine bk h fun x62 e62 h => ?_
                refine LWo.guardY (t := 93) rfl h61 rfl rfl ?_
                refine LWo.indexM (f := e_impl_Write) e62 u_Limpl_Write s_impl_Write rfl rfl (hn := ?_)
                refine LWo.guardY (t := 93) rfl h61 rfl rfl ?_
                refine LWo.fieldAddr _ u_impl_Write rfl s_Limpl_Value rfl rfl (hn := ?_)
                refine LWo.guardY (t := 93) rfl h61 rfl rfl ?_
                refine LWo.load1 (c := (e_Limpl_Value x62.Row)) g_Limpl_Value rfl (hn := ?_)
                refine bk h fun x63 e63 h => ?_
                refine LWo.guardY (t := 93) rfl h61 rfl rfl ?_
                refine LWo.vcall rfl rfl (c_laws_sameRow _ _ _ e63) (.same (.same (.nil))) (hn := ?_)
                refine LWo.guardY (t := 93) rfl h61 rfl rfl ?_
                refine LWo.not rfl (hn := ?_)
                refine LWo.pickFM (e_bool (!x63)) rfl h61 rfl (hn := ?_)
                refine LWo.nil (hN59 (t3, t4, t5, t6, t10, true, t13, (!x63)) _ ⟨rfl, rfl, rfl, rfl, rfl, rfl, rfl, rfl, trivial⟩ trivial h)
             ·have h := bF h55 h
              refine LWP.skip (hN52 (t3, t4, t5, t6, t10, t12, t13) _ ⟨rfl, rfl, rfl, rfl, rfl, rfl, rfl, trivial⟩ trivial h)
           ·have h := bF h51 h
            refine LWP.exit (hN45 (t3, t4, t5, t6, t10, t12) _ ⟨rfl, rfl, rfl, rfl, rfl, rfl, trivial⟩ trivial h)
         ·intro N31 hN31
          refine LWP.seq_k fun N32 hN32 => ?_
          refine LWP.region (l := [_]) ?_
          refine LWo.assign (e_int (0 : Int)) rfl (hn := ?_)
          refine LWo.nil (hN32 _ ?_)
          refine LWP.block ?_
          refine LWP.loopM (α := (List S_impl_Version) × (List S_impl_Write) × Int × (List S_impl_Version) × Int × Int) (fun z : (List S_impl_Version) × (List S_impl_Write) × Int × (List S_impl_Version) × Int × Int => [(3, (e_Limpl_Version z.1)), (4, (e_Limpl_Write z.2.1)), (5, (e_int z.2.2.1)), (6, (e_Limpl_Version z.2.2.2.1)), (10, (e_int z.2.2.2.2.1)), (11, (e_int z.2.2.2.2.2))]) (fun z : (List S_impl_Version) × (List S_impl_Write) × Int × (List S_impl_Version) × Int × Int => []) (fun n2 (z : (List S_impl_Version) × (List S_impl_Write) × Int × (List S_impl_Version) × Int × Int) => m_laws_FnWrittenAt_l2  (m_laws_FnWrittenAt_l1  n1) n2 z.1 z.2.1 z.2.2.1 z.2.2.2.1 z.2.2.2.2.1 z.2.2.2.2.2) r _ (t3, t4, t5, t6, t10, (0 : Int)) h (fun _ => rfl) (fun _ => by simp [hkeys]) ⟨rfl, rfl, rfl, rfl, rfl, rfl, trivial⟩ trivial ?_
          rintro n2 ⟨t3, t4, t5, t6, t10, t11⟩ h N33 hN33
          replace h : m_laws_FnWrittenAt_l2  (m_laws_FnWrittenAt_l1  n1) (n2 + 1) t3 t4 t5 t6 t10 t11 = some _ := h
          refine LWP.seq_k fun N35 hN35 => ?_
          refine LWP.seq_k fun N36 hN36 => ?_
          refine LWP.region (l := [_,_,_]) ?_
          refine LWo.move (e_int t11) rfl (hn := ?_)
          refine LWo.move (e_int t5) rfl (hn := ?_)
          refine LWo.int _ rfl rfl rfl (hn := ?_)
          refine LWo.nil (hN36 _ ?_)
          refine LWP.cond_split rfl (fun h37 => ?_) (fun h37 => ?_)
          ·have h := bT h37 h
           refine LWP.skip (hN35 _ ?_)
           refine LWP.seq_k fun N38 hN38 => ?_
           refine LWP.block ?_
           refine LWP.seq_k fun N39 hN39 => ?_
           refine LWP.region (l := [_,_,_,_,_,_]) ?_
           refine LWo.move (e_Limpl_Version t3) rfl (hn := ?_)
           refine LWo.move (e_Limpl_Version t6) rfl (hn := ?_)
           refine LWo.move (e_int t10) rfl (hn := ?_)
           refine LWo.move (e_int t11) rfl (hn := ?_)
           refine bk h fun x40 e40 h => ?_
           refine LWo.vcall rfl rfl (c_laws_sameSeen _ _ _ _ _ e40) (.same (.same (.same (.same (.nil))))) (hn := ?_)
           refine LWo.not rfl (hn := ?_)
           refine LWo.nil (hN39 _ ?_)
           refine LWP.cond_split rfl (fun h41 => ?_) (fun h41 => ?_)
           ·have h := bT h41 h
            refine LWP.seq_k fun N42 hN42 => ?_
            refine LWP.region (l := [_]) ?_
            refine LWo.assign (e_bool false) rfl (hn := ?_)
            refine LWo.nil (hN42 _ ?_)
            obtain rfl := Option.some.inj h
            refine LWP.ret (QG.mk (.inr rfl) (.cons (.tmp (x := (e_bool false)) rfl) (.nil)) (RetOK.one0 (.pure rfl) (by decide)) rfl rfl)
           ·have h := bF h41 h
            refine LWP.skip (hN38 _ ?_)
            refine LWP.region (l := [_,_,_]) ?_
            refine LWo.move (e_int t11) rfl (hn := ?_)
            refine bk h fun x43 e43 h => ?_
            refine LWo.int _ rfl rfl (add_ck e43) (hn := ?_)
            refine LWo.assign (e_int x43) rfl (hn := ?_)
            refine LWo.nil (hN33 (t3, t4, t5, t6, t10, x43) _ ⟨rfl, rfl, rfl, rfl, rfl, rfl, trivial⟩ trivial h)
          ·have h := bF h37 h
           refine LWP.exit (hN31 (t3, t4, t5, t6, t10) _ ⟨rfl, rfl, rfl, rfl, rfl, trivial⟩ trivial h)
       ·have h := bF h29 h
        refine LWP.exit (hN23 t6 _ ⟨rfl, trivial⟩ trivial h)
   ·intro N13 hN13
    refine LWP.region (l := [_,_,_,_,_,_,_,_,_]) ?_
    refine LWo.move (e_bool x9.2) rfl (hn := ?_)
    refine LWo.move (e_bool x11.2) rfl (hn := ?_)
    refine LWo.boolNe u_bool rfl rfl (hn := ?_)
    refine LWo.move (e_bool (x9.2 != x11.2)) rfl (hn := ?_)
    refine LWo.byCases (t := 42) _ rfl (fun h14 => ?_) (fun h14 => ?_)
    ·have h := bT h14 h
     refine LWo.guardNU (t := 42) rfl h14 rfl rfl rfl rfl rfl ?_
     refine LWo.guardNU (t := 42) rfl h14 rfl rfl rfl rfl rfl ?_
     refine LWo.guardNU (t := 42) rfl h14 rfl rfl rfl rfl rfl ?_
     refine LWo.guardNU (t := 42) rfl h14 rfl rfl rfl rfl rfl ?_
     refine LWo.pickTM (e_bool true) rfl h14 rfl (hn := ?_)
     refine LWo.nil (hN13 (x7.1, x7.2.1, x7.2.2, x9.1, x9.2, true) _ ⟨rfl, rfl, rfl, rfl, rfl, rfl, trivial⟩ trivial h)
    ·have h := bF h14 h
     refine LWo.guardY (t := 42) rfl h14 rfl rfl ?_
     refine LWo.move (e_Limpl_Version x9.1) rfl (hn := ?_)
     refine LWo.guardY (t := 42) rfl h14 rfl rfl ?_
     refine LWo.move (e_Limpl_Version x11.1) rfl (hn := ?_)
     refine bk h fun x15 e15 h => ?_
     refine LWo.guardY (t := 42) rfl h14 rfl rfl ?_
     refine LWo.vcall rfl rfl (c_laws_sameVersions _ _ _ e15) (.same (.same (.nil))) (hn := ?_)
     refine LWo.guardY (t := 42) rfl h14 rfl rfl ?_
     refine LWo.not rfl (hn := ?_)
     refine LWo.pickFM (e_bool (!x15)) rfl h14 rfl (hn := ?_)
     refine LWo.nil (hN13 (x7.1, x7.2.1, x7.2.2, x9.1, x9.2, (!x15)) _ ⟨rfl, rfl, rfl, rfl, rfl, rfl, trivial⟩ trivial h)
end Go.Proofs.Ytijihchddhikhaa
