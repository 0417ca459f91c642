/- Mirrors of functions, and that the functions return what the mirrors say. -/
import Derived.Test.YtijihchddhikhaaXW5
set_option linter.unusedVariables false
set_option linter.unusedSimpArgs false
set_option linter.unnecessarySimpa false
namespace Go.Proofs.Ytijihchddhikhaa
open Go.Proofs Go.Lift Go.RowKit
def m_laws_FnWholeSweep_j3 (t2 : Bool) : Option Bool :=
  some t2
def m_laws_FnWholeSweep_j2 (t2 : Bool) : Option Bool :=
  some t2
def m_laws_FnWholeSweep_j1 (t6 : Int) (t7 : (List S_impl_Version)) (t8 : Bool) (t9 : (List S_impl_Version)) (t10 : Bool) (t42 : Bool) : Option Bool :=
  bif t42 then (bif (t8 == t10) then ((m_laws_alive ).bind fun x19 =>
      m_laws_FnWholeSweep_j2  x19)
    else (m_laws_FnWholeSweep_j2  false))
  else ((m_impl_SweptAt t9 t6).bind fun x21 =>
  (m_impl_SweptAt t7 t6).bind fun x22 =>
  (m_laws_sameVersions x21 x22).bind fun x23 =>
  bif x23 then ((m_laws_alive ).bind fun x25 =>
  m_laws_FnWholeSweep_j3  x25)
  else (m_laws_FnWholeSweep_j3  false))
def m_laws_FnWholeSweep (a0 : (List UInt8)) : Option Bool :=
  bif decide ((a0.length : Int) > (1048576 : Int)) then (some true)
  else ((m_spec_DrawLater a0).bind fun x7 =>
  (m_impl_WrittenAt x7.1 x7.2.1 x7.2.2.1).bind fun x9 =>
  (m_impl_SweptAt x7.1 x7.2.2.2).bind fun x11 =>
  (m_impl_WrittenAt x11 x7.2.1 x7.2.2.1).bind fun x12 =>
  bif (!x9.2) then (m_laws_FnWholeSweep_j1  x7.2.2.2 x9.1 x9.2 x12.1 x12.2 true)
  else (m_laws_FnWholeSweep_j1  x7.2.2.2 x9.1 x9.2 x12.1 x12.2 (!x12.2)))
theorem c_laws_FnWholeSweep (a0 : (List UInt8)) (r : Bool) (h : m_laws_FnWholeSweep a0 = some r) : Ret Try.prog f_laws_FnWholeSweep [e_Luint8 a0] (e_bool r) := by
  refine Does.goG [] F_laws_FnWholeSweep rfl e_laws_FnWholeSweep n_laws_FnWholeSweep rfl (rvs := [.tmp 2]) rfl rfl ?_
  intro w0 ok0 lent ρ0
  refine LWP.seq_k fun N1 hN1 => ?_
  refine LWP.region (l := [_]) ?_
  refine LWo.assign (e_bool false) rfl (hn := ?_)
  refine LWo.nil (hN1 _ ?_)
  refine LWP.seq_k fun N2 hN2 => ?_
  refine LWP.seq_k fun N3 hN3 => ?_
  refine LWP.region (l := [_,_,_]) ?_
  refine LWo.move (e_Luint8 a0) rfl (hn := ?_)
  refine LWo.lenM (f := e_uint8) (l := a0) u_Luint8 rfl (hn := ?_)
  refine LWo.int _ rfl rfl rfl (hn := ?_)
  refine LWo.nil (hN3 _ ?_)
  refine LWP.cond_split rfl (fun h4 => ?_) (fun h4 => ?_)
  ·have h := bT h4 h
   refine LWP.seq_k fun N5 hN5 => ?_
   refine LWP.region (l := [_]) ?_
   refine LWo.assign (e_bool true) rfl (hn := ?_)
   refine LWo.nil (hN5 _ ?_)
   obtain rfl := Option.some.inj h
   refine LWP.ret (QG.mk (.inr rfl) (.cons (.tmp (x := (e_bool true)) rfl) (.nil)) (RetOK.one0 (.pure rfl) (by decide)) rfl rfl)
  ·have h := bF h4 h
   refine LWP.skip (hN2 _ ?_)
   refine LWP.seq_k fun N6 hN6 => ?_
   refine LWP.region (l := [_,_,_,_,_,_,_,_,_,_,_]) ?_
   refine LWo.move (e_Luint8 a0) rfl (hn := ?_)
   refine bk h fun x7 e7 h => ?_
   refine LWo.vcall rfl rfl (c_spec_DrawLater _ _ e7) (.same (.nil)) (hn := ?_)
   refine LWo.move (.tup [(e_Limpl_Version x7.1), (e_Limpl_Write x7.2.1), (e_int x7.2.2.1), (e_int x7.2.2.2)]) rfl (hn := ?_)
   refine LWo.extract (e_Limpl_Version x7.1) rfl rfl (hn := ?_)
   refine LWo.extract (e_Limpl_Write x7.2.1) rfl rfl (hn := ?_)
   refine LWo.extract (e_int x7.2.2.1) rfl rfl (hn := ?_)
   refine LWo.extract (e_int x7.2.2.2) rfl rfl (hn := ?_)
   refine LWo.assign (e_Limpl_Version x7.1) rfl (hn := ?_)
   refine LWo.assign (e_Limpl_Write x7.2.1) rfl (hn := ?_)
   refine LWo.assign (e_int x7.2.2.1) rfl (hn := ?_)
   refine LWo.assign (e_int x7.2.2.2) rfl (hn := ?_)
   refine LWo.nil (hN6 _ ?_)
   refine LWP.seq_k fun N8 hN8 => ?_
   refine LWP.region (l := [_,_,_,_,_,_,_,_,_]) ?_
   refine LWo.move (e_Limpl_Version x7.1) rfl (hn := ?_)
   refine LWo.move (e_Limpl_Write x7.2.1) rfl (hn := ?_)
   refine LWo.move (e_int x7.2.2.1) rfl (hn := ?_)
   refine bk h fun x9 e9 h => ?_
   refine LWo.vcall rfl rfl (c_impl_WrittenAt _ _ _ _ e9) (.same (.same (.same (.nil)))) (hn := ?_)
   refine LWo.move (.tup [(e_Limpl_Version x9.1), (e_bool x9.2)]) rfl (hn := ?_)
   refine LWo.extract (e_Limpl_Version x9.1) rfl rfl (hn := ?_)
   refine LWo.extract (e_bool x9.2) rfl rfl (hn := ?_)
   refine LWo.assign (e_Limpl_Version x9.1) rfl (hn := ?_)
   refine LWo.assign (e_bool x9.2) rfl (hn := ?_)
   refine LWo.nil (hN8 _ ?_)
   refine LWP.seq_k fun N10 hN10 => ?_
   refine LWP.region (l := [_,_,_,_,_,_,_,_,_,_,_]) ?_
   refine LWo.move (e_Limpl_Version x7.1) rfl (hn := ?_)
   refine LWo.move (e_int x7.2.2.2) rfl (hn := ?_)
   refine bk h fun x11 e11 h => ?_
   refine LWo.vcall rfl rfl (c_impl_SweptAt _ _ _ e11) (.same (.same (.nil))) (hn := ?_)
   refine LWo.move (e_Limpl_Write x7.2.1) rfl (hn := ?_)
   refine LWo.move (e_int x7.2.2.1) rfl (hn := ?_)
   refine bk h fun x12 e12 h => ?_
   refine LWo.vcall rfl rfl (c_impl_WrittenAt _ _ _ _ e12) (.same (.same (.same (.nil)))) (hn := ?_)
   refine LWo.move (.tup [(e_Limpl_Version x12.1), (e_bool x12.2)]) rfl (hn := ?_)
   refine LWo.extract (e_Limpl_Version x12.1) rfl rfl (hn := ?_)
   refine LWo.extract (e_bool x12.2) rfl rfl (hn := ?_)
   refine LWo.assign (e_Limpl_Version x12.1) rfl (hn := ?_)
   refine LWo.assign (e_bool x12.2) rfl (hn := ?_)
   refine LWo.nil (hN10 _ ?_)
   refine LWP.seq_k fun N13 hN13 => ?_
   refine LWP.join (α := Int × (List S_impl_Version) × Bool × (List S_impl_Version) × Bool × Bool) (fun z : Int × (List S_impl_Version) × Bool × (List S_impl_Version) × Bool × Bool => [(6, (e_int z.1)), (7, (e_Limpl_Version z.2.1)), (8, (e_bool z.2.2.1)), (9, (e_Limpl_Version z.2.2.2.1)), (10, (e_bool z.2.2.2.2.1)), (42, (e_bool z.2.2.2.2.2))]) (fun z : Int × (List S_impl_Version) × Bool × (List S_impl_Version) × Bool × Bool => []) (fun z : Int × (List S_impl_Version) × Bool × (List S_impl_Version) × Bool × Bool => m_laws_FnWholeSweep_j1  z.1 z.2.1 z.2.2.1 z.2.2.2.1 z.2.2.2.2.1 z.2.2.2.2.2) r (fun _ => by simp [hkeys]) ?_ ?_
   ·rintro ⟨t6, t7, t8, t9, t10, t42⟩ h
    replace h : m_laws_FnWholeSweep_j1  t6 t7 t8 t9 t10 t42 = some _ := h
    refine LWP.cond_split rfl (fun h16 => ?_) (fun h16 => ?_)
    ·have h := bT h16 h
     refine LWP.join (α := Bool) (fun z : Bool => [(2, (e_bool z))]) (fun z : Bool => []) (fun z : Bool => m_laws_FnWholeSweep_j2  z) r (fun _ => by simp [hkeys]) ?_ ?_
     ·rintro t2 h
      replace h : m_laws_FnWholeSweep_j2  t2 = some _ := h
      obtain rfl := Option.some.inj h
      refine LWP.ret (QG.mk (.inr rfl) (.cons (.tmp (x := (e_bool t2)) rfl) (.nil)) (RetOK.one0 (.pure rfl) (by decide)) rfl rfl)
     ·intro N17 hN17
      refine LWP.region (l := [_,_,_,_,_,_,_]) ?_
      refine LWo.move (e_bool t8) rfl (hn := ?_)
      refine LWo.move (e_bool t10) rfl (hn := ?_)
      refine LWo.boolEq u_bool rfl rfl (hn := ?_)
      refine LWo.move (e_bool (t8 == t10)) rfl (hn := ?_)
      refine LWo.byCases (t := 46) _ rfl (fun h18 => ?_) (fun h18 => ?_)
      ·have h := bT h18 h
       refine bk h fun x19 e19 h => ?_
       refine LWo.guardY (t := 46) rfl h18 rfl rfl ?_
       refine LWo.vcall rfl rfl (c_laws_alive  _ e19) (.nil) (hn := ?_)
       refine LWo.pickTM (e_bool x19) rfl h18 rfl (hn := ?_)
       refine LWo.assign (e_bool x19) rfl (hn := ?_)
       refine LWo.nil (hN17 x19 _ ⟨rfl, trivial⟩ trivial h)
      ·have h := bF h18 h
       refine LWo.guardNU (t := 46) rfl h18 rfl rfl rfl rfl rfl ?_
       refine LWo.pickFM (e_bool false) rfl h18 rfl (hn := ?_)
       refine LWo.assign (e_bool false) rfl (hn := ?_)
       refine LWo.nil (hN17 false _ ⟨rfl, trivial⟩ trivial h)
    ·have h := bF h16 h
     refine LWP.skip (hN13 _ ?_)
     refine LWP.join (α := Bool) (fun z : Bool => [(2, (e_bool z))]) (fun z : Bool => []) (fun z : Bool => m_laws_FnWholeSweep_j3  z) r (fun _ => by simp [hkeys]) ?_ ?_
     ·rintro t2 h
      replace h : m_laws_FnWholeSweep_j3  t2 = some _ := h
      obtain rfl := Option.some.inj h
      refine LWP.ret (QG.mk (.inr rfl) (.cons (.tmp (x := (e_bool t2)) rfl) (.nil)) (RetOK.one0 (.pure rfl) (by decide)) rfl rfl)
     ·intro N20 hN20
      refine LWP.region (l := [_,_,_,_,_,_,_,_,_,_,_]) ?_
      refine LWo.move (e_Limpl_Version t9) rfl (hn := ?_)
      refine LWo.move (e_int t6) rfl (hn := ?_)
      refine bk h fun x21 e21 h => ?_
      refine LWo.vcall rfl rfl (c_impl_SweptAt _ _ _ e21) (.same (.same (.nil))) (hn := ?_)
      refine LWo.move (e_Limpl_Version t7) rfl (hn := ?_)
      refine LWo.move (e_int t6) rfl (hn := ?_)
      refine bk h fun x22 e22 h => ?_
      refine LWo.vcall rfl rfl (c_impl_SweptAt _ _ _ e22) (.same (.same (.nil))) (hn := ?_)
      refine bk h fun x23 e23 h => ?_
      refine LWo.vcall rfl rfl (c_laws_sameVersions _ _ _ e23) (.same (.same (.nil))) (hn := ?_)
      refine LWo.move (e_bool x23) rfl (hn := ?_)
      refine LWo.byCases (t := 56) _ rfl (fun h24 => ?_) (fun h24 => ?_)
      ·have h := bT h24 h
       refine bk h fun x25 e25 h => ?_
       refine LWo.guardY (t := 56) rfl h24 rfl rfl ?_
       refine LWo.vcall rfl rfl (c_laws_alive  _ e25) (.nil) (hn := ?_)
       refine LWo.pickTM (e_bool x25) rfl h24 rfl (hn := ?_)
       refine LWo.assign (e_bool x25) rfl (hn := ?_)
       refine LWo.nil (hN20 x25 _ ⟨rfl, trivial⟩ trivial h)
      ·have h := bF h24 h
       refine LWo.guardNU (t := 56) rfl h24 rfl rfl rfl rfl rfl ?_
       refine LWo.pickFM (e_bool false) rfl h24 rfl (hn := ?_)
       refine LWo.assign (e_bool false) rfl (hn := ?_)
       refine LWo.nil (hN20 false _ ⟨rfl, trivial⟩ trivial h)
   ·intro N14 hN14
    refine LWP.region (l := [_,_,_,_,_,_]) ?_
    refine LWo.move (e_bool x9.2) rfl (hn := ?_)
    refine LWo.not rfl (hn := ?_)
    refine LWo.move (e_bool (!x9.2)) rfl (hn := ?_)
    refine LWo.byCases (t := 39) _ rfl (fun h15 => ?_) (fun h15 => ?_)
    ·have h := bT h15 h
     refine LWo.guardNU (t := 39) rfl h15 rfl rfl rfl rfl rfl ?_
     refine LWo.guardNU (t := 39) rfl h15 rfl rfl rfl rfl rfl ?_
     refine LWo.pickTM (e_bool true) rfl h15 rfl (hn := ?_)
     refine LWo.nil (hN14 (x7.2.2.2, x9.1, x9.2, x12.1, x12.2, true) _ ⟨rfl, rfl, rfl, rfl, rfl, rfl, trivial⟩ trivial h)
    ·have h := bF h15 h
     refine LWo.guardY (t := 39) rfl h15 rfl rfl ?_
     refine LWo.move (e_bool x12.2) rfl (hn := ?_)
     refine LWo.guardY (t := 39) rfl h15 rfl rfl ?_
     refine LWo.not rfl (hn := ?_)
     refine LWo.pickFM (e_bool (!x12.2)) rfl h15 rfl (hn := ?_)
     refine LWo.nil (hN14 (x7.2.2.2, x9.1, x9.2, x12.1, x12.2, (!x12.2)) _ ⟨rfl, rfl, rfl, rfl, rfl, rfl, trivial⟩ trivial h)
end Go.Proofs.Ytijihchddhikhaa
