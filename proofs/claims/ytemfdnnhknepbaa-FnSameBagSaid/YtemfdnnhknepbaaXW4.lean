/- Mirrors of functions, and that the functions return what the mirrors say. -/
import Derived.Test.YtemfdnnhknepbaaXW3
set_option linter.unusedVariables false
set_option linter.unusedSimpArgs false
namespace Go.Proofs.Ytemfdnnhknepbaa
open Go.Proofs Go.Lift Go.RowKit
def m_laws_FnSameBag_j2 (t2 : Bool) : Option Bool :=
  some t2
def m_laws_FnSameBag_j1 (t3 : (List (List S_impl_Value))) (t4 : (List (List S_impl_Value))) (t5 : Bool) (t29 : Bool) : Option Bool :=
  bif t29 then ((m_laws_alive ).bind fun x22 =>
    some x22)
  else ((m_impl_SameBag t4 t3).bind fun x24 =>
  bif (t5 == x24) then ((m_impl_RowsSorted t3).bind fun x26 =>
  (m_impl_RowsSorted t4).bind fun x27 =>
  (m_laws_sameRows x26 x27).bind fun x28 =>
  bif (t5 == x28) then ((m_laws_alive ).bind fun x30 =>
    m_laws_FnSameBag_j2  x30)
  else (m_laws_FnSameBag_j2  false))
  else (m_laws_FnSameBag_j2  false))
def m_laws_FnSameBag (a0 : (List UInt8)) : Option Bool :=
  bif decide ((a0.length : Int) > (1048576 : Int)) then (some true)
  else ((m_spec_DrawSameBag a0).bind fun x7 =>
  (m_impl_SameBag x7.1 x7.2).bind fun x9 =>
  (m_spec_SameBag x7.1 x7.2).bind fun x12 =>
  bif (x9 != x12) then (some false)
  else ((m_laws_allRows x7.1).bind fun x17 =>
  bif (!x17) then (m_laws_FnSameBag_j1  x7.1 x7.2 x9 true)
  else ((m_laws_allRows x7.2).bind fun x19 =>
    m_laws_FnSameBag_j1  x7.1 x7.2 x9 (!x19))))
theorem c_laws_FnSameBag (a0 : (List UInt8)) (r : Bool) (h : m_laws_FnSameBag a0 = some r) : Ret Try.prog f_laws_FnSameBag [e_Luint8 a0] (e_bool r) := by
  refine Does.goG [] F_laws_FnSameBag rfl e_laws_FnSameBag n_laws_FnSameBag rfl (rvs := [.tmp 2]) rfl rfl ?_
  intro w0 ok0 lent ρ0
  refine LWP.seq_k fun N1 hN1 => ?_
  refine LWP.region (l := [_]) ?_
  refine LWo.assign (e_bool false) rfl (hn := ?_)
  refine LWo.nil (hN1 _ ?_)
  refine LWP.seq_k fun N2 hN2 => ?_
  refine LWP.seq_k fun N3 hN3 => ?_
  refine LWP.region (l := [_,_,_]) ?_
  refine LWo.move (e_Luint8 a0) rfl (hn := ?_)
  refine LWo.lenM (f := e_uint8) (l := a0) u_Luint8 rfl (hn := ?_)
  refine LWo.int _ rfl rfl rfl (hn := ?_)
  refine LWo.nil (hN3 _ ?_)
  refine LWP.cond_split rfl (fun h4 => ?_) (fun h4 => ?_)
  · have h := bT h4 h
    refine LWP.seq_k fun N5 hN5 => ?_
    refine LWP.region (l := [_]) ?_
    refine LWo.assign (e_bool true) rfl (hn := ?_)
    refine LWo.nil (hN5 _ ?_)
    obtain rfl := Option.some.inj h
    refine LWP.ret (QG.mk (.inr rfl) (.cons (.tmp (x := (e_bool true)) rfl) (.nil)) (RetOK.one0 (.pure rfl) (by decide)) rfl rfl)
  · have h := bF h4 h
    refine LWP.skip (hN2 _ ?_)
    refine LWP.seq_k fun N6 hN6 => ?_
    refine LWP.region (l := [_,_,_,_,_,_,_]) ?_
    refine LWo.move (e_Luint8 a0) rfl (hn := ?_)
    refine bk h fun x7 e7 h => ?_
    refine LWo.vcall rfl rfl (c_spec_DrawSameBag _ _ e7) (.same (.nil)) (hn := ?_)
    refine LWo.move (.tup [(e_LLimpl_Value x7.1), (e_LLimpl_Value x7.2)]) rfl (hn := ?_)
    refine LWo.extract (e_LLimpl_Value x7.1) rfl rfl (hn := ?_)
    refine LWo.extract (e_LLimpl_Value x7.2) rfl rfl (hn := ?_)
    refine LWo.assign (e_LLimpl_Value x7.1) rfl (hn := ?_)
    refine LWo.assign (e_LLimpl_Value x7.2) rfl (hn := ?_)
    refine LWo.nil (hN6 _ ?_)
    refine LWP.seq_k fun N8 hN8 => ?_
    refine LWP.region (l := [_,_,_,_]) ?_
    refine LWo.move (e_LLimpl_Value x7.1) rfl (hn := ?_)
    refine LWo.move (e_LLimpl_Value x7.2) rfl (hn := ?_)
    refine bk h fun x9 e9 h => ?_
    refine LWo.vcall rfl rfl (c_impl_SameBag _ _ _ e9) (.same (.same (.nil))) (hn := ?_)
    refine LWo.assign (e_bool x9) rfl (hn := ?_)
    refine LWo.nil (hN8 _ ?_)
    refine LWP.seq_k fun N10 hN10 => ?_
    refine LWP.seq_k fun N11 hN11 => ?_
    refine LWP.region (l := [_,_,_,_,_]) ?_
    refine LWo.move (e_bool x9) rfl (hn := ?_)
    refine LWo.move (e_LLimpl_Value x7.1) rfl (hn := ?_)
    refine LWo.move (e_LLimpl_Value x7.2) rfl (hn := ?_)
    refine bk h fun x12 e12 h => ?_
    refine LWo.vcall rfl rfl (c_spec_SameBag _ _ _ e12) (.same (.same (.nil))) (hn := ?_)
    refine LWo.boolNe u_bool rfl rfl (hn := ?_)
    refine LWo.nil (hN11 _ ?_)
    refine LWP.cond_split rfl (fun h13 => ?_) (fun h13 => ?_)
    · have h := bT h13 h
      refine LWP.seq_k fun N14 hN14 => ?_
      refine LWP.region (l := [_]) ?_
      refine LWo.assign (e_bool false) rfl (hn := ?_)
      refine LWo.nil (hN14 _ ?_)
      obtain rfl := Option.some.inj h
      refine LWP.ret (QG.mk (.inr rfl) (.cons (.tmp (x := (e_bool false)) rfl) (.nil)) (RetOK.one0 (.pure rfl) (by decide)) rfl rfl)
    · have h := bF h13 h
      refine LWP.skip (hN10 _ ?_)
      refine LWP.seq_k fun N15 hN15 => ?_
      refine LWP.join (α := (List (List S_impl_Value)) × (List (List S_impl_Value)) × Bool × Bool) (fun z : (List (List S_impl_Value)) × (List (List S_impl_Value)) × Bool × Bool => [(3, (e_LLimpl_Value z.1)), (4, (e_LLimpl_Value z.2.1)), (5, (e_bool z.2.2.1)), (29, (e_bool z.2.2.2))]) (fun z : (List (List S_impl_Value)) × (List (List S_impl_Value)) × Bool × Bool => []) (fun z : (List (List S_impl_Value)) × (List (List S_impl_Value)) × Bool × Bool => m_laws_FnSameBag_j1  z.1 z.2.1 z.2.2.1 z.2.2.2) r (fun _ => by simp [hkeys]) ?_ ?_
      · rintro ⟨t3, t4, t5, t29⟩ h
        replace h : m_laws_FnSameBag_j1  t3 t4 t5 t29 = some _ := h
        refine LWP.cond_split rfl (fun h20 => ?_) (fun h20 => ?_)
        · have h := bT h20 h
          refine LWP.seq_k fun N21 hN21 => ?_
          refine LWP.region (l := [_,_]) ?_
          refine bk h fun x22 e22 h => ?_
          refine LWo.vcall rfl rfl (c_laws_alive  _ e22) (.nil) (hn := ?_)
          refine LWo.assign (e_bool x22) rfl (hn := ?_)
          refine LWo.nil (hN21 _ ?_)
          obtain rfl := Option.some.inj h
          refine LWP.ret (QG.mk (.inr rfl) (.cons (.tmp (x := (e_bool x22)) rfl) (.nil)) (RetOK.one0 (.pure rfl) (by decide)) rfl rfl)
        · have h := bF h20 h
          refine LWP.skip (hN15 _ ?_)
          refine LWP.join (α := Bool) (fun z : Bool => [(2, (e_bool z))]) (fun z : Bool => []) (fun z : Bool => m_laws_FnSameBag_j2  z) r (fun _ => by simp [hkeys]) ?_ ?_
          · rintro t2 h
            replace h : m_laws_FnSameBag_j2  t2 = some _ := h
            obtain rfl := Option.some.inj h
            refine LWP.ret (QG.mk (.inr rfl) (.cons (.tmp (x := (e_bool t2)) rfl) (.nil)) (RetOK.one0 (.pure rfl) (by decide)) rfl rfl)
          · intro N23 hN23
            refine LWP.region (l := [_,_,_,_,_,_,_,_,_,_,_,_,_,_,_,_,_,_]) ?_
            refine LWo.move (e_bool t5) rfl (hn := ?_)
            refine LWo.move (e_LLimpl_Value t4) rfl (hn := ?_)
            refine LWo.move (e_LLimpl_Value t3) rfl (hn := ?_)
            refine bk h fun x24 e24 h => ?_
            refine LWo.vcall rfl rfl (c_impl_SameBag _ _ _ e24) (.same (.same (.nil))) (hn := ?_)
            refine LWo.boolEq u_bool rfl rfl (hn := ?_)
            refine LWo.move (e_bool (t5 == x24)) rfl (hn := ?_)
            refine LWo.byCases (t := 36) _ rfl (fun h25 => ?_) (fun h25 => ?_)
            · have h := bT h25 h
              refine LWo.guardY (t := 36) rfl h25 rfl rfl ?_
              refine LWo.move (e_bool t5) rfl (hn := ?_)
              refine LWo.guardY (t := 36) rfl h25 rfl rfl ?_
              refine LWo.move (e_LLimpl_Value t3) rfl (hn := ?_)
              refine bk h fun x26 e26 h => ?_
              refine LWo.guardY (t := 36) rfl h25 rfl rfl ?_
              refine LWo.vcall rfl rfl (c_impl_RowsSorted _ _ e26) (.same (.nil)) (hn := ?_)
              refine LWo.guardY (t := 36) rfl h25 rfl rfl ?_
              refine LWo.move (e_LLimpl_Value t4) rfl (hn := ?_)
              refine bk h fun x27 e27 h => ?_
              refine LWo.guardY (t := 36) rfl h25 rfl rfl ?_
              refine LWo.vcall rfl rfl (c_impl_RowsSorted _ _ e27) (.same (.nil)) (hn := ?_)
              refine bk h fun x28 e28 h => ?_
              refine LWo.guardY (t := 36) rfl h25 rfl rfl ?_
              refine LWo.vcall rfl rfl (c_laws_sameRows _ _ _ e28) (.same (.same (.nil))) (hn := ?_)
              refine LWo.guardY (t := 36) rfl h25 rfl rfl ?_
              refine LWo.boolEq u_bool rfl rfl (hn := ?_)
              refine LWo.pickTM (e_bool (t5 == x28)) rfl h25 rfl (hn := ?_)
              refine LWo.move (e_bool (t5 == x28)) rfl (hn := ?_)
              refine LWo.byCases (t := 45) _ rfl (fun h29 => ?_) (fun h29 => ?_)
              · have h := bT h29 h
                refine bk h fun x30 e30 h => ?_
                refine LWo.guardY (t := 45) rfl h29 rfl rfl ?_
                refine LWo.vcall rfl rfl (c_laws_alive  _ e30) (.nil) (hn := ?_)
                refine LWo.pickTM (e_bool x30) rfl h29 rfl (hn := ?_)
                refine LWo.assign (e_bool x30) rfl (hn := ?_)
                refine LWo.nil (hN23 x30 _ ⟨rfl, trivial⟩ trivial h)
              · have h := bF h29 h
                refine LWo.guardN (t := 45) rfl h29 rfl rfl rfl rfl rfl ?_
                refine LWo.pickFM (e_bool false) rfl h29 rfl (hn := ?_)
                refine LWo.assign (e_bool false) rfl (hn := ?_)
                refine LWo.nil (hN23 false _ ⟨rfl, trivial⟩ trivial h)
            · have h := bF h25 h
              refine LWo.guardN (t := 36) rfl h25 rfl rfl rfl rfl rfl ?_
              refine LWo.guardN (t := 36) rfl h25 rfl rfl rfl rfl rfl ?_
              refine LWo.guardN (t := 36) rfl h25 rfl rfl rfl rfl rfl ?_
              refine LWo.guardN (t := 36) rfl h25 rfl rfl rfl rfl rfl ?_
              refine LWo.guardN (t := 36) rfl h25 rfl rfl rfl rfl rfl ?_
              refine LWo.guardN (t := 36) rfl h25 rfl rfl rfl rfl rfl ?_
              refine LWo.guardN (t := 36) rfl h25 rfl rfl rfl rfl rfl ?_
              refine LWo.pickFM (e_bool false) rfl h25 rfl (hn := ?_)
              refine LWo.move (e_bool false) rfl (hn := ?_)
              refine LWo.guardN (t := 45) rfl rfl rfl rfl rfl rfl rfl ?_
              refine LWo.pickFM (e_bool false) rfl rfl rfl (hn := ?_)
              refine LWo.assign (e_bool false) rfl (hn := ?_)
              refine LWo.nil (hN23 false _ ⟨rfl, trivial⟩ trivial h)
      · intro N16 hN16
        refine LWP.region (l := [_,_,_,_,_,_,_,_]) ?_
        refine LWo.move (e_LLimpl_Value x7.1) rfl (hn := ?_)
        refine bk h fun x17 e17 h => ?_
        refine LWo.vcall rfl rfl (c_laws_allRows _ _ e17) (.same (.nil)) (hn := ?_)
        refine LWo.not rfl (hn := ?_)
        refine LWo.move (e_bool (!x17)) rfl (hn := ?_)
        refine LWo.byCases (t := 25) _ rfl (fun h18 => ?_) (fun h18 => ?_)
        · have h := bT h18 h
          refine LWo.guardN (t := 25) rfl h18 rfl rfl rfl rfl rfl ?_
          refine LWo.guardN (t := 25) rfl h18 rfl rfl rfl rfl rfl ?_
          refine LWo.guardN (t := 25) rfl h18 rfl rfl rfl rfl rfl ?_
          refine LWo.pickTM (e_bool true) rfl h18 rfl (hn := ?_)
          refine LWo.nil (hN16 (x7.1, x7.2, x9, true) _ ⟨rfl, rfl, rfl, rfl, trivial⟩ trivial h)
        · have h := bF h18 h
          refine LWo.guardY (t := 25) rfl h18 rfl rfl ?_
          refine LWo.move (e_LLimpl_Value x7.2) rfl (hn := ?_)
          refine bk h fun x19 e19 h => ?_
          refine LWo.guardY (t := 25) rfl h18 rfl rfl ?_
          refine LWo.vcall rfl rfl (c_laws_allRows _ _ e19) (.same (.nil)) (hn := ?_)
          refine LWo.guardY (t := 25) rfl h18 rfl rfl ?_
          refine LWo.not rfl (hn := ?_)
          refine LWo.pickFM (e_bool (!x19)) rfl h18 rfl (hn := ?_)
          refine LWo.nil (hN16 (x7.1, x7.2, x9, (!x19)) _ ⟨rfl, rfl, rfl, rfl, trivial⟩ trivial h)
end Go.Proofs.Ytemfdnnhknepbaa
