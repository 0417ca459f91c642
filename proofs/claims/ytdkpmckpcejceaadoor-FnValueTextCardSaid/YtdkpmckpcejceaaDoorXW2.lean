/- Mirrors of functions, and that the functions return what the mirrors say. -/
import Derived.Test.YtdkpmckpcejceaaDoorXW1
set_option linter.unusedVariables false
set_option linter.unusedSimpArgs false
set_option linter.unnecessarySimpa false
set_option maxHeartbeats 4000000
namespace Go.Proofs.YtdkpmckpcejceaaDoor
open Go.Proofs Go.Lift Go.RowKit
def m_laws_FnValueText_j2 (t2 : Bool) : Option Bool :=
  some t2
def m_laws_FnValueText_j1 (t2 : Bool) : Option Bool :=
  some t2
def m_laws_FnValueText (a0 : (List UInt8)) : Option Bool :=
  bif decide ((a0.length : Int) > (1048576 : Int)) then (some true)
  else ((m_spec_DrawValueText a0).bind fun x7 =>
  lt (x7) fun y8 =>
  (m_impl_ValueText y8).bind fun x10 =>
  (m_spec_ValueText y8).bind fun x13 =>
  bif (!(sEq x10 x13)) then (some false)
  else (bif (sEq x10 (⟨#[]⟩ : ByteArray)) then ((m_impl_ValueOk y8).bind fun x20 =>
    bif (!x20) then ((m_laws_alive ).bind fun x22 =>
      m_laws_FnValueText_j1  x22)
    else (m_laws_FnValueText_j1  false))
  else ((m_impl_ValueRead x10).bind fun x24 =>
  lt (x24.1) fun y25 =>
  bif x24.2 then (m_laws_FnValueText_j2  (decide (y25 = y8)))
  else (m_laws_FnValueText_j2  false))))
theorem c_laws_FnValueText (a0 : (List UInt8)) (r : Bool) (h : m_laws_FnValueText a0 = some r) : RetG Tryd.prog GW f_laws_FnValueText [e_Luint8 a0] (e_bool r) := by
  refine DoesG.goG GW_st F_laws_FnValueText rfl e_laws_FnValueText n_laws_FnValueText rfl (rvs := [.tmp 2]) rfl ?_; intro w0 ok0 ρ0 hG; refine .seq_k fun N1 hN1 => ?_; refine .region (l := [_]) (.assign (e_bool false) rfl (hn := .nil (hN1 _ ?_))); refine .seq_k fun N2 hN2 => ?_; refine .seq_k fun N3 hN3 => ?_; refine .region (l := [_,_,_]) (.move (e_Luint8 a0) rfl (hn := .lenM (f := e_uint8) (l := a0) u_Luint8 rfl (hn := ?_))); refine .int _ rfl rfl rfl (hn := .nil (hN3 _ ?_)); refine .cond_split rfl (fun h4 => ?_) (fun h4 => ?_)
  ·have h := bT h4 h; refine .seq_k fun N5 hN5 => ?_; refine .region (l := [_]) (.assign (e_bool true) rfl (hn := .nil (hN5 _ ?_))); obtain rfl := so h; refine .ret .p
  ·have h := bF h4 h; refine .skip (hN2 _ ?_); refine .seq_k fun N6 hN6 => ?_; refine .region (l := [_,_,_,_]) (.move (e_Luint8 a0) rfl (hn := bk h fun x7 e7 h => ?_)); refine .vcall rfl rfl (c_spec_DrawValueText _ _ e7) (.same (.nil)) (hn := ?_); refine .alloc_impl_Value 3 rfl (hn := ?_); refine lk h fun y8 e8 h => ?_; refine .storeW (y := (⟨(0 : Int), (0 : Int), (⟨#[]⟩ : ByteArray)⟩ : S_impl_Value)) y8 s_impl_Value rfl rfl rfl rfl rfl rfl (by rw [e8]; exact .refl) rfl (hn := ?_); refine .nil (hN6 _ ?_); refine .seq_k fun N9 hN9 => ?_; refine .region (l := [_,_,_]) (.loadVN ((e_impl_Value y8)).cells  g_impl_Value s_impl_Value rfl rfl rfl rfl (hn := ?_)); refine bk h fun x10 e10 h => ?_; refine .vcallG hG rfl rfl (c_impl_ValueText _ _ e10) (.same (.nil)) (hn := ?_); refine .assign (e_string x10) rfl (hn := .nil (hN9 _ ?_)); refine .seq_k fun N11 hN11 => ?_; refine .seq_k fun N12 hN12 => ?_; refine .region (l := [_,_,_,_]) (.move (e_string x10) rfl (hn := .loadVN ((e_impl_Value y8)).cells  g_impl_Value s_impl_Value rfl rfl rfl rfl (hn := ?_))); refine bk h fun x13 e13 h => ?_; refine .vcall rfl rfl (c_spec_ValueText _ _ e13) (.same (.nil)) (hn := ?_); refine .str _ rfl rfl rfl (hn := .nil (hN12 _ ?_)); refine .cond_split rfl (fun h14 => ?_) (fun h14 => ?_)
   ·have h := bT h14 h; refine .seq_k fun N15 hN15 => ?_; refine .region (l := [_]) (.assign (e_bool false) rfl (hn := .nil (hN15 _ ?_))); obtain rfl := so h; refine .ret .p
   ·have h := bF h14 h; refine .skip (hN11 _ ?_); refine .seq_k fun N16 hN16 => ?_; refine .seq_k fun N17 hN17 => ?_; refine .region (l := [_,_]) (.move (e_string x10) rfl (hn := .str _ rfl rfl rfl (hn := .nil (hN17 _ ?_)))); refine .cond_split rfl (fun h18 => ?_) (fun h18 => ?_)
    ·have h := bT h18 h; refine .join (α := Bool) (fun z : Bool => [(2, (e_bool z))]) (fun z : Bool => []) (fun z : Bool => m_laws_FnValueText_j1  z) r (fun _ => by simp [hkeys]) ?_ ?_
     ·rintro t2 h; replace h : m_laws_FnValueText_j1  t2 = some _ := h; obtain rfl := so h; refine .ret .p
     ·intro N19 hN19; refine .region (l := [_,_,_,_,_,_,_]) (.loadVN ((e_impl_Value y8)).cells  g_impl_Value s_impl_Value rfl rfl rfl rfl (hn := ?_)); refine bk h fun x20 e20 h => ?_; refine .vcall rfl rfl (c_impl_ValueOk _ _ e20) (.same (.nil)) (hn := ?_); refine .not rfl (hn := ?_); refine .move (e_bool (!x20)) rfl (hn := .byCases (t := 23) _ rfl (fun h21 => ?_) (fun h21 => ?_))
      ·have h := bT h21 h; refine bk h fun x22 e22 h => ?_; refine .gY 23 h21 (.vcall rfl rfl (c_laws_alive  _ e22) (.nil) (hn := ?_)); refine .pickTM (e_bool x22) rfl h21 rfl (hn := .assign (e_bool x22) rfl (hn := .nil (hN19 x22 _ ⟨rfl, trivial⟩ trivial h)))
      ·have h := bF h21 h; refine .gN 23 h21 (.pickFM (e_bool false) rfl h21 rfl (hn := .assign (e_bool false) rfl (hn := .nil (hN19 false _ ⟨rfl, trivial⟩ trivial h))))
    ·have h := bF h18 h; refine .skip (hN16 _ ?_); refine .seq_k fun N23 hN23 => ?_; refine .region (l := [_,_,_,_,_,_,_,_]) (.move (e_string x10) rfl (hn := bk h fun x24 e24 h => ?_)); refine .vcallG hG rfl rfl (c_impl_ValueRead _ _ e24) (.same (.nil)) (hn := ?_); refine .move (.tup [(e_impl_Value x24.1), (e_bool x24.2)]) rfl (hn := .extract (e_impl_Value x24.1) rfl rfl (hn := ?_)); refine .extract (e_bool x24.2) rfl rfl (hn := ?_); refine .alloc_impl_Value 5 rfl (hn := ?_); refine lk h fun y25 e25 h => ?_; refine .storeW (y := (⟨(0 : Int), (0 : Int), (⟨#[]⟩ : ByteArray)⟩ : S_impl_Value)) y25 s_impl_Value rfl rfl rfl rfl rfl rfl (by rw [e25]; exact .refl) rfl (hn := ?_); refine .assign (e_bool x24.2) rfl (hn := .nil (hN23 _ ?_)); refine .join (α := Bool) (fun z : Bool => [(2, (e_bool z))]) (fun z : Bool => []) (fun z : Bool => m_laws_FnValueText_j2  z) r (fun _ => by simp [hkeys]) ?_ ?_
     ·rintro t2 h; replace h : m_laws_FnValueText_j2  t2 = some _ := h; obtain rfl := so h; refine .ret .p
     ·intro N26 hN26; refine .region (l := [_,_,_,_,_,_,_]) (.move (e_bool x24.2) rfl (hn := .move (e_bool x24.2) rfl (hn := .byCases (t := 32) _ rfl (fun h27 => ?_) (fun h27 => ?_))))
      ·have h := bT h27 h; refine .gY 32 h27 (.loadVN ((e_impl_Value y25)).cells  g_impl_Value s_impl_Value rfl rfl rfl rfl (hn := ?_)); refine .gY 32 h27 (.loadVN ((e_impl_Value y8)).cells  g_impl_Value s_impl_Value rfl rfl rfl rfl (hn := ?_)); refine .gY 32 h27 (.eq_impl_Value _ _ rfl rfl (hn := ?_)); refine .pickTM (e_bool (decide (y25 = y8))) rfl h27 rfl (hn := .assign (e_bool (decide (y25 = y8))) rfl (hn := .nil (hN26 (decide (y25 = y8)) _ ⟨rfl, trivial⟩ trivial h)))
      ·have h := bF h27 h; refine .gN 32 h27 (.gN 32 h27 (.gN 32 h27 (.pickFM (e_bool false) rfl h27 rfl (hn := .assign (e_bool false) rfl (hn := .nil (hN26 false _ ⟨rfl, trivial⟩ trivial h))))))
end Go.Proofs.YtdkpmckpcejceaaDoor
